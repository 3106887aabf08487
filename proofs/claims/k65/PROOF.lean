import PyProof.Rows.All
import Wide.All
import OpenK.AllK
import Wide.FinOn
import KE.KStateDown
import HandS.ForMost
import HandS.More
import HandS.WordsExc
import HandS.Defaults
import HandS.IsInst
import HandS.Gcd
import HandS.Evl
import HandS.Head3
import HandS.HeadEnd
import HandS.HeadHook2
import PySem.Challenge.RW_tautparcel_k65_whole_lanes_of_a_box_seen
import KE.DatumMoreOrd
import KE.SortKeyHeap
import PyProof.Claim2Refuses
import KE.SortData
import KE.DataMinMax
import OpenK.KWalk
import PyProof.InstEq
import PyProof.InstNe
import KE.GoesMore
import HandS.Iter
import HandS.TupAny
import HandS.Style
import KE.KDictKeyed
import KE.KeyNested
import HandS.Lambda
import KE.KSortKey
import KE.KLam
import HandS.IterVal
import KE.KOwnIter
import KE.KDictIter
import PyProof.FactsLen
import HandS.Flow
import HandS.Conv
import KE.KDictSum
import HandS.EndTab
import HandS.EndBits
/-! A -/
set_option Elab.async false
set_option linter.all false
set_option maxRecDepth 100000
set_option maxHeartbeats 4000000
namespace TP
open PySem PySem.Spec PyProof.Rows L2
/-! the text by places -/
def top (i : Nat) : Stmt := PySem.Challenge.pw_tautparcel_k65_whole_lanes_of_a_box_seen.main.body.getD i (.Pass ⟨0, 0, 0, 0⟩)

def nm0 : List Str := ["gcd", "_wall", "ParcelError", "BadBox", "BadFace", "BadSlope", "BadDirection", "BadHow", "TooMany", "BadFaceRow", "is_whole", "in_lowest", "plus", "sum_of", "check_face", "face_axes", "faces_beside", "Box", "framed", "check_slope", "mirrored_slope", "check_direction", "unframed", "directions_on", "outward_step", "check_facerow", "back_row", "least_begun", "least_row", "turn_couple"]
def nm1 : List Str := ["slope_to", "Lane", "Strip", "measure_at", "face_level", "edge_ends", "sideways_range", "leaving_faces", "gone_over", "onward", "strips_round", "widened", "edge_number", "middle_length", "least_turn", "lane_of_ring", "ring_lengths", "ring_length", "lanes_of", "Lanes", "is_triple", "check_how", "keeps_sense", "led_box", "led_slope", "_law_hand", "_law_mixed", "_law_take", "_law_sides", "_law_slope"]
def nm2 : List Str := ["_law_couples", "_law_common", "_law_axes", "_law_steps", "_law_four", "_law_out", "_law_over", "_law_pass", "_law_ray", "_law_begun", "_law_turned_least", "_law_least_row", "_law_halves", "_law_lanes", "_law_tuples", "_law_orders", "_law_how", "_law_keeps", "_law_led_face", "_law_led_slope", "_law_world", "_law_due", "ZERO", "MOST_SIDE", "FRAMES", "MOST_SLOPE", "MOST_STEP", "MOST_FACES", "ORDERS", "SIGNS"]
def nm3 : List Str := ["TURNED_ORDERS"]
def loose : List Str := nm0 ++ (nm1 ++ (nm2 ++ (nm3)))
abbrev s_is_whole : Stmt := (top 13)
abbrev s_in_lowest : Stmt := (top 14)
abbrev s_plus : Stmt := (top 15)
abbrev s_sum_of : Stmt := (top 16)
abbrev s_check_face : Stmt := (top 20)
abbrev s_face_axes : Stmt := (top 21)
abbrev s_faces_beside : Stmt := (top 22)
abbrev s_Box_init : Stmt := (inClass (top 23) 0)
abbrev s_Box_eq : Stmt := (inClass (top 23) 1)
abbrev s_framed : Stmt := (top 25)
abbrev s_check_slope : Stmt := (top 29)
abbrev s_mirrored_slope : Stmt := (top 30)
abbrev s_check_direction : Stmt := (top 31)
abbrev s_unframed : Stmt := (top 32)
abbrev s_directions_on : Stmt := (top 33)
abbrev s_outward_step : Stmt := (top 34)
abbrev s_check_facerow : Stmt := (top 36)
abbrev s_back_row : Stmt := (top 37)
abbrev s_least_begun : Stmt := (top 38)
abbrev s_least_row : Stmt := (top 39)
abbrev s_turn_couple : Stmt := (top 41)
abbrev s_slope_to : Stmt := (top 43)
abbrev s_Lane_init : Stmt := (inClass (top 44) 0)
abbrev s_Strip_init : Stmt := (inClass (top 47) 0)
abbrev s_Strip_eq : Stmt := (inClass (top 47) 1)
abbrev s_measure_at : Stmt := (top 48)
abbrev s_face_level : Stmt := (top 49)
abbrev s_edge_ends : Stmt := (top 50)
abbrev s_sideways_range : Stmt := (top 51)
abbrev s_leaving_faces : Stmt := (top 52)
abbrev s_gone_over : Stmt := (top 53)
abbrev s_onward : Stmt := (top 54)
abbrev s_strips_round : Stmt := (top 55)
abbrev s_widened : Stmt := (top 56)
abbrev s_edge_number : Stmt := (top 57)
abbrev s_middle_length : Stmt := (top 58)
abbrev s_least_turn : Stmt := (top 59)
abbrev s_lane_of_ring : Stmt := (top 60)
abbrev s_ring_lengths : Stmt := (top 61)
abbrev s_ring_length : Stmt := (top 62)
abbrev s_lanes_of : Stmt := (top 63)
abbrev s_Lanes_init : Stmt := (inClass (top 64) 0)
abbrev s_Lanes_len : Stmt := (inClass (top 64) 2)
abbrev s_Lanes_iter : Stmt := (inClass (top 64) 3)
abbrev s_is_triple : Stmt := (top 69)
abbrev s_check_how : Stmt := (top 70)
abbrev s_keeps_sense : Stmt := (top 71)
abbrev s_led_box : Stmt := (top 72)
abbrev s_led_slope : Stmt := (top 73)
abbrev s_law_hand : Stmt := (top 75)
abbrev s_law_mixed : Stmt := (top 76)
abbrev s_law_take : Stmt := (top 77)
abbrev s_law_sides : Stmt := (top 78)
abbrev s_law_slope : Stmt := (top 79)
abbrev s_law_couples : Stmt := (top 80)
abbrev s_law_common : Stmt := (top 81)
abbrev s_law_axes : Stmt := (top 82)
abbrev s_law_steps : Stmt := (top 83)
abbrev s_law_four : Stmt := (top 84)
abbrev s_law_out : Stmt := (top 85)
abbrev s_law_over : Stmt := (top 86)
abbrev s_law_pass : Stmt := (top 87)
abbrev s_law_ray : Stmt := (top 88)
abbrev s_law_turned_least : Stmt := (top 90)
abbrev s_law_least_row : Stmt := (top 91)
abbrev s_law_halves : Stmt := (top 92)
abbrev s_law_lanes : Stmt := (top 93)
abbrev s_law_tuples : Stmt := (top 94)
abbrev s_law_orders : Stmt := (top 95)
abbrev s_law_how : Stmt := (top 96)
abbrev s_law_keeps : Stmt := (top 97)
abbrev s_law_led_face : Stmt := (top 98)
abbrev s_law_led_slope : Stmt := (top 99)
abbrev s_law_world : Stmt := (top 100)
abbrev s_law_due : Stmt := (top 101)
abbrev s_law : Stmt := (top 102)
/-! the defs as data, in order -/
def dd_is_whole : He.DefD := ⟨(("is_whole", none)), "is_whole", "is_whole", defArgs s_is_whole, defBody s_is_whole, defScope s_is_whole, [.non, .non], []⟩
def dd_in_lowest : He.DefD := ⟨(("in_lowest", none)), "in_lowest", "in_lowest", defArgs s_in_lowest, defBody s_in_lowest, defScope s_in_lowest, [], []⟩
def dd_plus : He.DefD := ⟨(("plus", none)), "plus", "plus", defArgs s_plus, defBody s_plus, defScope s_plus, [], []⟩
def dd_sum_of : He.DefD := ⟨(("sum_of", none)), "sum_of", "sum_of", defArgs s_sum_of, defBody s_sum_of, defScope s_sum_of, [], []⟩
def dd_check_face : He.DefD := ⟨(("check_face", none)), "check_face", "check_face", defArgs s_check_face, defBody s_check_face, defScope s_check_face, [], []⟩
def dd_face_axes : He.DefD := ⟨(("face_axes", none)), "face_axes", "face_axes", defArgs s_face_axes, defBody s_face_axes, defScope s_face_axes, [], []⟩
def dd_faces_beside : He.DefD := ⟨(("faces_beside", none)), "faces_beside", "faces_beside", defArgs s_faces_beside, defBody s_faces_beside, defScope s_faces_beside, [], []⟩
def dd_Box_init : He.DefD := ⟨(("Box", some "__init__")), "__init__", "Box.__init__", defArgs s_Box_init, defBody s_Box_init, defScope s_Box_init, [], []⟩
def dd_Box_eq : He.DefD := ⟨(("Box", some "__eq__")), "__eq__", "Box.__eq__", defArgs s_Box_eq, defBody s_Box_eq, defScope s_Box_eq, [], []⟩
def dd_framed : He.DefD := ⟨(("framed", none)), "framed", "framed", defArgs s_framed, defBody s_framed, defScope s_framed, [], []⟩
def dd_check_slope : He.DefD := ⟨(("check_slope", none)), "check_slope", "check_slope", defArgs s_check_slope, defBody s_check_slope, defScope s_check_slope, [.bl false], []⟩
def dd_mirrored_slope : He.DefD := ⟨(("mirrored_slope", none)), "mirrored_slope", "mirrored_slope", defArgs s_mirrored_slope, defBody s_mirrored_slope, defScope s_mirrored_slope, [], []⟩
def dd_check_direction : He.DefD := ⟨(("check_direction", none)), "check_direction", "check_direction", defArgs s_check_direction, defBody s_check_direction, defScope s_check_direction, [], []⟩
def dd_unframed : He.DefD := ⟨(("unframed", none)), "unframed", "unframed", defArgs s_unframed, defBody s_unframed, defScope s_unframed, [], []⟩
def dd_directions_on : He.DefD := ⟨(("directions_on", none)), "directions_on", "directions_on", defArgs s_directions_on, defBody s_directions_on, defScope s_directions_on, [], []⟩
def dd_outward_step : He.DefD := ⟨(("outward_step", none)), "outward_step", "outward_step", defArgs s_outward_step, defBody s_outward_step, defScope s_outward_step, [], []⟩
def dd_check_facerow : He.DefD := ⟨(("check_facerow", none)), "check_facerow", "check_facerow", defArgs s_check_facerow, defBody s_check_facerow, defScope s_check_facerow, [], []⟩
def dd_back_row : He.DefD := ⟨(("back_row", none)), "back_row", "back_row", defArgs s_back_row, defBody s_back_row, defScope s_back_row, [], []⟩
def dd_least_begun : He.DefD := ⟨(("least_begun", none)), "least_begun", "least_begun", defArgs s_least_begun, defBody s_least_begun, defScope s_least_begun, [], []⟩
def dd_least_row : He.DefD := ⟨(("least_row", none)), "least_row", "least_row", defArgs s_least_row, defBody s_least_row, defScope s_least_row, [], []⟩
def dd_turn_couple : He.DefD := ⟨(("turn_couple", none)), "turn_couple", "turn_couple", defArgs s_turn_couple, defBody s_turn_couple, defScope s_turn_couple, [], []⟩
def dd_slope_to : He.DefD := ⟨(("slope_to", none)), "slope_to", "slope_to", defArgs s_slope_to, defBody s_slope_to, defScope s_slope_to, [], []⟩
def dd_Lane_init : He.DefD := ⟨(("Lane", some "__init__")), "__init__", "Lane.__init__", defArgs s_Lane_init, defBody s_Lane_init, defScope s_Lane_init, [], []⟩
def dd_Strip_init : He.DefD := ⟨(("Strip", some "__init__")), "__init__", "Strip.__init__", defArgs s_Strip_init, defBody s_Strip_init, defScope s_Strip_init, [], []⟩
def dd_Strip_eq : He.DefD := ⟨(("Strip", some "__eq__")), "__eq__", "Strip.__eq__", defArgs s_Strip_eq, defBody s_Strip_eq, defScope s_Strip_eq, [], []⟩
def dd_measure_at : He.DefD := ⟨(("measure_at", none)), "measure_at", "measure_at", defArgs s_measure_at, defBody s_measure_at, defScope s_measure_at, [], []⟩
def dd_face_level : He.DefD := ⟨(("face_level", none)), "face_level", "face_level", defArgs s_face_level, defBody s_face_level, defScope s_face_level, [], []⟩
def dd_edge_ends : He.DefD := ⟨(("edge_ends", none)), "edge_ends", "edge_ends", defArgs s_edge_ends, defBody s_edge_ends, defScope s_edge_ends, [], []⟩
def dd_sideways_range : He.DefD := ⟨(("sideways_range", none)), "sideways_range", "sideways_range", defArgs s_sideways_range, defBody s_sideways_range, defScope s_sideways_range, [], []⟩
def dd_leaving_faces : He.DefD := ⟨(("leaving_faces", none)), "leaving_faces", "leaving_faces", defArgs s_leaving_faces, defBody s_leaving_faces, defScope s_leaving_faces, [], []⟩
def dd_gone_over : He.DefD := ⟨(("gone_over", none)), "gone_over", "gone_over", defArgs s_gone_over, defBody s_gone_over, defScope s_gone_over, [], []⟩
def dd_onward : He.DefD := ⟨(("onward", none)), "onward", "onward", defArgs s_onward, defBody s_onward, defScope s_onward, [], []⟩
def dd_strips_round : He.DefD := ⟨(("strips_round", none)), "strips_round", "strips_round", defArgs s_strips_round, defBody s_strips_round, defScope s_strips_round, [], []⟩
def dd_widened : He.DefD := ⟨(("widened", none)), "widened", "widened", defArgs s_widened, defBody s_widened, defScope s_widened, [], []⟩
def dd_edge_number : He.DefD := ⟨(("edge_number", none)), "edge_number", "edge_number", defArgs s_edge_number, defBody s_edge_number, defScope s_edge_number, [], []⟩
def dd_middle_length : He.DefD := ⟨(("middle_length", none)), "middle_length", "middle_length", defArgs s_middle_length, defBody s_middle_length, defScope s_middle_length, [], []⟩
def dd_least_turn : He.DefD := ⟨(("least_turn", none)), "least_turn", "least_turn", defArgs s_least_turn, defBody s_least_turn, defScope s_least_turn, [], []⟩
def dd_lane_of_ring : He.DefD := ⟨(("lane_of_ring", none)), "lane_of_ring", "lane_of_ring", defArgs s_lane_of_ring, defBody s_lane_of_ring, defScope s_lane_of_ring, [], []⟩
def dd_ring_lengths : He.DefD := ⟨(("ring_lengths", none)), "ring_lengths", "ring_lengths", defArgs s_ring_lengths, defBody s_ring_lengths, defScope s_ring_lengths, [], []⟩
def dd_ring_length : He.DefD := ⟨(("ring_length", none)), "ring_length", "ring_length", defArgs s_ring_length, defBody s_ring_length, defScope s_ring_length, [], []⟩
def dd_lanes_of : He.DefD := ⟨(("lanes_of", none)), "lanes_of", "lanes_of", defArgs s_lanes_of, defBody s_lanes_of, defScope s_lanes_of, [], []⟩
def dd_Lanes_init : He.DefD := ⟨(("Lanes", some "__init__")), "__init__", "Lanes.__init__", defArgs s_Lanes_init, defBody s_Lanes_init, defScope s_Lanes_init, [], []⟩
def dd_Lanes_len : He.DefD := ⟨(("Lanes", some "__len__")), "__len__", "Lanes.__len__", defArgs s_Lanes_len, defBody s_Lanes_len, defScope s_Lanes_len, [], []⟩
def dd_Lanes_iter : He.DefD := ⟨(("Lanes", some "__iter__")), "__iter__", "Lanes.__iter__", defArgs s_Lanes_iter, defBody s_Lanes_iter, defScope s_Lanes_iter, [], []⟩
def dd_is_triple : He.DefD := ⟨(("is_triple", none)), "is_triple", "is_triple", defArgs s_is_triple, defBody s_is_triple, defScope s_is_triple, [], []⟩
def dd_check_how : He.DefD := ⟨(("check_how", none)), "check_how", "check_how", defArgs s_check_how, defBody s_check_how, defScope s_check_how, [], []⟩
def dd_keeps_sense : He.DefD := ⟨(("keeps_sense", none)), "keeps_sense", "keeps_sense", defArgs s_keeps_sense, defBody s_keeps_sense, defScope s_keeps_sense, [], []⟩
def dd_led_box : He.DefD := ⟨(("led_box", none)), "led_box", "led_box", defArgs s_led_box, defBody s_led_box, defScope s_led_box, [], []⟩
def dd_led_slope : He.DefD := ⟨(("led_slope", none)), "led_slope", "led_slope", defArgs s_led_slope, defBody s_led_slope, defScope s_led_slope, [], []⟩
def dd_law_hand : He.DefD := ⟨(("_law_hand", none)), "_law_hand", "_law_hand", defArgs s_law_hand, defBody s_law_hand, defScope s_law_hand, [], []⟩
def dd_law_mixed : He.DefD := ⟨(("_law_mixed", none)), "_law_mixed", "_law_mixed", defArgs s_law_mixed, defBody s_law_mixed, defScope s_law_mixed, [], []⟩
def dd_law_take : He.DefD := ⟨(("_law_take", none)), "_law_take", "_law_take", defArgs s_law_take, defBody s_law_take, defScope s_law_take, [], []⟩
def dd_law_sides : He.DefD := ⟨(("_law_sides", none)), "_law_sides", "_law_sides", defArgs s_law_sides, defBody s_law_sides, defScope s_law_sides, [], []⟩
def dd_law_slope : He.DefD := ⟨(("_law_slope", none)), "_law_slope", "_law_slope", defArgs s_law_slope, defBody s_law_slope, defScope s_law_slope, [], []⟩
def dd_law_couples : He.DefD := ⟨(("_law_couples", none)), "_law_couples", "_law_couples", defArgs s_law_couples, defBody s_law_couples, defScope s_law_couples, [], []⟩
def dd_law_common : He.DefD := ⟨(("_law_common", none)), "_law_common", "_law_common", defArgs s_law_common, defBody s_law_common, defScope s_law_common, [], []⟩
def dd_law_axes : He.DefD := ⟨(("_law_axes", none)), "_law_axes", "_law_axes", defArgs s_law_axes, defBody s_law_axes, defScope s_law_axes, [], []⟩
def dd_law_steps : He.DefD := ⟨(("_law_steps", none)), "_law_steps", "_law_steps", defArgs s_law_steps, defBody s_law_steps, defScope s_law_steps, [], []⟩
def dd_law_four : He.DefD := ⟨(("_law_four", none)), "_law_four", "_law_four", defArgs s_law_four, defBody s_law_four, defScope s_law_four, [], []⟩
def dd_law_out : He.DefD := ⟨(("_law_out", none)), "_law_out", "_law_out", defArgs s_law_out, defBody s_law_out, defScope s_law_out, [], []⟩
def dd_law_over : He.DefD := ⟨(("_law_over", none)), "_law_over", "_law_over", defArgs s_law_over, defBody s_law_over, defScope s_law_over, [], []⟩
def dd_law_pass : He.DefD := ⟨(("_law_pass", none)), "_law_pass", "_law_pass", defArgs s_law_pass, defBody s_law_pass, defScope s_law_pass, [], []⟩
def dd_law_ray : He.DefD := ⟨(("_law_ray", none)), "_law_ray", "_law_ray", defArgs s_law_ray, defBody s_law_ray, defScope s_law_ray, [], []⟩
def dd_law_turned_least : He.DefD := ⟨(("_law_turned_least", none)), "_law_turned_least", "_law_turned_least", defArgs s_law_turned_least, defBody s_law_turned_least, defScope s_law_turned_least, [], []⟩
def dd_law_least_row : He.DefD := ⟨(("_law_least_row", none)), "_law_least_row", "_law_least_row", defArgs s_law_least_row, defBody s_law_least_row, defScope s_law_least_row, [], []⟩
def dd_law_halves : He.DefD := ⟨(("_law_halves", none)), "_law_halves", "_law_halves", defArgs s_law_halves, defBody s_law_halves, defScope s_law_halves, [], []⟩
def dd_law_lanes : He.DefD := ⟨(("_law_lanes", none)), "_law_lanes", "_law_lanes", defArgs s_law_lanes, defBody s_law_lanes, defScope s_law_lanes, [], []⟩
def dd_law_tuples : He.DefD := ⟨(("_law_tuples", none)), "_law_tuples", "_law_tuples", defArgs s_law_tuples, defBody s_law_tuples, defScope s_law_tuples, [], []⟩
def dd_law_orders : He.DefD := ⟨(("_law_orders", none)), "_law_orders", "_law_orders", defArgs s_law_orders, defBody s_law_orders, defScope s_law_orders, [], []⟩
def dd_law_how : He.DefD := ⟨(("_law_how", none)), "_law_how", "_law_how", defArgs s_law_how, defBody s_law_how, defScope s_law_how, [], []⟩
def dd_law_keeps : He.DefD := ⟨(("_law_keeps", none)), "_law_keeps", "_law_keeps", defArgs s_law_keeps, defBody s_law_keeps, defScope s_law_keeps, [], []⟩
def dd_law_led_face : He.DefD := ⟨(("_law_led_face", none)), "_law_led_face", "_law_led_face", defArgs s_law_led_face, defBody s_law_led_face, defScope s_law_led_face, [], []⟩
def dd_law_led_slope : He.DefD := ⟨(("_law_led_slope", none)), "_law_led_slope", "_law_led_slope", defArgs s_law_led_slope, defBody s_law_led_slope, defScope s_law_led_slope, [], []⟩
def dd_law_world : He.DefD := ⟨(("_law_world", none)), "_law_world", "_law_world", defArgs s_law_world, defBody s_law_world, defScope s_law_world, [], []⟩
def dd_law_due : He.DefD := ⟨(("_law_due", none)), "_law_due", "_law_due", defArgs s_law_due, defBody s_law_due, defScope s_law_due, [], []⟩
def dd_law : He.DefD := ⟨(("law", none)), "law", "law", defArgs s_law, defBody s_law, defScope s_law, [], []⟩
def fn0 : List He.DefD := [dd_is_whole, dd_in_lowest, dd_plus, dd_sum_of, dd_check_face, dd_face_axes, dd_faces_beside, dd_Box_init, dd_Box_eq, dd_framed, dd_check_slope, dd_mirrored_slope, dd_check_direction, dd_unframed, dd_directions_on, dd_outward_step, dd_check_facerow, dd_back_row, dd_least_begun, dd_least_row]
def fn1 : List He.DefD := [dd_turn_couple, dd_slope_to, dd_Lane_init, dd_Strip_init, dd_Strip_eq, dd_measure_at, dd_face_level, dd_edge_ends, dd_sideways_range, dd_leaving_faces, dd_gone_over, dd_onward, dd_strips_round, dd_widened, dd_edge_number, dd_middle_length, dd_least_turn, dd_lane_of_ring, dd_ring_lengths, dd_ring_length]
def fn2 : List He.DefD := [dd_lanes_of, dd_Lanes_init, dd_Lanes_len, dd_Lanes_iter, dd_is_triple, dd_check_how, dd_keeps_sense, dd_led_box, dd_led_slope, dd_law_hand, dd_law_mixed, dd_law_take, dd_law_sides, dd_law_slope, dd_law_couples, dd_law_common, dd_law_axes, dd_law_steps, dd_law_four, dd_law_out]
def fn3 : List He.DefD := [dd_law_over, dd_law_pass, dd_law_ray, dd_law_turned_least, dd_law_least_row, dd_law_halves, dd_law_lanes, dd_law_tuples, dd_law_orders, dd_law_how, dd_law_keeps, dd_law_led_face, dd_law_led_slope, dd_law_world, dd_law_due, dd_law]
def fa0 : List He.Fa := [.glo "is_whole", .glo "in_lowest", .glo "plus", .glo "sum_of", .glo "check_face", .glo "face_axes", .glo "faces_beside", .glo "framed", .glo "check_slope", .glo "mirrored_slope", .glo "check_direction", .glo "unframed", .glo "directions_on", .glo "outward_step", .glo "check_facerow", .glo "back_row", .glo "least_begun", .glo "least_row", .glo "turn_couple", .glo "slope_to", .glo "measure_at", .glo "face_level", .glo "edge_ends", .glo "sideways_range", .glo "leaving_faces", .glo "gone_over", .glo "onward", .glo "strips_round", .glo "widened", .glo "edge_number"]
def fa1 : List He.Fa := [.glo "middle_length", .glo "least_turn", .glo "lane_of_ring", .glo "ring_lengths", .glo "ring_length", .glo "lanes_of", .glo "is_triple", .glo "check_how", .glo "keeps_sense", .glo "led_box", .glo "led_slope", .glo "_law_hand", .glo "_law_mixed", .glo "_law_take", .glo "_law_sides", .glo "_law_slope", .glo "_law_couples", .glo "_law_common", .glo "_law_axes", .glo "_law_steps", .glo "_law_four", .glo "_law_out", .glo "_law_over", .glo "_law_pass", .glo "_law_ray", .glo "_law_turned_least", .glo "_law_least_row", .glo "_law_halves", .glo "_law_lanes", .glo "_law_tuples"]
def fa2 : List He.Fa := [.glo "_law_orders", .glo "_law_how", .glo "_law_keeps", .glo "_law_led_face", .glo "_law_led_slope", .glo "_law_world", .glo "_law_due", .glo "law", .glo "Box", .cls "Box", .mkr "Box", .glo "Lane", .cls "Lane", .mkr "Lane", .glo "Strip", .cls "Strip", .mkr "Strip", .glo "Lanes", .cls "Lanes", .mkr "Lanes", .meth "Box" "__eq__", .meth "Strip" "__eq__", .meth "Lanes" "__len__", .meth "Lanes" "__iter__", .noat "Box" "sides", .noat "Strip" "face", .noat "Strip" "direction", .noat "Strip" "low", .noat "Strip" "high", .noat "Lane" "box"]
def fa3 : List He.Fa := [.noat "Lane" "faces", .noat "Lane" "direction", .noat "Lane" "low", .noat "Lane" "length", .noat "Lane" "breadth", .noat "Lane" "slope", .noat "Lane" "row", .noat "Lanes" "box", .noat "Lanes" "slope", .noat "Lanes" "lanes", .glo "ZERO", .glo "FRAMES", .glo "ORDERS", .glo "SIGNS", .glo "TURNED_ORDERS", .int "MOST_SIDE" 60, .int "MOST_SLOPE" 9, .int "MOST_STEP" 10000, .int "MOST_FACES" 400, .free "isinstance", .free "bool", .free "int", .free "list", .free "tuple", .free "len", .free "enumerate", .free "range", .free "min", .free "max", .free "sorted"]
def fa4 : List He.Fa := [.free "all", .free "sum", .free "abs", .free "iter"]
/-! tables of the top -/
def subA (x : Str) (i : Nat) (K : PySem.W.Frag) : Addr := match K.lookup (He.ga K x) with
  | some ⟨_, _, .seq its _, _⟩ => (match its.toList[i]? with
    | some (.ref a) => a
    | _ => 0)
  | _ => 0
def tupA (K : PySem.W.Frag) (a : Addr) (vs : List V) : Bool := match K.lookup a with
  | some ⟨.type c, _, .seq its _, _⟩ => decide (c = "tuple") && (decide (its.size ≤ sizeLine) && He.relAll vs its.toList)
  | _ => false
theorem tupA_ok {K : PySem.W.Frag} {a : Addr} {vs : List V} (h : tupA K a vs = true) (H : Hp) : SqT K H a vs := by
  unfold tupA at h
  cases q : K.lookup a with
  | none =>
    rw [q] at h
    cases h
  | some o =>
    obtain ⟨oc, od, dt, osl⟩ := o
    rw [q] at h
    cases oc with
    | type c =>
      cases dt with
      | seq its n =>
        obtain ⟨h1, h2⟩ := He.ba (show (decide (c = "tuple") && (decide (its.size ≤ sizeLine) && He.relAll vs its.toList)) = true from h)
        obtain ⟨h3, h4⟩ := He.ba h2
        exact .inr ⟨_, its, n, q, congrArg Value.type (of_decide_eq_true h1), rfl, of_decide_eq_true h3, He.relAll_ok h4⟩
      | _ => cases h
    | _ => cases dt <;> cases h
/-- a table of int tuples -/
def vi (xs : List Int) : List V := xs.map V.int
def tab2 (K : PySem.W.Frag) (x : Str) (rows : List (List Int)) : Bool := tupA K (He.ga K x) ((List.range rows.length).map fun i => V.ref (subA x i K)) && (List.range rows.length).all fun i => tupA K (subA x i K) (vi (rows.getD i []))
def isoB (K : PySem.W.Frag) (x : Str) : Bool := He.eqO (PySem.W.findIn K (.ref (He.ga K x)) "__ne__") (some (some (.builtin "object.__ne__"))) && He.eqO (PySem.W.findIn K (.ref (He.ga K x)) "__class__") (some (some (.builtin "object.__class__"))) && (He.eqO (PySem.W.specialIn K (.builtin "object.__class__") "__get__") (some (some (.builtin "getset_descriptor.__get__"))) && (decide (PySem.W.takesIn K (.builtin "object.__class__") = some true) && (decide (PySem.W.mroIn K (He.ga K x) (.type "object") = some true) && decide (PySem.W.kitOne K (.ref (He.ga K x)) (.ref (He.ga K x)) = some true))))

def r_FRAMES : List (List Int) := [[2, 1], [1, 2], [0, 2], [2, 0], [1, 0], [0, 1]]
def r_ORDERS : List (List Int) := [[0, 1, 2], [0, 2, 1], [1, 0, 2], [1, 2, 0], [2, 0, 1], [2, 1, 0]]
def r_SIGNS : List (List Int) := [[-1, -1, -1], [-1, -1, 1], [-1, 1, -1], [-1, 1, 1], [1, -1, -1], [1, -1, 1], [1, 1, -1], [1, 1, 1]]
def r_TURNED_ORDERS : List (List Int) := [[0, 2, 1], [1, 0, 2], [2, 1, 0]]
def exB (K : PySem.W.Frag) : Bool := He.eqO (PySem.W.nsIn K mainGlobals "gcd") (some (some (.builtin "math.gcd"))) && (tupA K (He.ga K "ZERO") (vi [0, 1]) && (tab2 K "FRAMES" r_FRAMES && (tab2 K "ORDERS" r_ORDERS && (tab2 K "SIGNS" r_SIGNS && (tab2 K "TURNED_ORDERS" r_TURNED_ORDERS && (isoB K "Box" && isoB K "Strip"))))))

/-! what is observed: all objects of the heap, by address -/
def fn : List He.DefD := fn0 ++ (fn1 ++ (fn2 ++ (fn3)))
def fa : List He.Fa := fa0 ++ (fa1 ++ (fa2 ++ (fa3 ++ (fa4))))
abbrev AlR : Type := He.AlD × Bool
def obsR (n : Nat) (g : Addr → Option Obj) : AlR := (fun K : PySem.W.Frag => (He.obsD fa fn K, exB K)) (He.frG g (List.range n))
def valR : AlR := (He.valD fn, true)
def SaysR (K : PySem.W.Frag) : Prop := He.SaysD fa fn K ∧ exB K = true
def hookR (n : Nat) : PySem.W.Hook where
  α := AlR
  obs := fun s => obsR n s.heap.get?
  val := fun _ => valR
  says := fun _ h => ∃ K : PySem.W.Frag, K.In h ∧ SaysR K
  of := fun _ _ e => ⟨_, He.frG_in, congrArg (fun z : AlR => z.1) e, congrArg (fun z : AlR => z.2) e⟩
  keeps := fun _ _ _ ⟨K, hK, c⟩ k => ⟨K, PySem.W.Frag.In.keeps hK k, c⟩
theorem obsR_eq {n : Nat} {g : Addr → Option Obj} {s : Shared} (h : ∀ a, g a = s.heap.get? a) : obsR n g = (hookR n).obs s := by
  have e : g = s.heap.get? := funext h
  rw [e] <;> rfl
/-! the facts by names -/
structure Env (K : PySem.W.Frag) (mg : Str → Option Value) : Prop where
  g_is_whole : mg "is_whole" = some (.ref (He.ga K "is_whole"))
  g_in_lowest : mg "in_lowest" = some (.ref (He.ga K "in_lowest"))
  g_plus : mg "plus" = some (.ref (He.ga K "plus"))
  g_sum_of : mg "sum_of" = some (.ref (He.ga K "sum_of"))
  g_check_face : mg "check_face" = some (.ref (He.ga K "check_face"))
  g_face_axes : mg "face_axes" = some (.ref (He.ga K "face_axes"))
  g_faces_beside : mg "faces_beside" = some (.ref (He.ga K "faces_beside"))
  g_framed : mg "framed" = some (.ref (He.ga K "framed"))
  g_check_slope : mg "check_slope" = some (.ref (He.ga K "check_slope"))
  g_mirrored_slope : mg "mirrored_slope" = some (.ref (He.ga K "mirrored_slope"))
  g_check_direction : mg "check_direction" = some (.ref (He.ga K "check_direction"))
  g_unframed : mg "unframed" = some (.ref (He.ga K "unframed"))
  g_directions_on : mg "directions_on" = some (.ref (He.ga K "directions_on"))
  g_outward_step : mg "outward_step" = some (.ref (He.ga K "outward_step"))
  g_check_facerow : mg "check_facerow" = some (.ref (He.ga K "check_facerow"))
  g_back_row : mg "back_row" = some (.ref (He.ga K "back_row"))
  g_least_begun : mg "least_begun" = some (.ref (He.ga K "least_begun"))
  g_least_row : mg "least_row" = some (.ref (He.ga K "least_row"))
  g_turn_couple : mg "turn_couple" = some (.ref (He.ga K "turn_couple"))
  g_slope_to : mg "slope_to" = some (.ref (He.ga K "slope_to"))
  g_measure_at : mg "measure_at" = some (.ref (He.ga K "measure_at"))
  g_face_level : mg "face_level" = some (.ref (He.ga K "face_level"))
  g_edge_ends : mg "edge_ends" = some (.ref (He.ga K "edge_ends"))
  g_sideways_range : mg "sideways_range" = some (.ref (He.ga K "sideways_range"))
  g_leaving_faces : mg "leaving_faces" = some (.ref (He.ga K "leaving_faces"))
  g_gone_over : mg "gone_over" = some (.ref (He.ga K "gone_over"))
  g_onward : mg "onward" = some (.ref (He.ga K "onward"))
  g_strips_round : mg "strips_round" = some (.ref (He.ga K "strips_round"))
  g_widened : mg "widened" = some (.ref (He.ga K "widened"))
  g_edge_number : mg "edge_number" = some (.ref (He.ga K "edge_number"))
  g_middle_length : mg "middle_length" = some (.ref (He.ga K "middle_length"))
  g_least_turn : mg "least_turn" = some (.ref (He.ga K "least_turn"))
  g_lane_of_ring : mg "lane_of_ring" = some (.ref (He.ga K "lane_of_ring"))
  g_ring_lengths : mg "ring_lengths" = some (.ref (He.ga K "ring_lengths"))
  g_ring_length : mg "ring_length" = some (.ref (He.ga K "ring_length"))
  g_lanes_of : mg "lanes_of" = some (.ref (He.ga K "lanes_of"))
  g_is_triple : mg "is_triple" = some (.ref (He.ga K "is_triple"))
  g_check_how : mg "check_how" = some (.ref (He.ga K "check_how"))
  g_keeps_sense : mg "keeps_sense" = some (.ref (He.ga K "keeps_sense"))
  g_led_box : mg "led_box" = some (.ref (He.ga K "led_box"))
  g_led_slope : mg "led_slope" = some (.ref (He.ga K "led_slope"))
  g_law_hand : mg "_law_hand" = some (.ref (He.ga K "_law_hand"))
  g_law_mixed : mg "_law_mixed" = some (.ref (He.ga K "_law_mixed"))
  g_law_take : mg "_law_take" = some (.ref (He.ga K "_law_take"))
  g_law_sides : mg "_law_sides" = some (.ref (He.ga K "_law_sides"))
  g_law_slope : mg "_law_slope" = some (.ref (He.ga K "_law_slope"))
  g_law_couples : mg "_law_couples" = some (.ref (He.ga K "_law_couples"))
  g_law_common : mg "_law_common" = some (.ref (He.ga K "_law_common"))
  g_law_axes : mg "_law_axes" = some (.ref (He.ga K "_law_axes"))
  g_law_steps : mg "_law_steps" = some (.ref (He.ga K "_law_steps"))
  g_law_four : mg "_law_four" = some (.ref (He.ga K "_law_four"))
  g_law_out : mg "_law_out" = some (.ref (He.ga K "_law_out"))
  g_law_over : mg "_law_over" = some (.ref (He.ga K "_law_over"))
  g_law_pass : mg "_law_pass" = some (.ref (He.ga K "_law_pass"))
  g_law_ray : mg "_law_ray" = some (.ref (He.ga K "_law_ray"))
  g_law_turned_least : mg "_law_turned_least" = some (.ref (He.ga K "_law_turned_least"))
  g_law_least_row : mg "_law_least_row" = some (.ref (He.ga K "_law_least_row"))
  g_law_halves : mg "_law_halves" = some (.ref (He.ga K "_law_halves"))
  g_law_lanes : mg "_law_lanes" = some (.ref (He.ga K "_law_lanes"))
  g_law_tuples : mg "_law_tuples" = some (.ref (He.ga K "_law_tuples"))
  g_law_orders : mg "_law_orders" = some (.ref (He.ga K "_law_orders"))
  g_law_how : mg "_law_how" = some (.ref (He.ga K "_law_how"))
  g_law_keeps : mg "_law_keeps" = some (.ref (He.ga K "_law_keeps"))
  g_law_led_face : mg "_law_led_face" = some (.ref (He.ga K "_law_led_face"))
  g_law_led_slope : mg "_law_led_slope" = some (.ref (He.ga K "_law_led_slope"))
  g_law_world : mg "_law_world" = some (.ref (He.ga K "_law_world"))
  g_law_due : mg "_law_due" = some (.ref (He.ga K "_law_due"))
  g_law : mg "law" = some (.ref (He.ga K "law"))
  g_Box : mg "Box" = some (.ref (He.ga K "Box"))
  c_Box : Cls K (He.ga K "Box")
  m_Box : Mk K (He.ga K "Box") (He.ma K (He.ga K "Box") "__init__")
  g_Lane : mg "Lane" = some (.ref (He.ga K "Lane"))
  c_Lane : Cls K (He.ga K "Lane")
  m_Lane : Mk K (He.ga K "Lane") (He.ma K (He.ga K "Lane") "__init__")
  g_Strip : mg "Strip" = some (.ref (He.ga K "Strip"))
  c_Strip : Cls K (He.ga K "Strip")
  m_Strip : Mk K (He.ga K "Strip") (He.ma K (He.ga K "Strip") "__init__")
  g_Lanes : mg "Lanes" = some (.ref (He.ga K "Lanes"))
  c_Lanes : Cls K (He.ga K "Lanes")
  m_Lanes : Mk K (He.ga K "Lanes") (He.ma K (He.ga K "Lanes") "__init__")
  e_Box : Meth K (He.ga K "Box") "__eq__" (He.ma K (He.ga K "Box") "__eq__")
  e_Strip : Meth K (He.ga K "Strip") "__eq__" (He.ma K (He.ga K "Strip") "__eq__")
  l_Lanes : Meth K (He.ga K "Lanes") "__len__" (He.ma K (He.ga K "Lanes") "__len__")
  i_Lanes : Meth K (He.ga K "Lanes") "__iter__" (He.ma K (He.ga K "Lanes") "__iter__")
  n_Box_sides : NoAttr K (He.ga K "Box") "sides"
  n_Strip_face : NoAttr K (He.ga K "Strip") "face"
  n_Strip_direction : NoAttr K (He.ga K "Strip") "direction"
  n_Strip_low : NoAttr K (He.ga K "Strip") "low"
  n_Strip_high : NoAttr K (He.ga K "Strip") "high"
  n_Lane_box : NoAttr K (He.ga K "Lane") "box"
  n_Lane_faces : NoAttr K (He.ga K "Lane") "faces"
  n_Lane_direction : NoAttr K (He.ga K "Lane") "direction"
  n_Lane_low : NoAttr K (He.ga K "Lane") "low"
  n_Lane_length : NoAttr K (He.ga K "Lane") "length"
  n_Lane_breadth : NoAttr K (He.ga K "Lane") "breadth"
  n_Lane_slope : NoAttr K (He.ga K "Lane") "slope"
  n_Lane_row : NoAttr K (He.ga K "Lane") "row"
  n_Lanes_box : NoAttr K (He.ga K "Lanes") "box"
  n_Lanes_slope : NoAttr K (He.ga K "Lanes") "slope"
  n_Lanes_lanes : NoAttr K (He.ga K "Lanes") "lanes"
  g_ZERO : mg "ZERO" = some (.ref (He.ga K "ZERO"))
  g_FRAMES : mg "FRAMES" = some (.ref (He.ga K "FRAMES"))
  g_ORDERS : mg "ORDERS" = some (.ref (He.ga K "ORDERS"))
  g_SIGNS : mg "SIGNS" = some (.ref (He.ga K "SIGNS"))
  g_TURNED_ORDERS : mg "TURNED_ORDERS" = some (.ref (He.ga K "TURNED_ORDERS"))
  v_MOST_SIDE : ∃ t, mg "MOST_SIDE" = some (.int 60 t)
  v_MOST_SLOPE : ∃ t, mg "MOST_SLOPE" = some (.int 9 t)
  v_MOST_STEP : ∃ t, mg "MOST_STEP" = some (.int 10000 t)
  v_MOST_FACES : ∃ t, mg "MOST_FACES" = some (.int 400 t)
  b_isinstance : mg "isinstance" = none
  b_bool : mg "bool" = none
  b_int : mg "int" = none
  b_list : mg "list" = none
  b_tuple : mg "tuple" = none
  b_len : mg "len" = none
  b_enumerate : mg "enumerate" = none
  b_range : mg "range" = none
  b_min : mg "min" = none
  b_max : mg "max" = none
  b_sorted : mg "sorted" = none
  b_all : mg "all" = none
  b_sum : mg "sum" = none
  b_abs : mg "abs" = none
  b_iter : mg "iter" = none
  d_is_whole : ∃ fd, FunD K "is_whole" "is_whole" (defArgs s_is_whole) (defBody s_is_whole) (defScope s_is_whole) [.non, .non] [] (He.ga K "is_whole") fd
  d_in_lowest : ∃ fd, FunD K "in_lowest" "in_lowest" (defArgs s_in_lowest) (defBody s_in_lowest) (defScope s_in_lowest) [] [] (He.ga K "in_lowest") fd
  d_plus : ∃ fd, FunD K "plus" "plus" (defArgs s_plus) (defBody s_plus) (defScope s_plus) [] [] (He.ga K "plus") fd
  d_sum_of : ∃ fd, FunD K "sum_of" "sum_of" (defArgs s_sum_of) (defBody s_sum_of) (defScope s_sum_of) [] [] (He.ga K "sum_of") fd
  d_check_face : ∃ fd, FunD K "check_face" "check_face" (defArgs s_check_face) (defBody s_check_face) (defScope s_check_face) [] [] (He.ga K "check_face") fd
  d_face_axes : ∃ fd, FunD K "face_axes" "face_axes" (defArgs s_face_axes) (defBody s_face_axes) (defScope s_face_axes) [] [] (He.ga K "face_axes") fd
  d_faces_beside : ∃ fd, FunD K "faces_beside" "faces_beside" (defArgs s_faces_beside) (defBody s_faces_beside) (defScope s_faces_beside) [] [] (He.ga K "faces_beside") fd
  d_Box_init : ∃ fd, FunD K "__init__" "Box.__init__" (defArgs s_Box_init) (defBody s_Box_init) (defScope s_Box_init) [] [] (He.ma K (He.ga K "Box") "__init__") fd
  d_Box_eq : ∃ fd, FunD K "__eq__" "Box.__eq__" (defArgs s_Box_eq) (defBody s_Box_eq) (defScope s_Box_eq) [] [] (He.ma K (He.ga K "Box") "__eq__") fd
  d_framed : ∃ fd, FunD K "framed" "framed" (defArgs s_framed) (defBody s_framed) (defScope s_framed) [] [] (He.ga K "framed") fd
  d_check_slope : ∃ fd, FunD K "check_slope" "check_slope" (defArgs s_check_slope) (defBody s_check_slope) (defScope s_check_slope) [.bl false] [] (He.ga K "check_slope") fd
  d_mirrored_slope : ∃ fd, FunD K "mirrored_slope" "mirrored_slope" (defArgs s_mirrored_slope) (defBody s_mirrored_slope) (defScope s_mirrored_slope) [] [] (He.ga K "mirrored_slope") fd
  d_check_direction : ∃ fd, FunD K "check_direction" "check_direction" (defArgs s_check_direction) (defBody s_check_direction) (defScope s_check_direction) [] [] (He.ga K "check_direction") fd
  d_unframed : ∃ fd, FunD K "unframed" "unframed" (defArgs s_unframed) (defBody s_unframed) (defScope s_unframed) [] [] (He.ga K "unframed") fd
  d_directions_on : ∃ fd, FunD K "directions_on" "directions_on" (defArgs s_directions_on) (defBody s_directions_on) (defScope s_directions_on) [] [] (He.ga K "directions_on") fd
  d_outward_step : ∃ fd, FunD K "outward_step" "outward_step" (defArgs s_outward_step) (defBody s_outward_step) (defScope s_outward_step) [] [] (He.ga K "outward_step") fd
  d_check_facerow : ∃ fd, FunD K "check_facerow" "check_facerow" (defArgs s_check_facerow) (defBody s_check_facerow) (defScope s_check_facerow) [] [] (He.ga K "check_facerow") fd
  d_back_row : ∃ fd, FunD K "back_row" "back_row" (defArgs s_back_row) (defBody s_back_row) (defScope s_back_row) [] [] (He.ga K "back_row") fd
  d_least_begun : ∃ fd, FunD K "least_begun" "least_begun" (defArgs s_least_begun) (defBody s_least_begun) (defScope s_least_begun) [] [] (He.ga K "least_begun") fd
  d_least_row : ∃ fd, FunD K "least_row" "least_row" (defArgs s_least_row) (defBody s_least_row) (defScope s_least_row) [] [] (He.ga K "least_row") fd
  d_turn_couple : ∃ fd, FunD K "turn_couple" "turn_couple" (defArgs s_turn_couple) (defBody s_turn_couple) (defScope s_turn_couple) [] [] (He.ga K "turn_couple") fd
  d_slope_to : ∃ fd, FunD K "slope_to" "slope_to" (defArgs s_slope_to) (defBody s_slope_to) (defScope s_slope_to) [] [] (He.ga K "slope_to") fd
  d_Lane_init : ∃ fd, FunD K "__init__" "Lane.__init__" (defArgs s_Lane_init) (defBody s_Lane_init) (defScope s_Lane_init) [] [] (He.ma K (He.ga K "Lane") "__init__") fd
  d_Strip_init : ∃ fd, FunD K "__init__" "Strip.__init__" (defArgs s_Strip_init) (defBody s_Strip_init) (defScope s_Strip_init) [] [] (He.ma K (He.ga K "Strip") "__init__") fd
  d_Strip_eq : ∃ fd, FunD K "__eq__" "Strip.__eq__" (defArgs s_Strip_eq) (defBody s_Strip_eq) (defScope s_Strip_eq) [] [] (He.ma K (He.ga K "Strip") "__eq__") fd
  d_measure_at : ∃ fd, FunD K "measure_at" "measure_at" (defArgs s_measure_at) (defBody s_measure_at) (defScope s_measure_at) [] [] (He.ga K "measure_at") fd
  d_face_level : ∃ fd, FunD K "face_level" "face_level" (defArgs s_face_level) (defBody s_face_level) (defScope s_face_level) [] [] (He.ga K "face_level") fd
  d_edge_ends : ∃ fd, FunD K "edge_ends" "edge_ends" (defArgs s_edge_ends) (defBody s_edge_ends) (defScope s_edge_ends) [] [] (He.ga K "edge_ends") fd
  d_sideways_range : ∃ fd, FunD K "sideways_range" "sideways_range" (defArgs s_sideways_range) (defBody s_sideways_range) (defScope s_sideways_range) [] [] (He.ga K "sideways_range") fd
  d_leaving_faces : ∃ fd, FunD K "leaving_faces" "leaving_faces" (defArgs s_leaving_faces) (defBody s_leaving_faces) (defScope s_leaving_faces) [] [] (He.ga K "leaving_faces") fd
  d_gone_over : ∃ fd, FunD K "gone_over" "gone_over" (defArgs s_gone_over) (defBody s_gone_over) (defScope s_gone_over) [] [] (He.ga K "gone_over") fd
  d_onward : ∃ fd, FunD K "onward" "onward" (defArgs s_onward) (defBody s_onward) (defScope s_onward) [] [] (He.ga K "onward") fd
  d_strips_round : ∃ fd, FunD K "strips_round" "strips_round" (defArgs s_strips_round) (defBody s_strips_round) (defScope s_strips_round) [] [] (He.ga K "strips_round") fd
  d_widened : ∃ fd, FunD K "widened" "widened" (defArgs s_widened) (defBody s_widened) (defScope s_widened) [] [] (He.ga K "widened") fd
  d_edge_number : ∃ fd, FunD K "edge_number" "edge_number" (defArgs s_edge_number) (defBody s_edge_number) (defScope s_edge_number) [] [] (He.ga K "edge_number") fd
  d_middle_length : ∃ fd, FunD K "middle_length" "middle_length" (defArgs s_middle_length) (defBody s_middle_length) (defScope s_middle_length) [] [] (He.ga K "middle_length") fd
  d_least_turn : ∃ fd, FunD K "least_turn" "least_turn" (defArgs s_least_turn) (defBody s_least_turn) (defScope s_least_turn) [] [] (He.ga K "least_turn") fd
  d_lane_of_ring : ∃ fd, FunD K "lane_of_ring" "lane_of_ring" (defArgs s_lane_of_ring) (defBody s_lane_of_ring) (defScope s_lane_of_ring) [] [] (He.ga K "lane_of_ring") fd
  d_ring_lengths : ∃ fd, FunD K "ring_lengths" "ring_lengths" (defArgs s_ring_lengths) (defBody s_ring_lengths) (defScope s_ring_lengths) [] [] (He.ga K "ring_lengths") fd
  d_ring_length : ∃ fd, FunD K "ring_length" "ring_length" (defArgs s_ring_length) (defBody s_ring_length) (defScope s_ring_length) [] [] (He.ga K "ring_length") fd
  d_lanes_of : ∃ fd, FunD K "lanes_of" "lanes_of" (defArgs s_lanes_of) (defBody s_lanes_of) (defScope s_lanes_of) [] [] (He.ga K "lanes_of") fd
  d_Lanes_init : ∃ fd, FunD K "__init__" "Lanes.__init__" (defArgs s_Lanes_init) (defBody s_Lanes_init) (defScope s_Lanes_init) [] [] (He.ma K (He.ga K "Lanes") "__init__") fd
  d_Lanes_len : ∃ fd, FunD K "__len__" "Lanes.__len__" (defArgs s_Lanes_len) (defBody s_Lanes_len) (defScope s_Lanes_len) [] [] (He.ma K (He.ga K "Lanes") "__len__") fd
  d_Lanes_iter : ∃ fd, FunD K "__iter__" "Lanes.__iter__" (defArgs s_Lanes_iter) (defBody s_Lanes_iter) (defScope s_Lanes_iter) [] [] (He.ma K (He.ga K "Lanes") "__iter__") fd
  d_is_triple : ∃ fd, FunD K "is_triple" "is_triple" (defArgs s_is_triple) (defBody s_is_triple) (defScope s_is_triple) [] [] (He.ga K "is_triple") fd
  d_check_how : ∃ fd, FunD K "check_how" "check_how" (defArgs s_check_how) (defBody s_check_how) (defScope s_check_how) [] [] (He.ga K "check_how") fd
  d_keeps_sense : ∃ fd, FunD K "keeps_sense" "keeps_sense" (defArgs s_keeps_sense) (defBody s_keeps_sense) (defScope s_keeps_sense) [] [] (He.ga K "keeps_sense") fd
  d_led_box : ∃ fd, FunD K "led_box" "led_box" (defArgs s_led_box) (defBody s_led_box) (defScope s_led_box) [] [] (He.ga K "led_box") fd
  d_led_slope : ∃ fd, FunD K "led_slope" "led_slope" (defArgs s_led_slope) (defBody s_led_slope) (defScope s_led_slope) [] [] (He.ga K "led_slope") fd
  d_law_hand : ∃ fd, FunD K "_law_hand" "_law_hand" (defArgs s_law_hand) (defBody s_law_hand) (defScope s_law_hand) [] [] (He.ga K "_law_hand") fd
  d_law_mixed : ∃ fd, FunD K "_law_mixed" "_law_mixed" (defArgs s_law_mixed) (defBody s_law_mixed) (defScope s_law_mixed) [] [] (He.ga K "_law_mixed") fd
  d_law_take : ∃ fd, FunD K "_law_take" "_law_take" (defArgs s_law_take) (defBody s_law_take) (defScope s_law_take) [] [] (He.ga K "_law_take") fd
  d_law_sides : ∃ fd, FunD K "_law_sides" "_law_sides" (defArgs s_law_sides) (defBody s_law_sides) (defScope s_law_sides) [] [] (He.ga K "_law_sides") fd
  d_law_slope : ∃ fd, FunD K "_law_slope" "_law_slope" (defArgs s_law_slope) (defBody s_law_slope) (defScope s_law_slope) [] [] (He.ga K "_law_slope") fd
  d_law_couples : ∃ fd, FunD K "_law_couples" "_law_couples" (defArgs s_law_couples) (defBody s_law_couples) (defScope s_law_couples) [] [] (He.ga K "_law_couples") fd
  d_law_common : ∃ fd, FunD K "_law_common" "_law_common" (defArgs s_law_common) (defBody s_law_common) (defScope s_law_common) [] [] (He.ga K "_law_common") fd
  d_law_axes : ∃ fd, FunD K "_law_axes" "_law_axes" (defArgs s_law_axes) (defBody s_law_axes) (defScope s_law_axes) [] [] (He.ga K "_law_axes") fd
  d_law_steps : ∃ fd, FunD K "_law_steps" "_law_steps" (defArgs s_law_steps) (defBody s_law_steps) (defScope s_law_steps) [] [] (He.ga K "_law_steps") fd
  d_law_four : ∃ fd, FunD K "_law_four" "_law_four" (defArgs s_law_four) (defBody s_law_four) (defScope s_law_four) [] [] (He.ga K "_law_four") fd
  d_law_out : ∃ fd, FunD K "_law_out" "_law_out" (defArgs s_law_out) (defBody s_law_out) (defScope s_law_out) [] [] (He.ga K "_law_out") fd
  d_law_over : ∃ fd, FunD K "_law_over" "_law_over" (defArgs s_law_over) (defBody s_law_over) (defScope s_law_over) [] [] (He.ga K "_law_over") fd
  d_law_pass : ∃ fd, FunD K "_law_pass" "_law_pass" (defArgs s_law_pass) (defBody s_law_pass) (defScope s_law_pass) [] [] (He.ga K "_law_pass") fd
  d_law_ray : ∃ fd, FunD K "_law_ray" "_law_ray" (defArgs s_law_ray) (defBody s_law_ray) (defScope s_law_ray) [] [] (He.ga K "_law_ray") fd
  d_law_turned_least : ∃ fd, FunD K "_law_turned_least" "_law_turned_least" (defArgs s_law_turned_least) (defBody s_law_turned_least) (defScope s_law_turned_least) [] [] (He.ga K "_law_turned_least") fd
  d_law_least_row : ∃ fd, FunD K "_law_least_row" "_law_least_row" (defArgs s_law_least_row) (defBody s_law_least_row) (defScope s_law_least_row) [] [] (He.ga K "_law_least_row") fd
  d_law_halves : ∃ fd, FunD K "_law_halves" "_law_halves" (defArgs s_law_halves) (defBody s_law_halves) (defScope s_law_halves) [] [] (He.ga K "_law_halves") fd
  d_law_lanes : ∃ fd, FunD K "_law_lanes" "_law_lanes" (defArgs s_law_lanes) (defBody s_law_lanes) (defScope s_law_lanes) [] [] (He.ga K "_law_lanes") fd
  d_law_tuples : ∃ fd, FunD K "_law_tuples" "_law_tuples" (defArgs s_law_tuples) (defBody s_law_tuples) (defScope s_law_tuples) [] [] (He.ga K "_law_tuples") fd
  d_law_orders : ∃ fd, FunD K "_law_orders" "_law_orders" (defArgs s_law_orders) (defBody s_law_orders) (defScope s_law_orders) [] [] (He.ga K "_law_orders") fd
  d_law_how : ∃ fd, FunD K "_law_how" "_law_how" (defArgs s_law_how) (defBody s_law_how) (defScope s_law_how) [] [] (He.ga K "_law_how") fd
  d_law_keeps : ∃ fd, FunD K "_law_keeps" "_law_keeps" (defArgs s_law_keeps) (defBody s_law_keeps) (defScope s_law_keeps) [] [] (He.ga K "_law_keeps") fd
  d_law_led_face : ∃ fd, FunD K "_law_led_face" "_law_led_face" (defArgs s_law_led_face) (defBody s_law_led_face) (defScope s_law_led_face) [] [] (He.ga K "_law_led_face") fd
  d_law_led_slope : ∃ fd, FunD K "_law_led_slope" "_law_led_slope" (defArgs s_law_led_slope) (defBody s_law_led_slope) (defScope s_law_led_slope) [] [] (He.ga K "_law_led_slope") fd
  d_law_world : ∃ fd, FunD K "_law_world" "_law_world" (defArgs s_law_world) (defBody s_law_world) (defScope s_law_world) [] [] (He.ga K "_law_world") fd
  d_law_due : ∃ fd, FunD K "_law_due" "_law_due" (defArgs s_law_due) (defBody s_law_due) (defScope s_law_due) [] [] (He.ga K "_law_due") fd
  d_law : ∃ fd, FunD K "law" "law" (defArgs s_law) (defBody s_law) (defScope s_law) [] [] (He.ga K "law") fd
  gcd : mg "gcd" = some (.builtin "math.gcd")
  t_ZERO : ∀ H, SqT K H (He.ga K "ZERO") (vi [0, 1])
  t_FRAMES : ∀ H, SqT K H (He.ga K "FRAMES") ((List.range r_FRAMES.length).map fun i => V.ref (subA "FRAMES" i K)) ∧ ∀ i, i < r_FRAMES.length → SqT K H (subA "FRAMES" i K) (vi (r_FRAMES.getD i []))
  t_ORDERS : ∀ H, SqT K H (He.ga K "ORDERS") ((List.range r_ORDERS.length).map fun i => V.ref (subA "ORDERS" i K)) ∧ ∀ i, i < r_ORDERS.length → SqT K H (subA "ORDERS" i K) (vi (r_ORDERS.getD i []))
  t_SIGNS : ∀ H, SqT K H (He.ga K "SIGNS") ((List.range r_SIGNS.length).map fun i => V.ref (subA "SIGNS" i K)) ∧ ∀ i, i < r_SIGNS.length → SqT K H (subA "SIGNS" i K) (vi (r_SIGNS.getD i []))
  t_TURNED_ORDERS : ∀ H, SqT K H (He.ga K "TURNED_ORDERS") ((List.range r_TURNED_ORDERS.length).map fun i => V.ref (subA "TURNED_ORDERS" i K)) ∧ ∀ i, i < r_TURNED_ORDERS.length → SqT K H (subA "TURNED_ORDERS" i K) (vi (r_TURNED_ORDERS.getD i []))
  iso_Box : isoB K "Box" = true
  iso_Strip : isoB K "Strip" = true
theorem tab2_ok {K : PySem.W.Frag} {x : Str} {rows : List (List Int)} (h : tab2 K x rows = true) (H : Hp) :
    SqT K H (He.ga K x) ((List.range rows.length).map fun i => V.ref (subA x i K)) ∧ ∀ i, i < rows.length → SqT K H (subA x i K) (vi (rows.getD i [])) := by
  obtain ⟨h1, h2⟩ := He.ba (show (tupA K (He.ga K x) ((List.range rows.length).map fun i => V.ref (subA x i K)) && (List.range rows.length).all fun i => tupA K (subA x i K) (vi (rows.getD i []))) = true from h)
  exact ⟨tupA_ok h1 H, fun i hi => tupA_ok (List.all_eq_true.mp h2 i (List.mem_range.mpr hi)) H⟩
theorem env_of {K : PySem.W.Frag} {h : Heap} {mg : Str → Option Value} (X : K.In h) (G : h.Ns mainGlobals mg) (c : SaysR K) : Env K mg := by
  obtain ⟨c, e⟩ := c
  obtain ⟨e1, e⟩ := He.ba (show (He.eqO (PySem.W.nsIn K mainGlobals "gcd") (some (some (.builtin "math.gcd"))) && (tupA K (He.ga K "ZERO") (vi [0, 1]) && (tab2 K "FRAMES" r_FRAMES && (tab2 K "ORDERS" r_ORDERS && (tab2 K "SIGNS" r_SIGNS && (tab2 K "TURNED_ORDERS" r_TURNED_ORDERS && (isoB K "Box" && isoB K "Strip"))))))) = true from e)
  obtain ⟨e2, e⟩ := He.ba e
  obtain ⟨e3, e⟩ := He.ba e
  obtain ⟨e4, e⟩ := He.ba e
  obtain ⟨e5, e⟩ := He.ba e
  obtain ⟨e6, e⟩ := He.ba e
  obtain ⟨e7, e8⟩ := He.ba e
  exact {
    g_is_whole := He.glo_ok X G (c.fact 0 (f := .glo "is_whole") rfl)
    g_in_lowest := He.glo_ok X G (c.fact 1 (f := .glo "in_lowest") rfl)
    g_plus := He.glo_ok X G (c.fact 2 (f := .glo "plus") rfl)
    g_sum_of := He.glo_ok X G (c.fact 3 (f := .glo "sum_of") rfl)
    g_check_face := He.glo_ok X G (c.fact 4 (f := .glo "check_face") rfl)
    g_face_axes := He.glo_ok X G (c.fact 5 (f := .glo "face_axes") rfl)
    g_faces_beside := He.glo_ok X G (c.fact 6 (f := .glo "faces_beside") rfl)
    g_framed := He.glo_ok X G (c.fact 7 (f := .glo "framed") rfl)
    g_check_slope := He.glo_ok X G (c.fact 8 (f := .glo "check_slope") rfl)
    g_mirrored_slope := He.glo_ok X G (c.fact 9 (f := .glo "mirrored_slope") rfl)
    g_check_direction := He.glo_ok X G (c.fact 10 (f := .glo "check_direction") rfl)
    g_unframed := He.glo_ok X G (c.fact 11 (f := .glo "unframed") rfl)
    g_directions_on := He.glo_ok X G (c.fact 12 (f := .glo "directions_on") rfl)
    g_outward_step := He.glo_ok X G (c.fact 13 (f := .glo "outward_step") rfl)
    g_check_facerow := He.glo_ok X G (c.fact 14 (f := .glo "check_facerow") rfl)
    g_back_row := He.glo_ok X G (c.fact 15 (f := .glo "back_row") rfl)
    g_least_begun := He.glo_ok X G (c.fact 16 (f := .glo "least_begun") rfl)
    g_least_row := He.glo_ok X G (c.fact 17 (f := .glo "least_row") rfl)
    g_turn_couple := He.glo_ok X G (c.fact 18 (f := .glo "turn_couple") rfl)
    g_slope_to := He.glo_ok X G (c.fact 19 (f := .glo "slope_to") rfl)
    g_measure_at := He.glo_ok X G (c.fact 20 (f := .glo "measure_at") rfl)
    g_face_level := He.glo_ok X G (c.fact 21 (f := .glo "face_level") rfl)
    g_edge_ends := He.glo_ok X G (c.fact 22 (f := .glo "edge_ends") rfl)
    g_sideways_range := He.glo_ok X G (c.fact 23 (f := .glo "sideways_range") rfl)
    g_leaving_faces := He.glo_ok X G (c.fact 24 (f := .glo "leaving_faces") rfl)
    g_gone_over := He.glo_ok X G (c.fact 25 (f := .glo "gone_over") rfl)
    g_onward := He.glo_ok X G (c.fact 26 (f := .glo "onward") rfl)
    g_strips_round := He.glo_ok X G (c.fact 27 (f := .glo "strips_round") rfl)
    g_widened := He.glo_ok X G (c.fact 28 (f := .glo "widened") rfl)
    g_edge_number := He.glo_ok X G (c.fact 29 (f := .glo "edge_number") rfl)
    g_middle_length := He.glo_ok X G (c.fact 30 (f := .glo "middle_length") rfl)
    g_least_turn := He.glo_ok X G (c.fact 31 (f := .glo "least_turn") rfl)
    g_lane_of_ring := He.glo_ok X G (c.fact 32 (f := .glo "lane_of_ring") rfl)
    g_ring_lengths := He.glo_ok X G (c.fact 33 (f := .glo "ring_lengths") rfl)
    g_ring_length := He.glo_ok X G (c.fact 34 (f := .glo "ring_length") rfl)
    g_lanes_of := He.glo_ok X G (c.fact 35 (f := .glo "lanes_of") rfl)
    g_is_triple := He.glo_ok X G (c.fact 36 (f := .glo "is_triple") rfl)
    g_check_how := He.glo_ok X G (c.fact 37 (f := .glo "check_how") rfl)
    g_keeps_sense := He.glo_ok X G (c.fact 38 (f := .glo "keeps_sense") rfl)
    g_led_box := He.glo_ok X G (c.fact 39 (f := .glo "led_box") rfl)
    g_led_slope := He.glo_ok X G (c.fact 40 (f := .glo "led_slope") rfl)
    g_law_hand := He.glo_ok X G (c.fact 41 (f := .glo "_law_hand") rfl)
    g_law_mixed := He.glo_ok X G (c.fact 42 (f := .glo "_law_mixed") rfl)
    g_law_take := He.glo_ok X G (c.fact 43 (f := .glo "_law_take") rfl)
    g_law_sides := He.glo_ok X G (c.fact 44 (f := .glo "_law_sides") rfl)
    g_law_slope := He.glo_ok X G (c.fact 45 (f := .glo "_law_slope") rfl)
    g_law_couples := He.glo_ok X G (c.fact 46 (f := .glo "_law_couples") rfl)
    g_law_common := He.glo_ok X G (c.fact 47 (f := .glo "_law_common") rfl)
    g_law_axes := He.glo_ok X G (c.fact 48 (f := .glo "_law_axes") rfl)
    g_law_steps := He.glo_ok X G (c.fact 49 (f := .glo "_law_steps") rfl)
    g_law_four := He.glo_ok X G (c.fact 50 (f := .glo "_law_four") rfl)
    g_law_out := He.glo_ok X G (c.fact 51 (f := .glo "_law_out") rfl)
    g_law_over := He.glo_ok X G (c.fact 52 (f := .glo "_law_over") rfl)
    g_law_pass := He.glo_ok X G (c.fact 53 (f := .glo "_law_pass") rfl)
    g_law_ray := He.glo_ok X G (c.fact 54 (f := .glo "_law_ray") rfl)
    g_law_turned_least := He.glo_ok X G (c.fact 55 (f := .glo "_law_turned_least") rfl)
    g_law_least_row := He.glo_ok X G (c.fact 56 (f := .glo "_law_least_row") rfl)
    g_law_halves := He.glo_ok X G (c.fact 57 (f := .glo "_law_halves") rfl)
    g_law_lanes := He.glo_ok X G (c.fact 58 (f := .glo "_law_lanes") rfl)
    g_law_tuples := He.glo_ok X G (c.fact 59 (f := .glo "_law_tuples") rfl)
    g_law_orders := He.glo_ok X G (c.fact 60 (f := .glo "_law_orders") rfl)
    g_law_how := He.glo_ok X G (c.fact 61 (f := .glo "_law_how") rfl)
    g_law_keeps := He.glo_ok X G (c.fact 62 (f := .glo "_law_keeps") rfl)
    g_law_led_face := He.glo_ok X G (c.fact 63 (f := .glo "_law_led_face") rfl)
    g_law_led_slope := He.glo_ok X G (c.fact 64 (f := .glo "_law_led_slope") rfl)
    g_law_world := He.glo_ok X G (c.fact 65 (f := .glo "_law_world") rfl)
    g_law_due := He.glo_ok X G (c.fact 66 (f := .glo "_law_due") rfl)
    g_law := He.glo_ok X G (c.fact 67 (f := .glo "law") rfl)
    g_Box := He.glo_ok X G (c.fact 68 (f := .glo "Box") rfl)
    c_Box := He.cls_ok (c.fact 69 (f := .cls "Box") rfl)
    m_Box := He.mkr_ok (c.fact 70 (f := .mkr "Box") rfl)
    g_Lane := He.glo_ok X G (c.fact 71 (f := .glo "Lane") rfl)
    c_Lane := He.cls_ok (c.fact 72 (f := .cls "Lane") rfl)
    m_Lane := He.mkr_ok (c.fact 73 (f := .mkr "Lane") rfl)
    g_Strip := He.glo_ok X G (c.fact 74 (f := .glo "Strip") rfl)
    c_Strip := He.cls_ok (c.fact 75 (f := .cls "Strip") rfl)
    m_Strip := He.mkr_ok (c.fact 76 (f := .mkr "Strip") rfl)
    g_Lanes := He.glo_ok X G (c.fact 77 (f := .glo "Lanes") rfl)
    c_Lanes := He.cls_ok (c.fact 78 (f := .cls "Lanes") rfl)
    m_Lanes := He.mkr_ok (c.fact 79 (f := .mkr "Lanes") rfl)
    e_Box := He.meth_ok (c.fact 80 (f := .meth "Box" "__eq__") rfl)
    e_Strip := He.meth_ok (c.fact 81 (f := .meth "Strip" "__eq__") rfl)
    l_Lanes := He.meth_ok (c.fact 82 (f := .meth "Lanes" "__len__") rfl)
    i_Lanes := He.meth_ok (c.fact 83 (f := .meth "Lanes" "__iter__") rfl)
    n_Box_sides := He.noat_ok (c.fact 84 (f := .noat "Box" "sides") rfl)
    n_Strip_face := He.noat_ok (c.fact 85 (f := .noat "Strip" "face") rfl)
    n_Strip_direction := He.noat_ok (c.fact 86 (f := .noat "Strip" "direction") rfl)
    n_Strip_low := He.noat_ok (c.fact 87 (f := .noat "Strip" "low") rfl)
    n_Strip_high := He.noat_ok (c.fact 88 (f := .noat "Strip" "high") rfl)
    n_Lane_box := He.noat_ok (c.fact 89 (f := .noat "Lane" "box") rfl)
    n_Lane_faces := He.noat_ok (c.fact 90 (f := .noat "Lane" "faces") rfl)
    n_Lane_direction := He.noat_ok (c.fact 91 (f := .noat "Lane" "direction") rfl)
    n_Lane_low := He.noat_ok (c.fact 92 (f := .noat "Lane" "low") rfl)
    n_Lane_length := He.noat_ok (c.fact 93 (f := .noat "Lane" "length") rfl)
    n_Lane_breadth := He.noat_ok (c.fact 94 (f := .noat "Lane" "breadth") rfl)
    n_Lane_slope := He.noat_ok (c.fact 95 (f := .noat "Lane" "slope") rfl)
    n_Lane_row := He.noat_ok (c.fact 96 (f := .noat "Lane" "row") rfl)
    n_Lanes_box := He.noat_ok (c.fact 97 (f := .noat "Lanes" "box") rfl)
    n_Lanes_slope := He.noat_ok (c.fact 98 (f := .noat "Lanes" "slope") rfl)
    n_Lanes_lanes := He.noat_ok (c.fact 99 (f := .noat "Lanes" "lanes") rfl)
    g_ZERO := He.glo_ok X G (c.fact 100 (f := .glo "ZERO") rfl)
    g_FRAMES := He.glo_ok X G (c.fact 101 (f := .glo "FRAMES") rfl)
    g_ORDERS := He.glo_ok X G (c.fact 102 (f := .glo "ORDERS") rfl)
    g_SIGNS := He.glo_ok X G (c.fact 103 (f := .glo "SIGNS") rfl)
    g_TURNED_ORDERS := He.glo_ok X G (c.fact 104 (f := .glo "TURNED_ORDERS") rfl)
    v_MOST_SIDE := He.int_ok X G (c.fact 105 (f := .int "MOST_SIDE" 60) rfl)
    v_MOST_SLOPE := He.int_ok X G (c.fact 106 (f := .int "MOST_SLOPE" 9) rfl)
    v_MOST_STEP := He.int_ok X G (c.fact 107 (f := .int "MOST_STEP" 10000) rfl)
    v_MOST_FACES := He.int_ok X G (c.fact 108 (f := .int "MOST_FACES" 400) rfl)
    b_isinstance := He.free_ok X G (c.fact 109 (f := .free "isinstance") rfl)
    b_bool := He.free_ok X G (c.fact 110 (f := .free "bool") rfl)
    b_int := He.free_ok X G (c.fact 111 (f := .free "int") rfl)
    b_list := He.free_ok X G (c.fact 112 (f := .free "list") rfl)
    b_tuple := He.free_ok X G (c.fact 113 (f := .free "tuple") rfl)
    b_len := He.free_ok X G (c.fact 114 (f := .free "len") rfl)
    b_enumerate := He.free_ok X G (c.fact 115 (f := .free "enumerate") rfl)
    b_range := He.free_ok X G (c.fact 116 (f := .free "range") rfl)
    b_min := He.free_ok X G (c.fact 117 (f := .free "min") rfl)
    b_max := He.free_ok X G (c.fact 118 (f := .free "max") rfl)
    b_sorted := He.free_ok X G (c.fact 119 (f := .free "sorted") rfl)
    b_all := He.free_ok X G (c.fact 120 (f := .free "all") rfl)
    b_sum := He.free_ok X G (c.fact 121 (f := .free "sum") rfl)
    b_abs := He.free_ok X G (c.fact 122 (f := .free "abs") rfl)
    b_iter := He.free_ok X G (c.fact 123 (f := .free "iter") rfl)
    d_is_whole := c.def_ 0 (d := dd_is_whole) rfl
    d_in_lowest := c.def_ 1 (d := dd_in_lowest) rfl
    d_plus := c.def_ 2 (d := dd_plus) rfl
    d_sum_of := c.def_ 3 (d := dd_sum_of) rfl
    d_check_face := c.def_ 4 (d := dd_check_face) rfl
    d_face_axes := c.def_ 5 (d := dd_face_axes) rfl
    d_faces_beside := c.def_ 6 (d := dd_faces_beside) rfl
    d_Box_init := c.def_ 7 (d := dd_Box_init) rfl
    d_Box_eq := c.def_ 8 (d := dd_Box_eq) rfl
    d_framed := c.def_ 9 (d := dd_framed) rfl
    d_check_slope := c.def_ 10 (d := dd_check_slope) rfl
    d_mirrored_slope := c.def_ 11 (d := dd_mirrored_slope) rfl
    d_check_direction := c.def_ 12 (d := dd_check_direction) rfl
    d_unframed := c.def_ 13 (d := dd_unframed) rfl
    d_directions_on := c.def_ 14 (d := dd_directions_on) rfl
    d_outward_step := c.def_ 15 (d := dd_outward_step) rfl
    d_check_facerow := c.def_ 16 (d := dd_check_facerow) rfl
    d_back_row := c.def_ 17 (d := dd_back_row) rfl
    d_least_begun := c.def_ 18 (d := dd_least_begun) rfl
    d_least_row := c.def_ 19 (d := dd_least_row) rfl
    d_turn_couple := c.def_ 20 (d := dd_turn_couple) rfl
    d_slope_to := c.def_ 21 (d := dd_slope_to) rfl
    d_Lane_init := c.def_ 22 (d := dd_Lane_init) rfl
    d_Strip_init := c.def_ 23 (d := dd_Strip_init) rfl
    d_Strip_eq := c.def_ 24 (d := dd_Strip_eq) rfl
    d_measure_at := c.def_ 25 (d := dd_measure_at) rfl
    d_face_level := c.def_ 26 (d := dd_face_level) rfl
    d_edge_ends := c.def_ 27 (d := dd_edge_ends) rfl
    d_sideways_range := c.def_ 28 (d := dd_sideways_range) rfl
    d_leaving_faces := c.def_ 29 (d := dd_leaving_faces) rfl
    d_gone_over := c.def_ 30 (d := dd_gone_over) rfl
    d_onward := c.def_ 31 (d := dd_onward) rfl
    d_strips_round := c.def_ 32 (d := dd_strips_round) rfl
    d_widened := c.def_ 33 (d := dd_widened) rfl
    d_edge_number := c.def_ 34 (d := dd_edge_number) rfl
    d_middle_length := c.def_ 35 (d := dd_middle_length) rfl
    d_least_turn := c.def_ 36 (d := dd_least_turn) rfl
    d_lane_of_ring := c.def_ 37 (d := dd_lane_of_ring) rfl
    d_ring_lengths := c.def_ 38 (d := dd_ring_lengths) rfl
    d_ring_length := c.def_ 39 (d := dd_ring_length) rfl
    d_lanes_of := c.def_ 40 (d := dd_lanes_of) rfl
    d_Lanes_init := c.def_ 41 (d := dd_Lanes_init) rfl
    d_Lanes_len := c.def_ 42 (d := dd_Lanes_len) rfl
    d_Lanes_iter := c.def_ 43 (d := dd_Lanes_iter) rfl
    d_is_triple := c.def_ 44 (d := dd_is_triple) rfl
    d_check_how := c.def_ 45 (d := dd_check_how) rfl
    d_keeps_sense := c.def_ 46 (d := dd_keeps_sense) rfl
    d_led_box := c.def_ 47 (d := dd_led_box) rfl
    d_led_slope := c.def_ 48 (d := dd_led_slope) rfl
    d_law_hand := c.def_ 49 (d := dd_law_hand) rfl
    d_law_mixed := c.def_ 50 (d := dd_law_mixed) rfl
    d_law_take := c.def_ 51 (d := dd_law_take) rfl
    d_law_sides := c.def_ 52 (d := dd_law_sides) rfl
    d_law_slope := c.def_ 53 (d := dd_law_slope) rfl
    d_law_couples := c.def_ 54 (d := dd_law_couples) rfl
    d_law_common := c.def_ 55 (d := dd_law_common) rfl
    d_law_axes := c.def_ 56 (d := dd_law_axes) rfl
    d_law_steps := c.def_ 57 (d := dd_law_steps) rfl
    d_law_four := c.def_ 58 (d := dd_law_four) rfl
    d_law_out := c.def_ 59 (d := dd_law_out) rfl
    d_law_over := c.def_ 60 (d := dd_law_over) rfl
    d_law_pass := c.def_ 61 (d := dd_law_pass) rfl
    d_law_ray := c.def_ 62 (d := dd_law_ray) rfl
    d_law_turned_least := c.def_ 63 (d := dd_law_turned_least) rfl
    d_law_least_row := c.def_ 64 (d := dd_law_least_row) rfl
    d_law_halves := c.def_ 65 (d := dd_law_halves) rfl
    d_law_lanes := c.def_ 66 (d := dd_law_lanes) rfl
    d_law_tuples := c.def_ 67 (d := dd_law_tuples) rfl
    d_law_orders := c.def_ 68 (d := dd_law_orders) rfl
    d_law_how := c.def_ 69 (d := dd_law_how) rfl
    d_law_keeps := c.def_ 70 (d := dd_law_keeps) rfl
    d_law_led_face := c.def_ 71 (d := dd_law_led_face) rfl
    d_law_led_slope := c.def_ 72 (d := dd_law_led_slope) rfl
    d_law_world := c.def_ 73 (d := dd_law_world) rfl
    d_law_due := c.def_ 74 (d := dd_law_due) rfl
    d_law := c.def_ 75 (d := dd_law) rfl
    gcd := PySem.W.mg_of X G (He.eqO_ok e1)
    t_ZERO := tupA_ok e2
    t_FRAMES := tab2_ok e3
    t_ORDERS := tab2_ok e4
    t_SIGNS := tab2_ok e5
    t_TURNED_ORDERS := tab2_ok e6
    iso_Box := e7
    iso_Strip := e8 }
/-! the scopes -/
theorem sc_is_whole : FnScope ["thing", "low", "high"] ["thing", "low", "high"] (defScope s_is_whole) := ⟨rfl, rfl, rfl, by decide +kernel, rfl, by decide +kernel, by decide +kernel⟩
theorem sc_in_lowest : FnScope ["top", "bottom", "common"] ["top", "bottom"] (defScope s_in_lowest) := ⟨rfl, rfl, rfl, by decide +kernel, rfl, by decide +kernel, by decide +kernel⟩
theorem sc_plus : FnScope ["one", "other"] ["one", "other"] (defScope s_plus) := ⟨rfl, rfl, rfl, by decide +kernel, rfl, by decide +kernel, by decide +kernel⟩
theorem sc_sum_of : FnScope ["ratios", "total", "one"] ["ratios"] (defScope s_sum_of) := ⟨rfl, rfl, rfl, by decide +kernel, rfl, by decide +kernel, by decide +kernel⟩
theorem sc_check_face : FnScope ["face"] ["face"] (defScope s_check_face) := ⟨rfl, rfl, rfl, by decide +kernel, rfl, by decide +kernel, by decide +kernel⟩
theorem sc_face_axes : FnScope ["face"] ["face"] (defScope s_face_axes) := ⟨rfl, rfl, rfl, by decide +kernel, rfl, by decide +kernel, by decide +kernel⟩
theorem sc_faces_beside : FnScope ["face", "other"] ["face"] (defScope s_faces_beside) := ⟨rfl, rfl, rfl, by decide +kernel, rfl, by decide +kernel, by decide +kernel⟩
theorem sc_Box_init : FnScope ["self", "sides", "index", "side"] ["self", "sides"] (defScope s_Box_init) := ⟨rfl, rfl, rfl, by decide +kernel, rfl, by decide +kernel, by decide +kernel⟩
theorem sc_Box_eq : FnScope ["self", "other"] ["self", "other"] (defScope s_Box_eq) := ⟨rfl, rfl, rfl, by decide +kernel, rfl, by decide +kernel, by decide +kernel⟩
theorem sc_framed : FnScope ["face", "triple", "axes"] ["face", "triple"] (defScope s_framed) := ⟨rfl, rfl, rfl, by decide +kernel, rfl, by decide +kernel, by decide +kernel⟩
theorem sc_check_slope : FnScope ["slope", "band"] ["slope", "band"] (defScope s_check_slope) := ⟨rfl, rfl, rfl, by decide +kernel, rfl, by decide +kernel, by decide +kernel⟩
theorem sc_mirrored_slope : FnScope ["slope", "p", "q"] ["slope"] (defScope s_mirrored_slope) := ⟨rfl, rfl, rfl, by decide +kernel, rfl, by decide +kernel, by decide +kernel⟩
theorem sc_check_direction : FnScope ["face", "direction", "step", "first", "second"] ["face", "direction"] (defScope s_check_direction) := ⟨rfl, rfl, rfl, by decide +kernel, rfl, by decide +kernel, by decide +kernel⟩
theorem sc_unframed : FnScope ["face", "first", "second", "axes", "triple"] ["face", "first", "second"] (defScope s_unframed) := ⟨rfl, rfl, rfl, by decide +kernel, rfl, by decide +kernel, by decide +kernel⟩
theorem sc_directions_on : FnScope ["face", "slope", "p", "q", "a", "b"] ["face", "slope"] (defScope s_directions_on) := ⟨rfl, rfl, rfl, by decide +kernel, rfl, by decide +kernel, by decide +kernel⟩
theorem sc_outward_step : FnScope ["beside", "direction", "step"] ["beside", "direction"] (defScope s_outward_step) := ⟨rfl, rfl, rfl, by decide +kernel, rfl, by decide +kernel, by decide +kernel⟩
theorem sc_check_facerow : FnScope ["row", "index", "face", "many"] ["row"] (defScope s_check_facerow) := ⟨rfl, rfl, rfl, by decide +kernel, rfl, by decide +kernel, by decide +kernel⟩
theorem sc_back_row : FnScope ["row"] ["row"] (defScope s_back_row) := ⟨rfl, rfl, rfl, by decide +kernel, rfl, by decide +kernel, by decide +kernel⟩
theorem sc_least_begun : FnScope ["row", "index"] ["row"] (defScope s_least_begun) := ⟨rfl, rfl, rfl, by decide +kernel, rfl, by decide +kernel, by decide +kernel⟩
theorem sc_least_row : FnScope ["row"] ["row"] (defScope s_least_row) := ⟨rfl, rfl, rfl, by decide +kernel, rfl, by decide +kernel, by decide +kernel⟩
theorem sc_turn_couple : FnScope ["couple", "turn", "x", "y"] ["couple", "turn"] (defScope s_turn_couple) := ⟨rfl, rfl, rfl, by decide +kernel, rfl, by decide +kernel, by decide +kernel⟩
theorem sc_slope_to : FnScope ["face", "direction", "first", "second", "couple", "turn", "p", "q"] ["face", "direction"] (defScope s_slope_to) := ⟨rfl, rfl, rfl, by decide +kernel, rfl, by decide +kernel, by decide +kernel⟩
theorem sc_Lane_init : FnScope ["self", "box", "faces", "direction", "low", "length", "breadth"] ["self", "box", "faces", "direction", "low", "length", "breadth"] (defScope s_Lane_init) := ⟨rfl, rfl, rfl, by decide +kernel, rfl, by decide +kernel, by decide +kernel⟩
theorem sc_Strip_init : FnScope ["self", "face", "direction", "low", "high"] ["self", "face", "direction", "low", "high"] (defScope s_Strip_init) := ⟨rfl, rfl, rfl, by decide +kernel, rfl, by decide +kernel, by decide +kernel⟩
theorem sc_Strip_eq : FnScope ["self", "other"] ["self", "other"] (defScope s_Strip_eq) := ⟨rfl, rfl, rfl, by decide +kernel, rfl, by decide +kernel, by decide +kernel⟩
theorem sc_measure_at : FnScope ["face", "direction", "spot", "first", "second"] ["face", "direction", "spot"] (defScope s_measure_at) := ⟨rfl, rfl, rfl, by decide +kernel, rfl, by decide +kernel, by decide +kernel⟩
theorem sc_face_level : FnScope ["box", "face"] ["box", "face"] (defScope s_face_level) := ⟨rfl, rfl, rfl, by decide +kernel, rfl, by decide +kernel, by decide +kernel⟩
theorem sc_edge_ends : FnScope ["box", "face", "beside", "direction", "spot", "near", "along"] ["box", "face", "beside", "direction"] (defScope s_edge_ends) := ⟨rfl, rfl, rfl, by decide +kernel, rfl, by decide +kernel, by decide +kernel⟩
theorem sc_sideways_range : FnScope ["box", "face", "direction", "steps", "found", "beside"] ["box", "face", "direction"] (defScope s_sideways_range) := ⟨rfl, rfl, rfl, by decide +kernel, rfl, by decide +kernel, by decide +kernel⟩
theorem sc_leaving_faces : FnScope ["face", "direction", "beside"] ["face", "direction"] (defScope s_leaving_faces) := ⟨rfl, rfl, rfl, by decide +kernel, rfl, by decide +kernel, by decide +kernel⟩
theorem sc_gone_over : FnScope ["face", "beside", "direction", "steps", "out"] ["face", "beside", "direction"] (defScope s_gone_over) := ⟨rfl, rfl, rfl, by decide +kernel, rfl, by decide +kernel, by decide +kernel⟩
theorem sc_onward : FnScope ["box", "strip", "beside", "ends", "direction", "grown"] ["box", "strip"] (defScope s_onward) := ⟨rfl, rfl, rfl, by decide +kernel, rfl, by decide +kernel, by decide +kernel⟩
theorem sc_strips_round : FnScope ["box", "strip", "found", "following"] ["box", "strip"] (defScope s_strips_round) := ⟨rfl, rfl, rfl, by decide +kernel, rfl, by decide +kernel, by decide +kernel⟩
theorem sc_widened : FnScope ["box", "found", "rights", "lefts", "index", "strip", "ends", "right", "left"] ["box", "found"] (defScope s_widened) := ⟨rfl, rfl, rfl, by decide +kernel, rfl, by decide +kernel, by decide +kernel⟩
theorem sc_edge_number : FnScope ["box", "face", "beside", "direction", "measure", "along", "level", "first", "second"] ["box", "face", "beside", "direction", "measure"] (defScope s_edge_number) := ⟨rfl, rfl, rfl, by decide +kernel, rfl, by decide +kernel, by decide +kernel⟩
theorem sc_middle_length : FnScope ["box", "strip", "enter", "leave", "middle", "axis", "begun", "level"] ["box", "strip", "enter", "leave"] (defScope s_middle_length) := ⟨rfl, rfl, rfl, by decide +kernel, rfl, by decide +kernel, by decide +kernel⟩
theorem sc_least_turn : FnScope ["row", "best", "at"] ["row"] (defScope s_least_turn) := ⟨rfl, rfl, rfl, by decide +kernel, rfl, by decide +kernel, by decide +kernel⟩
theorem sc_lane_of_ring : FnScope ["box", "found", "length", "at", "ring", "begun", "faces", "strip"] ["box", "found", "length"] (defScope s_lane_of_ring) := ⟨rfl, rfl, rfl, by decide +kernel, rfl, by decide +kernel, by decide +kernel⟩
theorem sc_ring_lengths : FnScope ["box", "found", "lengths", "index", "strip"] ["box", "found"] (defScope s_ring_lengths) := ⟨rfl, rfl, rfl, by decide +kernel, rfl, by decide +kernel, by decide +kernel⟩
theorem sc_ring_length : FnScope ["box", "found"] ["box", "found"] (defScope s_ring_length) := ⟨rfl, rfl, rfl, by decide +kernel, rfl, by decide +kernel, by decide +kernel⟩
theorem sc_lanes_of : FnScope ["box", "slope", "kept", "seen", "found", "face", "direction", "least", "greatest", "low", "ring", "strip", "unit"] ["box", "slope"] (defScope s_lanes_of) := ⟨rfl, rfl, rfl, by decide +kernel, rfl, by decide +kernel, by decide +kernel⟩
theorem sc_Lanes_init : FnScope ["self", "box", "slope", "lanes"] ["self", "box", "slope", "lanes"] (defScope s_Lanes_init) := ⟨rfl, rfl, rfl, by decide +kernel, rfl, by decide +kernel, by decide +kernel⟩
theorem sc_Lanes_len : FnScope ["self"] ["self"] (defScope s_Lanes_len) := ⟨rfl, rfl, rfl, by decide +kernel, rfl, by decide +kernel, by decide +kernel⟩
theorem sc_Lanes_iter : FnScope ["self"] ["self"] (defScope s_Lanes_iter) := ⟨rfl, rfl, rfl, by decide +kernel, rfl, by decide +kernel, by decide +kernel⟩
theorem sc_is_triple : FnScope ["thing", "item"] ["thing"] (defScope s_is_triple) := ⟨rfl, rfl, rfl, by decide +kernel, rfl, by decide +kernel, by decide +kernel⟩
theorem sc_check_how : FnScope ["how", "order", "signs"] ["how"] (defScope s_check_how) := ⟨rfl, rfl, rfl, by decide +kernel, rfl, by decide +kernel, by decide +kernel⟩
theorem sc_keeps_sense : FnScope ["how", "order", "signs", "sense"] ["how"] (defScope s_keeps_sense) := ⟨rfl, rfl, rfl, by decide +kernel, rfl, by decide +kernel, by decide +kernel⟩
theorem sc_led_box : FnScope ["box", "how", "order", "_", "axis"] ["box", "how"] (defScope s_led_box) := ⟨rfl, rfl, rfl, by decide +kernel, rfl, by decide +kernel, by decide +kernel⟩
theorem sc_led_slope : FnScope ["slope", "how", "told"] ["slope", "how"] (defScope s_led_slope) := ⟨rfl, rfl, rfl, by decide +kernel, rfl, by decide +kernel, by decide +kernel⟩
theorem sc_law_hand : FnScope ["_law_script", "_law_total", "_law_cells", "_law_cell"] ["_law_script"] (defScope s_law_hand) := ⟨rfl, rfl, rfl, by decide +kernel, rfl, by decide +kernel, by decide +kernel⟩
theorem sc_law_mixed : FnScope ["_law_number", "_law_turn", "_law_once", "_law_twice"] ["_law_number", "_law_turn"] (defScope s_law_mixed) := ⟨rfl, rfl, rfl, by decide +kernel, rfl, by decide +kernel, by decide +kernel⟩
theorem sc_law_take : FnScope ["_law_hand_here", "_law_many", "_law_cell", "_law_rest"] ["_law_hand_here", "_law_many"] (defScope s_law_take) := ⟨rfl, rfl, rfl, by decide +kernel, rfl, by decide +kernel, by decide +kernel⟩
theorem sc_law_sides : FnScope ["_law_hand_here", "_law_most", "_law_axis"] ["_law_hand_here", "_law_most"] (defScope s_law_sides) := ⟨rfl, rfl, rfl, by decide +kernel, rfl, by decide +kernel, by decide +kernel⟩
theorem sc_law_slope : FnScope ["_law_hand_here", "_law_most", "_law_pool", "_law_p", "_law_q", "_law_couple"] ["_law_hand_here", "_law_most"] (defScope s_law_slope) := ⟨rfl, rfl, rfl, by decide +kernel, rfl, by decide +kernel, by decide +kernel⟩
theorem sc_law_couples : FnScope ["_law_most", "_law_out_here", "_law_p", "_law_q"] ["_law_most"] (defScope s_law_couples) := ⟨rfl, rfl, rfl, by decide +kernel, rfl, by decide +kernel, by decide +kernel⟩
theorem sc_law_common : FnScope ["_law_one", "_law_other"] ["_law_one", "_law_other"] (defScope s_law_common) := ⟨rfl, rfl, rfl, by decide +kernel, rfl, by decide +kernel, by decide +kernel⟩
theorem sc_law_axes : FnScope ["_law_face"] ["_law_face"] (defScope s_law_axes) := ⟨rfl, rfl, rfl, by decide +kernel, rfl, by decide +kernel, by decide +kernel⟩
theorem sc_law_steps : FnScope ["_law_face", "_law_first", "_law_second", "_law_axes_here", "_law_out_here"] ["_law_face", "_law_first", "_law_second"] (defScope s_law_steps) := ⟨rfl, rfl, rfl, by decide +kernel, rfl, by decide +kernel, by decide +kernel⟩
theorem sc_law_four : FnScope ["_law_face", "_law_slope_here", "_law_p", "_law_q"] ["_law_face", "_law_slope_here"] (defScope s_law_four) := ⟨rfl, rfl, rfl, by decide +kernel, rfl, by decide +kernel, by decide +kernel⟩
theorem sc_law_out : FnScope ["_law_beside", "_law_steps_here"] ["_law_beside", "_law_steps_here"] (defScope s_law_out) := ⟨rfl, rfl, rfl, by decide +kernel, rfl, by decide +kernel, by decide +kernel⟩
theorem sc_law_over : FnScope ["_law_face", "_law_beside", "_law_steps_here", "_law_out_here", "_law_step"] ["_law_face", "_law_beside", "_law_steps_here"] (defScope s_law_over) := ⟨rfl, rfl, rfl, by decide +kernel, rfl, by decide +kernel, by decide +kernel⟩
theorem sc_law_pass : FnScope ["_law_sides_here", "_law_scale", "_law_many", "_law_place", "_law_steps_here", "_law_best", "_law_axis", "_law_gap", "_law_size", "_law_end", "_law_over_here"] ["_law_sides_here", "_law_scale", "_law_many", "_law_place", "_law_steps_here"] (defScope s_law_pass) := ⟨rfl, rfl, rfl, by decide +kernel, rfl, by decide +kernel, by decide +kernel⟩
theorem sc_law_ray : FnScope ["_law_sides_here", "_law_scale", "_law_many", "_law_place", "_law_face", "_law_steps_here", "_law_most", "_law_rows", "_law_at", "_law_on", "_law_way", "_law_turn", "_law_end", "_law_length", "_law_beside"] ["_law_sides_here", "_law_scale", "_law_many", "_law_place", "_law_face", "_law_steps_here", "_law_most"] (defScope s_law_ray) := ⟨rfl, rfl, rfl, by decide +kernel, rfl, by decide +kernel, by decide +kernel⟩
theorem sc_law_turned_least : FnScope ["_law_row", "_law_at"] ["_law_row"] (defScope s_law_turned_least) := ⟨rfl, rfl, rfl, by decide +kernel, rfl, by decide +kernel, by decide +kernel⟩
theorem sc_law_least_row : FnScope ["_law_row", "_law_back"] ["_law_row"] (defScope s_law_least_row) := ⟨rfl, rfl, rfl, by decide +kernel, rfl, by decide +kernel, by decide +kernel⟩
theorem sc_law_halves : FnScope ["_law_sides_here", "_law_slope_here", "_law_p", "_law_q", "_law_scale", "_law_out_here", "_law_face", "_law_beside", "_law_along", "_law_steps_here", "_law_step", "_law_k", "_law_place"] ["_law_sides_here", "_law_slope_here"] (defScope s_law_halves) := ⟨rfl, rfl, rfl, by decide +kernel, rfl, by decide +kernel, by decide +kernel⟩
theorem sc_law_lanes : FnScope ["_law_sides_here", "_law_slope_here", "_law_many", "_law_scale", "_law_seen", "_law_out_here", "_law_place", "_law_face", "_law_steps_here", "_law_rows", "_law_row", "_law_faces", "_law_old"] ["_law_sides_here", "_law_slope_here"] (defScope s_law_lanes) := ⟨rfl, rfl, rfl, by decide +kernel, rfl, by decide +kernel, by decide +kernel⟩
theorem sc_law_tuples : FnScope ["_law_thing", "_law_item"] ["_law_thing"] (defScope s_law_tuples) := ⟨rfl, rfl, rfl, by decide +kernel, rfl, by decide +kernel, by decide +kernel⟩
theorem sc_law_orders : FnScope [] [] (defScope s_law_orders) := ⟨rfl, rfl, rfl, by decide +kernel, rfl, by decide +kernel, by decide +kernel⟩
theorem sc_law_how : FnScope ["_law_hand_here", "_law_order", "_law_axis"] ["_law_hand_here"] (defScope s_law_how) := ⟨rfl, rfl, rfl, by decide +kernel, rfl, by decide +kernel, by decide +kernel⟩
theorem sc_law_keeps : FnScope ["_law_how_here", "_law_sense"] ["_law_how_here"] (defScope s_law_keeps) := ⟨rfl, rfl, rfl, by decide +kernel, rfl, by decide +kernel, by decide +kernel⟩
theorem sc_law_led_face : FnScope ["_law_face", "_law_how_here", "_law_axis", "_law_far"] ["_law_face", "_law_how_here"] (defScope s_law_led_face) := ⟨rfl, rfl, rfl, by decide +kernel, rfl, by decide +kernel, by decide +kernel⟩
theorem sc_law_led_slope : FnScope ["_law_slope_here", "_law_how_here"] ["_law_slope_here", "_law_how_here"] (defScope s_law_led_slope) := ⟨rfl, rfl, rfl, by decide +kernel, rfl, by decide +kernel, by decide +kernel⟩
theorem sc_law_world : FnScope ["_law_hand_here", "_law_most", "_law_steep", "_law_sides_here", "_law_slope_here", "_law_side"] ["_law_hand_here", "_law_most", "_law_steep"] (defScope s_law_world) := ⟨rfl, rfl, rfl, by decide +kernel, rfl, by decide +kernel, by decide +kernel⟩
theorem sc_law_due : FnScope ["_law_lanes_here", "_law_how_here", "_law_rows", "_law_faces", "_law_length", "_law_breadth", "_law_seen", "_law_face"] ["_law_lanes_here", "_law_how_here"] (defScope s_law_due) := ⟨rfl, rfl, rfl, by decide +kernel, rfl, by decide +kernel, by decide +kernel⟩
theorem sc_law : FnScope ["_law_script", "_law_hand_here", "_law_sides_here", "_law_slope_here", "_law_lanes_here", "_law_how_here", "_law_box", "_law_seen", "_law_found", "_law_index", "_law_a", "_law_b", "_law_c", "_law_lane", "_law_row"] ["_law_script"] (defScope s_law) := ⟨rfl, rfl, rfl, by decide +kernel, rfl, by decide +kernel, by decide +kernel⟩
end TP

/-! B -/
set_option Elab.async false
set_option linter.all false
set_option maxRecDepth 100000
set_option maxHeartbeats 0
namespace TPK
open TP PySem PySem.Spec PyProof.Rows L2
abbrev R : PySem.W.OpenRow := PySem.W.OpenLaw.row PySem.Challenge.rw_tautparcel_k65_whole_lanes_of_a_box_seen
def codeAt0 (K : PySem.W.Frag) (f : Addr) : Option Addr := match K.lookup f with
  | some ⟨_, _, .func fd, _⟩ => match fd.code with
    | .ref c => some c
    | _ => none
  | _ => none
def emptyTab (K : PySem.W.Frag) (p : Addr) : Bool := match K.lookup p with
  | some ⟨.none, none, .fields vs, sl⟩ => vs.toList.isEmpty && sl.toList.isEmpty
  | _ => false
def codeIs (K : PySem.W.Frag) (c : Addr) : Bool := match codeAt0 K (He.ga K "lanes_of") with
  | some d => d == c
  | none => false
/-- the addresses that the hook looks at: what the globals of the module name, four steps deep, but for one empty table -/
def seenAd : List Addr := [3, 6, 4, 49, 59, 79, 98, 117, 136, 155, 174, 193, 196, 204, 211, 218, 225, 232, 239, 246, 251, 291, 302, 310, 317, 324, 331, 336, 343, 350, 357, 362, 369, 376, 383, 407, 435, 446, 453, 460, 467, 472, 479, 486, 493, 498, 505, 512, 519, 524, 531, 538, 545, 590, 601, 610, 614, 619, 626, 633, 638, 645, 652, 659, 666, 671, 676, 683, 690, 697, 704, 711, 718, 725, 730, 737, 744, 749, 756, 763, 768, 773, 780, 785, 792, 799, 806, 811, 816, 821, 0, 48, 58, 78, 97, 116, 135, 154, 173, 192, 203, 197, 210, 217, 224, 226, 227, 228, 229, 230, 231, 238, 245, 250, 290, 301, 309, 303, 316, 323, 330, 335, 342, 349, 356, 361, 368, 375, 382, 406, 434, 445, 452, 459, 466, 471, 478, 485, 492, 497, 504, 511, 518, 523, 530, 537, 544, 589, 595, 596, 597, 598, 599, 600, 602, 603, 604, 605, 606, 607, 608, 609, 611, 612, 613, 618, 625, 632, 637, 644, 651, 658, 665, 670, 675, 682, 689, 696, 703, 710, 717, 724, 729, 736, 743, 748, 755, 762, 767, 772, 779, 784, 791, 798, 805, 810, 815, 820, 43, 44, 45, 46, 47, 57, 60, 76, 77, 95, 96, 114, 115, 133, 134, 152, 153, 171, 172, 190, 191, 198, 199, 200, 201, 202, 205, 206, 207, 208, 209, 212, 213, 214, 215, 216, 219, 220, 221, 222, 223, 233, 234, 235, 236, 237, 240, 241, 242, 243, 244, 247, 248, 249, 265, 272, 280, 288, 289, 292, 293, 296, 297, 298, 299, 300, 304, 305, 306, 307, 308, 311, 312, 313, 314, 315, 318, 319, 320, 321, 322, 325, 326, 327, 328, 329, 332, 333, 334, 337, 338, 339, 340, 341, 344, 345, 346, 347, 348, 351, 352, 353, 354, 355, 358, 359, 360, 363, 364, 365, 366, 367, 370, 371, 372, 373, 374, 377, 378, 379, 380, 381, 397, 404, 405, 408, 409, 425, 432, 433, 436, 437, 440, 441, 442, 443, 444, 447, 448, 449, 450, 451, 454, 455, 456, 457, 458, 461, 462, 463, 464, 465, 468, 469, 470, 473, 474, 475, 476, 477, 480, 481, 482, 483, 484, 487, 488, 489, 490, 491, 494, 495, 496, 499, 500, 501, 502, 503, 506, 507, 508, 509, 510, 513, 514, 515, 516, 517, 520, 521, 522, 525, 526, 527, 528, 529, 532, 533, 534, 535, 536, 539, 541, 542, 543, 559, 566, 573, 580, 587, 588, 591, 592, 615, 616, 617, 620, 621, 622, 623, 624, 627, 628, 629, 630, 631, 634, 635, 636, 639, 640, 641, 642, 643, 646, 647, 648, 649, 650, 653, 654, 655, 656, 657, 660, 661, 662, 663, 664, 667, 668, 669, 672, 673, 674, 677, 678, 679, 680, 681, 684, 685, 686, 687, 688, 691, 692, 693, 694, 695, 698, 699, 700, 701, 702, 705, 706, 707, 708, 709, 712, 713, 714, 715, 716, 719, 720, 721, 722, 723, 726, 727, 728, 731, 732, 733, 734, 735, 738, 739, 740, 741, 742, 745, 746, 747, 750, 751, 752, 753, 754, 757, 758, 759, 760, 761, 764, 765, 766, 769, 770, 771, 774, 775, 776, 777, 778, 781, 782, 783, 786, 787, 788, 789, 790, 793, 794, 795, 796, 797, 800, 801, 802, 803, 804, 807, 808, 809, 812, 813, 814, 817, 818, 819, 75, 94, 113, 132, 151, 170, 189, 264, 271, 279, 287, 396, 403, 424, 431, 558, 565, 572, 579, 586]
/-- all of them but that table -/
def obsK (g : Addr → Option Obj) : AlR :=
  (fun K : PySem.W.Frag => (He.obsD fa fn K, exB K && (emptyTab (He.frG g [540]) 540 && (PySem.W.codeHdIn K 544 540 && codeIs K 544)))) (He.frG g seenAd)
def obsT (_ : Nat) (g : Addr → Option Obj) : AlR := obsK g
structure SaysT (K : PySem.W.Frag) (c pt : Addr) (h : Heap) : Prop where
  inn : K.In h
  says : SaysR K
  out : K.lookup pt = none
  code : codeAt0 K (He.ga K "lanes_of") = some c
  hd : PySem.W.codeHdIn K c pt = true
  tab : h.get? pt = some { cls := .none, data := .fields #[] }
theorem frG_out {g : Addr → Option Obj} {a : Addr} : ∀ {as : List Addr}, a ∉ as → (He.frG g as).lookup a = none
  | [], _ => rfl
  | b :: as, h => by
    have hb : a ≠ b := fun e => h (e ▸ List.mem_cons_self)
    have ih := frG_out (g := g) (as := as) fun m => h (List.mem_cons_of_mem _ m)
    unfold He.frG at ih ⊢
    rw [List.filterMap_cons]
    cases hg : g b with
    | none => exact ih
    | some o =>
      show List.lookup a ((b, o) :: _) = none
      rw [List.lookup_cons, show (a == b) = false from beq_eq_false_iff_ne.mpr hb]
      exact ih
theorem empty_ok {h : Heap} {p : Addr} (e : emptyTab (He.frG h.get? [p]) p = true) : h.get? p = some { cls := .none, data := .fields #[] } := by
  unfold emptyTab at e
  split at e
  · rename_i vs sl hk
    obtain ⟨e1, e2⟩ := Bool.and_eq_true_iff.mp e
    have h1 := He.frG_in (h := h) _ _ hk
    obtain ⟨vs⟩ := vs
    obtain ⟨sl⟩ := sl
    cases vs with
    | nil =>
      cases sl with
      | nil => exact h1
      | cons _ _ => cases e2
    | cons _ _ => cases e1
  · cases e
def hookT (n : Nat) : PySem.W.Hook where
  α := AlR
  obs := fun s => obsT n s.heap.get?
  val := fun _ => valR
  says := fun _ h => ∃ K c pt, SaysT K c pt h
  of := fun _ s e => by
    have e' : obsK s.heap.get? = valR := e
    have e1 := congrArg (fun z : AlR => z.1) e'
    have e2 : (exB _ && (emptyTab _ 540 && (PySem.W.codeHdIn _ 544 540 && codeIs _ 544))) = true := congrArg (fun z : AlR => z.2) e'
    obtain ⟨x1, e2⟩ := Bool.and_eq_true_iff.mp e2
    obtain ⟨x2, e2⟩ := Bool.and_eq_true_iff.mp e2
    obtain ⟨x3, x4⟩ := Bool.and_eq_true_iff.mp e2
    refine ⟨_, 544, 540, He.frG_in, ⟨e1, x1⟩, frG_out (by decide), ?_, x3, empty_ok x2⟩
    unfold codeIs at x4
    split at x4
    · rename_i d hd
      rw [hd, eq_of_beq x4]
    · cases x4
  keeps := fun _ _ _ ⟨K, c, pt, h⟩ k => ⟨K, c, pt, PySem.W.Frag.In.keeps h.inn k, h.says, h.out, h.code, h.hd, k _ _ h.tab⟩
def ob (s : PySem.W.SharedT) : AlR := obsT 822 (HandSHeadRun.getT s)
theorem ob_eq (s : PySem.W.SharedT) : ob s = (hookT 822).obs s.abs := by
  have e : HandSHeadRun.getT s = s.abs.heap.get? := funext fun a => HandSHeadRun.getT_eq s a
  show obsT 822 _ = obsT 822 _
  rw [e]
end TPK

/-! X -/
set_option Elab.async false
set_option linter.all false
set_option maxRecDepth 100000
set_option maxHeartbeats 0
namespace TPK
open TP PySem PySem.Spec PyProof.Rows L2
theorem run (w : World) : HandSHeadRun.RunEqI R (PySem.W.view R.prog [0, 102]) (hookT 822) ob 6000 loose w := by
  unfold HandSHeadRun.RunEqI
  kernel_rfl
end TPK

/-! C -/
set_option Elab.async false
set_option linter.all false
set_option maxRecDepth 100000
set_option maxHeartbeats 4000000
namespace TP
open PySem PySem.Spec PyProof.Rows L2
/-! ### heaps that grow -/
abbrev Ex (H H' : Hp) : Prop := Evl.Ex H H'
theorem ex_t {K : PySem.W.Frag} {H H' : Hp} {a : Addr} {xs : List V} (e : Ex H H') (h : SqT K H a xs) : SqT K H' a xs := Evl.ex_t e h
theorem ex_l {K : PySem.W.Frag} {H H' : Hp} {a : Addr} {xs : List V} (e : Ex H H') (h : SqL K H a xs) : SqL K H' a xs := Evl.ex_l e h
theorem ex_o {H H' : Hp} {a : Addr} {o : HO} (e : Ex H H') (h : H a = some o) : H' a = some o := e a o h
theorem st_at {K : PySem.W.Frag} {H : Hp} {a : Addr} {xs : List V} (h : H a = some (.tup xs)) : SqT K H a xs := SqT.of h
theorem sl_at {K : PySem.W.Frag} {H : Hp} {a : Addr} {xs : List V} (h : H a = some (.lst xs)) : SqL K H a xs := SqL.of h
/-! ### a def of the module and its promise -/
structure FnC (P : Program) (w : World) (K : PySem.W.Frag) (mg : Str → Option Value) (base : Heap) (x : Str) (k : Nat) (ps : List Str) (dvs : List V) (sp : Sp) : Prop where
  ex : ∃ (f : Addr) (fd : FuncData) (ds : List Value), FnOk P w K mg base CX0 k f fd ps sp ∧ mg x = some (.ref f) ∧ PySem.W.keepIn K (.ref f) = true ∧ Binds K fd ps ds ∧ Vals dvs ds
section
variable {X : Cx} {x : Str} {k : Nat} {ps : List Str} {dvs : List V} {sp : Sp} {p pos : Pos} {e : Expr} {es : List Expr} {t : TA}
theorem pe_c (C : FnC X.prog X.w X.K X.mg X.base x k ps dvs sp) (hr : Room k X.A) (hg : Gl X x) (ha : PA X (e :: es) t) (hdb : (x == ("__debug__" : Str)) = false := by decide)
    (he : starEach (e :: es) X.env = (false, eval e X.env) :: starEach es X.env := by rfl) (hpl : (backTo pos (starEach es X.env)).any (·.1) = false := by rfl) : PE X (.Call (.Name x p) (e :: es) [] pos) (tCall sp dvs E0 t) := by
  obtain ⟨f, fd, ds, F, hm, kp, b, r⟩ := C.ex
  exact pe_call F hr hg hm kp b r pass0 ha hdb he hpl
theorem pe_c0 (C : FnC X.prog X.w X.K X.mg X.base x k ps dvs sp) (hr : Room k X.A) (hg : Gl X x) (hdb : (x == ("__debug__" : Str)) = false := by decide) : PE X (.Call (.Name x p) [] [] pos) (tCall sp dvs E0 tNil) := by
  obtain ⟨f, fd, ds, F, hm, kp, b, r⟩ := C.ex
  exact pe_call0 F hr hg hm kp b r pass0 hdb
end
theorem pe_cst {X : Cx} {x : Str} {n : Int} {pos : Pos} (hg : Gl X x) (h : ∃ t, X.mg x = some (.int n t)) (hd : (x == ("__debug__" : Str)) = false := by decide) : PE X (.Name x pos) (tC (.int n)) := by
  obtain ⟨t, e⟩ := h
  exact pe_glob hg e ⟨t, rfl⟩ hd
/-- a def that binds by place, from its body -/
theorem FnC.of {P : Program} {w : World} {K : PySem.W.Frag} {mg : Str → Option Value} {base : Heap} {x : Str} {params : Arguments} {body : List Stmt} {scope : Scope} {f : Addr} {k : Nat} {N ps : List Str} {sp : Sp}
    (d : ∃ fd, FunD K x x params body scope [] [] f fd) (g : mg x = some (.ref f)) (S : FnScope N ps scope) (len : ∀ vs H Q E, sp vs H Q E → vs.length = ps.length)
    (hb : ∀ (kV doc pm : Value) (an : Option Addr) (cdv ct : Value) (us : List Value), us.length = ps.length → bindArgs (PySem.W.fnOf x x params body scope .none kV doc pm an cdv ct) ⟨us, []⟩ = pure (ps.zip us))
    (hbody : ∀ (cdv : Value) (A : Around) (outer : List PySem.Env) (s : Shared) (H : Hp) (vs : List V) (Q : VK) (E : XK), Room k (A.deeper (envOfC x scope s.heap.objs.size f cdv)) → sp vs H Q E →
      ∃ t, PSs (cxOf CX0 P w K mg base N x scope f cdv A outer s H E).nox body t ∧ t { nx := fun _ H' => Q .non H', rt := Q } (start N vs) H) : FnC P w K mg base x (k + 1) ps [] sp := by
  obtain ⟨fd, F⟩ := d
  refine ⟨f, fd, [], F.ok S len fun cdv A outer s H vs Q E hr h => ?_, g, F.kp, F.bindsN hb, .nil⟩
  obtain ⟨t, h1, h2⟩ := hbody cdv A outer s H vs Q E hr h
  exact ⟨t, h1.nox, h2⟩
/-! ### one step of a reading -/
section
variable {K : PySem.W.Frag} {σ : L2.St} {H : Hp} {Q : VK} {D : Ends} {ta tb te : TE} {tt uu : TT} {t u : TS} {g : TG} {i : Nat} {v x y : V} {r : R2} {QB : Bool → Hp → Prop} {QA : List V → Hp → Prop} {QS : L2.St → Hp → Prop} {a : Addr} {xs : List V} {gs : TGs}
theorem w_seq (h : t ⟨u D, D.rt, D.bk, D.ct⟩ σ H) : tSeq t u D σ H := h
theorem w_asg (h : te σ H fun x H1 => g x σ H1 D.nx) : tAsg te g D σ H := h
theorem w_ret (h : te σ H D.rt) : tRet te D σ H := h
theorem w_drop (h : te σ H fun _ H1 => D.nx σ H1) : tDrop te D σ H := h
theorem w_gn (h : QS (σ.set i (some v)) H) : gName i v σ H QS := h
theorem w_var (h : σ[i]? = some (some v)) (q : Q v H) : tVar i σ H Q := ⟨v, h, q⟩
theorem w_c (q : Q v H) : tC v σ H Q := q
theorem w_op (h : ta σ H fun x H1 => tb σ H1 fun y H2 => r x y H2 Q) : tOp r ta tb σ H Q := h
theorem w_un {r : V → Hp → VK → Prop} (h : ta σ H fun x H1 => r x H1 Q) : tUn r ta σ H Q := h
theorem w_U {f : Int → V} {n : Int} (q : Q (f n) H) : rU f (.int n) H Q := ⟨n, rfl, q⟩
theorem w_I0 {f : Int → Int → V} {n m : Int} (q : Q (f n m) H) : rI0 f (.int n) (.int m) H Q := ⟨n, m, rfl, rfl, q⟩
theorem w_I {C : Int → Int → Prop} {f : Int → Int → V} {n m : Int} (c : C n m) (q : Q (f n m) H) : rI C f (.int n) (.int m) H Q := ⟨n, m, rfl, rfl, c, q⟩
theorem w_eq (h : scal x y = true) (q : Q (.bl (decide (x = y))) H) : rEq x y H Q := ⟨h, q⟩
theorem w_ne (h : scal x y = true) (q : Q (.bl (!decide (x = y))) H) : rNe x y H Q := ⟨h, q⟩
theorem w_test (h : te σ H fun x H' => ∃ k, x = .bl k ∧ QB k H') : tTest te σ H QB := h
theorem w_tB (h : te σ H fun x H' => ∃ k, x = .bl k ∧ QB k H') : tB te σ H QB := h
theorem w_bl {b : Bool} {B : Bool → Prop} (q : B b) : ∃ k, V.bl b = V.bl k ∧ B k := ⟨b, rfl, q⟩
theorem w_ifS (h : tt σ H fun b H1 => if b = true then t D σ H1 else u D σ H1) : tIfS tt t u D σ H := h
theorem w_if (h : tt σ H fun b H1 => if b = true then ta σ H1 Q else tb σ H1 Q) : tIf tt ta tb σ H Q := h
theorem w_not (h : tt σ H fun c H1 => QB (!c) H1) : tNot tt σ H QB := h
theorem w_and (h : tt σ H fun c H1 => if c = true then uu σ H1 QB else QB false H1) : tAnd tt uu σ H QB := h
theorem w_or (h : tt σ H fun c H1 => if c = true then QB true H1 else uu σ H1 QB) : tOr tt uu σ H QB := h
theorem w_andV (h : ta σ H fun x H1 => ∃ c, x = .bl c ∧ if c = true then tb σ H1 Q else Q (.bl false) H1) : tAndV ta tb σ H Q := h
theorem w_orV (h : ta σ H fun x H1 => ∃ c, x = .bl c ∧ if c = true then Q (.bl true) H1 else tb σ H1 Q) : tOrV ta tb σ H Q := h
theorem w_next (h : D.nx σ H) : tNext D σ H := h
theorem w_cons {ta : TE} {tr : TA} (h : ta σ H fun x H1 => tr σ H1 fun xs H2 => QA (x :: xs) H2) : tCons ta tr σ H QA := h
theorem w_nil (h : QA [] H) : tNil σ H QA := h
theorem w_cb {rc : List V → Hp → VK → Prop} {t : TA} (h : t σ H fun vs H1 => rc vs H1 Q) : tCB rc t σ H Q := h
theorem w_call {sp : Sp} {dvs : List V} {E : XK} {t : TA} (h : t σ H fun vs H1 => sp (vs ++ dvs) H1 Q E) : tCall sp dvs E t σ H Q := h
theorem w_tup {t : TA} (h : t σ H fun xs H1 => xs.length ≤ sizeLine ∧ ∀ p, H1 p = none → Q (.ref p) (upd H1 p (.tup xs))) : tTup t σ H Q := h
theorem w_lst {t : TA} (h : t σ H fun xs H1 => xs.length ≤ sizeLine ∧ ∀ p, H1 p = none → Q (.ref p) (upd H1 p (.lst xs))) : tLst t σ H Q := h
theorem w_new {B : Addr → Prop} {n : Nat} (h : n ≤ sizeLine) (q : ∀ p, H p = none → B p) : n ≤ sizeLine ∧ ∀ p, H p = none → B p := ⟨h, q⟩
theorem ex_of {H H2 : Hp} {p : Addr} {o : HO} (e : upd H p o = H2) (np : H p = none) : Ex H H2 := e ▸ Evl.Ex.new np
theorem at_of {H H2 : Hp} {p : Addr} {o : HO} (e : upd H p o = H2) : H2 p = some o := e ▸ upd_same
theorem w_ixT {z : Int} (h : SqT K H a xs) (e : atI xs z = some v) (q : Q v H) : rIxT K (.ref a) (.int z) H Q := ⟨a, xs, z, v, rfl, rfl, h, e, q⟩
theorem w_ixL {z : Int} (h : SqL K H a xs) (e : atI xs z = some v) (q : Q v H) : rIxL K (.ref a) (.int z) H Q := ⟨a, xs, z, v, rfl, rfl, h, e, q⟩
theorem w_gT {n : Nat} (h : SqT K H a xs) (e : xs.length = n) (q : gs xs σ H QS) : gTup K n gs (.ref a) σ H QS := ⟨a, xs, rfl, h, e, q⟩
theorem w_gc {vs : List V} (h : g v σ H fun σ' H' => gs vs σ' H' QS) : gCons g gs (v :: vs) σ H QS := ⟨v, vs, rfl, h⟩
theorem w_gci {n : Int} {ns : List Int} (h : g (.int n) σ H fun σ' H' => gs (vi ns) σ' H' QS) : gCons g gs (vi (n :: ns)) σ H QS := ⟨.int n, vi ns, rfl, h⟩
theorem w_gni (h : QS σ H) : gNil (vi []) σ H QS := ⟨rfl, h⟩
theorem w_gnil (h : QS σ H) : gNil [] σ H QS := ⟨rfl, h⟩
theorem w_lenL {B : List V → Prop} (h : SqL K H a xs) (q : B xs) : ∃ p ys, [V.ref a] = [V.ref p] ∧ (SqL K H p ys ∨ SqT K H p ys) ∧ B ys := ⟨a, xs, rfl, .inl h, q⟩
theorem w_lenT {B : List V → Prop} (h : SqT K H a xs) (q : B xs) : ∃ p ys, [V.ref a] = [V.ref p] ∧ (SqL K H p ys ∨ SqT K H p ys) ∧ B ys := ⟨a, xs, rfl, .inr h, q⟩
theorem w_fld {f : Str} (h : te σ H fun x H1 => ∃ a C dx fs v, x = .ref a ∧ H1 a = some (.ins C dx fs) ∧ Cls K C ∧ NoAttr K C f ∧ fs.lookup f = some v ∧ Q v H1) : tFld K te f σ H Q := h
theorem w_fl {C dx : Addr} {fs : List (Str × V)} {f : Str} {B : V → Prop} (h : H a = some (.ins C dx fs)) (c : Cls K C) (n : NoAttr K C f) (l : fs.lookup f = some v) (q : B v) :
    ∃ a' C dx fs v, V.ref a = V.ref a' ∧ H a' = some (.ins C dx fs) ∧ Cls K C ∧ NoAttr K C f ∧ fs.lookup f = some v ∧ B v := ⟨a, C, dx, fs, v, rfl, h, c, n, l, q⟩
theorem w_tt {B : Prop} (q : B) : V.non = V.non ∧ B := ⟨rfl, q⟩
theorem w_swap {v w : V} {B : V → V → Prop} (q : B v w) : ∃ a b, [v, w] = [a, b] ∧ B a b := ⟨v, w, rfl, q⟩
theorem w_par {i j : Nat} {ta : TA} (h : ta σ H fun vs H1 => ∃ v w, vs = [v, w] ∧ D.nx ((σ.set i (some v)).set j (some w)) H1) : tPar i j ta D σ H := h
theorem cmul_r {i j : Int} (h : -(2 ^ 64) < j ∧ j < 2 ^ 64) : CMul i j := .inr h
theorem cmul_l {i j : Int} (h : -(2 ^ 64) < i ∧ i < 2 ^ 64) : CMul i j := .inl h
theorem cdiv {i j : Int} (h : 0 < j ∧ j < 1073741824) : CDiv i j := h
theorem w_ixA {K : PySem.W.Frag} {H : Hp} {Q : VK} {v : V} {a : Addr} {xs : List V} {z : Int} (h : SqL K H a xs ∨ SqT K H a xs) (e : atI xs z = some v) (q : Q v H) : rIx K (.ref a) (.int z) H Q := by
  rcases h with h | h
  · exact .inl ⟨a, xs, z, v, rfl, rfl, h, e, q⟩
  · exact .inr (.inl ⟨a, xs, z, v, rfl, rfl, h, e, q⟩)
theorem w_gS {to ti : TE} {ts : TSet} {v : V} {σ : L2.St} {H : Hp} {QS : L2.St → Hp → Prop} (h : to σ H fun o H1 => ti σ H1 fun i H2 => ts o i v H2 fun H3 => QS σ H3) : gSub to ti ts v σ H QS := h
theorem w_sL {H : Hp} {QH : Hp → Prop} {v : V} {a : Addr} {xs : List V} {z : Int} {j : Nat} (h : H a = some (.lst xs)) (e : ixN xs.length z = some j) (q : QH (upd H a (.lst (xs.set j v)))) : rSetL (.ref a) (.int z) v H QH := ⟨a, xs, z, j, rfl, rfl, h, e, q⟩
theorem w_tupL {K : PySem.W.Frag} {H : Hp} {a : Addr} {xs : List V} {B : List V → Addr → Prop} {C : Addr → Prop} (h : SqL K H a xs) (q : ∀ l, H l = none → B xs l) : ∃ p ys, [V.ref a] = [V.ref p] ∧ ((SqL K H p ys ∧ ∀ l, H l = none → B ys l) ∨ (SqT K H p ys ∧ C p)) := ⟨a, xs, rfl, .inl ⟨h, q⟩⟩
theorem w_tupT {K : PySem.W.Frag} {H : Hp} {a : Addr} {xs : List V} {B : List V → Addr → Prop} {C : Addr → Prop} (h : SqT K H a xs) (q : C a) : ∃ p ys, [V.ref a] = [V.ref p] ∧ ((SqL K H p ys ∧ ∀ l, H l = none → B ys l) ∨ (SqT K H p ys ∧ C p)) := ⟨a, xs, rfl, .inr ⟨h, q⟩⟩
theorem w_listA {K : PySem.W.Frag} {H : Hp} {a : Addr} {xs : List V} {B : List V → Addr → Prop} (h : SqL K H a xs ∨ SqT K H a xs) (q : ∀ l, H l = none → B xs l) : ∃ p ys, [V.ref a] = [V.ref p] ∧ (SqL K H p ys ∨ SqT K H p ys) ∧ ∀ l, H l = none → B ys l := ⟨a, xs, rfl, h, q⟩
/-- what a for asks once its iterable is there -/
def ForG (g : TG) (tb : TS) (D : Ends) (σ : L2.St) (J : It) (H1 : Hp) : Prop := ∃ W : Nat → Nat → L2.St → Hp → Prop, (∃ m, W 0 m σ H1) ∧ ∀ i m σ H, W i m σ H →
  (J.stop i H ∧ D.nx σ H) ∨ (J.go i H ∧ ∃ N : L2.St → Hp → Prop, (∀ σ' H', N σ' H' → ∃ m', m' < m ∧ W (i + 1) m' σ' H') ∧ ∀ x H', J.yld i H x H' → g x σ H' fun σ2 H2 => tb { D with nx := N, ct := N, bk := D.nx } σ2 H2)
theorem w_for {wi : TI} {g : TG} {tb : TS} {D : Ends} {σ : L2.St} {H : Hp} (h : wi σ H (ForG g tb D σ)) : tFor wi g tb D σ H := h
theorem w_iL {K : PySem.W.Frag} {tl : TE} {σ : L2.St} {H : Hp} {R : It → Hp → Prop} (h : tl σ H fun x H1 => ∃ a, x = .ref a ∧ (∃ xs, SqL K H1 a xs) ∧ R (Itl K a) H1) : iList K tl σ H R := h
theorem w_iT {K : PySem.W.Frag} {tl : TE} {σ : L2.St} {H : Hp} {R : It → Hp → Prop} (h : tl σ H fun x H1 => ∃ a, x = .ref a ∧ (∃ xs, SqT K H1 a xs) ∧ R (Itt K a) H1) : iTup K tl σ H R := h
theorem w_itL {K : PySem.W.Frag} {H : Hp} {a : Addr} {xs : List V} {B : Addr → Prop} (h : SqL K H a xs) (q : B a) : ∃ a', V.ref a = V.ref a' ∧ (∃ xs, SqL K H a' xs) ∧ B a' := ⟨a, rfl, ⟨xs, h⟩, q⟩
theorem w_itT {K : PySem.W.Frag} {H : Hp} {a : Addr} {xs : List V} {B : Addr → Prop} (h : SqT K H a xs) (q : B a) : ∃ a', V.ref a = V.ref a' ∧ (∃ xs, SqT K H a' xs) ∧ B a' := ⟨a, rfl, ⟨xs, h⟩, q⟩
theorem w_r1 {ta : TA} {σ : L2.St} {H : Hp} {R : It → Hp → Prop} (h : ta σ H fun vs H1 => ∃ j : Int, vs = [.int j] ∧ -(2 ^ 62) ≤ j ∧ j < 2 ^ 62 ∧ R (Itr 0 j.toNat) H1) : iRng1 ta σ H R := h
theorem w_r2 {ta : TA} {σ : L2.St} {H : Hp} {R : It → Hp → Prop} (h : ta σ H fun vs H1 => ∃ i j : Int, vs = [.int i, .int j] ∧ (-(2 ^ 62) ≤ i ∧ i < 2 ^ 62 ∧ -(2 ^ 62) ≤ j ∧ j < 2 ^ 62) ∧ R (Itr i (j - i).toNat) H1) : iRng2 ta σ H R := h
theorem w_itR {n : Int} {B : Int → Prop} (h : -(2 ^ 62) ≤ n ∧ n < 2 ^ 62) (q : B n) : ∃ j : Int, [V.int n] = [V.int j] ∧ -(2 ^ 62) ≤ j ∧ j < 2 ^ 62 ∧ B j := ⟨n, rfl, h.1, h.2, q⟩
theorem w_itR2 {m n : Int} {B : Int → Int → Prop} (h : -(2 ^ 62) ≤ m ∧ m < 2 ^ 62 ∧ -(2 ^ 62) ≤ n ∧ n < 2 ^ 62) (q : B m n) : ∃ i j : Int, [V.int m, V.int n] = [V.int i, V.int j] ∧ (-(2 ^ 62) ≤ i ∧ i < 2 ^ 62 ∧ -(2 ^ 62) ≤ j ∧ j < 2 ^ 62) ∧ B i j := ⟨m, n, rfl, h, q⟩
theorem w_bm {K : PySem.W.Frag} {T : String} {r : V → List V → Hp → VK → Prop} {to : TE} {t : TA} {σ : L2.St} {H : Hp} {Q : VK} (h : to σ H fun x H1 => tyV K T x H1 ∧ t σ H1 fun xs H2 => r x xs H2 Q) : tBM K T r to t σ H Q := h
theorem w_ty {K : PySem.W.Frag} {H : Hp} {a : Addr} {xs : List V} {B : Prop} (h : SqL K H a xs) (q : B) : tyV K "list" (.ref a) H ∧ B := ⟨.inl ⟨rfl, xs, h⟩, q⟩
theorem w_app {H : Hp} {a : Addr} {xs : List V} {v : V} {Q : VK} (h : H a = some (.lst xs)) (z : xs.length < 100000) (q : Q .non (upd H a (.lst (xs ++ [v])))) : rAppend (.ref a) [v] H Q := ⟨a, xs, v, rfl, rfl, h, Evl.sz_lt z, q⟩
/-! ### ways -/
theorem if_dec {p : Prop} [Decidable p] {A B : Prop} (h1 : p → A) (h2 : ¬ p → B) : if decide p = true then A else B := by
  by_cases h : p
  · rw [decide_eq_true h]; exact iteT (h1 h)
  · rw [decide_eq_false h]; exact iteF (h2 h)
theorem if_ndec {p : Prop} [Decidable p] {A B : Prop} (h1 : ¬ p → A) (h2 : p → B) : if (!decide p) = true then A else B := by
  by_cases h : p
  · rw [decide_eq_true h]; exact iteF (h2 h)
  · rw [decide_eq_false h]; exact iteT (h1 h)
theorem if_int {i j : Int} {A B : Prop} (h1 : i = j → A) (h2 : i ≠ j → B) : if decide (V.int i = V.int j) = true then A else B := if_dec (fun h => h1 (V.int.inj h)) fun h => h2 fun e => h (congrArg V.int e)
theorem if_nint {i j : Int} {A B : Prop} (h1 : i ≠ j → A) (h2 : i = j → B) : if (!decide (V.int i = V.int j)) = true then A else B := if_ndec (fun h => h1 fun e => h (congrArg V.int e)) fun h => h2 (V.int.inj h)
theorem if_nnI {n : Int} {A B : Prop} (h : B) : if decide (V.int n = V.non) = true then A else B := if_dec (fun e => V.noConfusion e) fun _ => h
theorem if_nnR {a : Addr} {A B : Prop} (h : B) : if decide (V.ref a = V.non) = true then A else B := if_dec (fun e => V.noConfusion e) fun _ => h
theorem if_nn0 {A B : Prop} (h : A) : if decide (V.non = V.non) = true then A else B := if_dec (fun _ => h) fun e => (e rfl).elim
theorem if_nT {A B : Prop} (h : B) : if (!true) = true then A else B := iteF h
theorem if_nF {A B : Prop} (h : A) : if (!false) = true then A else B := iteT h
theorem if_and {a b : Bool} {A B C : Prop} (h : if a = true then (if b = true then A else B) else C) (hc : C → B) : if (a && b) = true then A else B := by
  cases a with
  | true => exact h
  | false => exact iteF (hc h)
end
/-! ### comprehensions without a test: what each item is told by G -/
section
variable {K : PySem.W.Frag} {σ : L2.St} {H : Hp} {Q : VK} {te : TE} {wi : TI} {g : TG} {vs : List Nat}
def Told (G : Nat → V → Hp → Prop) (n : Nat) (ys : List V) (H : Hp) : Prop := ys.length = n ∧ ∀ i y, ys[i]? = some y → G i y H
theorem Told.snoc {G : Nat → V → Hp → Prop} {n : Nat} {ys : List V} {H H' : Hp} {y : V} (t : Told G n ys H) (m : ∀ i y, G i y H → G i y H') (h : G n y H') : Told G (n + 1) (ys ++ [y]) H' := by
  refine ⟨by rw [List.length_append, t.1]; rfl, fun i z hz => ?_⟩
  by_cases hi : i < ys.length
  · rw [List.getElem?_append_left hi] at hz
    exact m i z (t.2 i z hz)
  · rw [List.getElem?_append_right (Nat.le_of_not_lt hi)] at hz
    have e : i - ys.length = 0 := by
      cases q : i - ys.length with
      | zero => rfl
      | succ k => rw [q] at hz; simp at hz
    rw [e] at hz
    have ei : i = n := by have := t.1; omega
    have ez : y = z := Option.some.inj hz
    rw [ei, ← ez]
    exact h
theorem tYes_ {σ : L2.St} {H : Hp} {QB : Bool → Hp → Prop} (h : QB true H) : tYes σ H QB := h
/-- the heap at a turn: the entry's, grown, the new list at D so far -/
def LcI (G : Nat → V → Hp → Prop) (H : Hp) (D : Addr) (i : Nat) (H' : Hp) : Prop := H D = none ∧ Ex H H' ∧ ∃ ys, H' D = some (.lst ys) ∧ Told G i ys H'
theorem lcI_turn {G : Nat → V → Hp → Prop} {H H' : Hp} {D : Addr} {i n : Nat} {σ2 : L2.St} (p : LcI G H D i H') (hn : n ≤ 100000) (hi : i < n) (m : ∀ i y H1 H2, Ex H1 H2 → G i y H1 → G i y H2) (mu : ∀ i y H1 D acc acc', H1 D = some (.lst acc) → G i y H1 → G i y (upd H1 D (.lst acc')))
    (turn : ∀ QV : VK, (∀ y H3, Ex H' H3 → G i y H3 → QV y H3) → te σ2 H' QV) : te σ2 H' fun y H4 => ∃ acc, H4 D = some (.lst acc) ∧ acc.length < sizeLine ∧ LcI G H D (i + 1) (upd H4 D (.lst (acc ++ [y]))) := by
  obtain ⟨hD, e, ys, hy, t⟩ := p
  refine turn _ fun y H3 e3 hg => ⟨ys, e3 D _ hy, ?_, hD, Evl.Ex.mut (e.trans e3) hD, ys ++ [y], upd_same, ?_⟩
  · rw [t.1]
    exact Evl.sz_lt (by omega)
  · exact t.snoc (fun j z hz => mu j z H3 D ys _ (e3 D _ hy) (m j z _ _ e3 hz)) (mu i y H3 D ys _ (e3 D _ hy) hg)
theorem w_lcR {G : Nat → V → Hp → Prop} {n : Nat} {H1 : Hp} (m : ∀ i y H1 H2, Ex H1 H2 → G i y H1 → G i y H2) (mu : ∀ i y H1 D acc acc', H1 D = some (.lst acc) → G i y H1 → G i y (upd H1 D (.lst acc'))) (hn : n ≤ 100000)
    (hi : ∀ R : It → Hp → Prop, R (Itr 0 n) H1 → wi σ H R)
    (turn : ∀ i H', i < n → Ex H1 H' → g (.int ((0 : Int) + (i : Nat))) (wipe σ vs) H' fun σ2 H2 => H2 = H' ∧ wipe σ2 vs = wipe σ vs ∧ ∀ QV : VK, (∀ y H3, Ex H' H3 → G i y H3 → QV y H3) → te σ2 H' QV)
    (mg : ∀ x σ H Q Q', (∀ σ' H', Q σ' H' → Q' σ' H') → g x σ H Q → g x σ H Q')
    (k : ∀ p H2 ys, H1 p = none → Ex H1 H2 → H2 p = some (.lst ys) → Told G n ys H2 → Q (.ref p) H2) : tLc wi g tYes te vs σ H Q := by
  refine hi _ fun D hD => lc_range (lo := 0) (n := n) (LcI G H1 D) ⟨hD, Evl.Ex.new hD, [], upd_same, rfl, fun i y h => by simp at h⟩ (fun i H' hi p => ?_) (fun H' p => ?_)
  · refine mg _ _ _ _ _ (fun σ' H'' q => ?_) (turn i H' hi p.2.1)
    obtain ⟨rfl, q1, q2⟩ := q
    exact ⟨q1, tYes_ (iteT (lcI_turn p hn hi m mu q2))⟩
  · obtain ⟨a, b, ys, c, d⟩ := p
    exact k D H' ys a b c d
theorem w_lcL {G : Nat → V → Hp → Prop} {H1 : Hp} {a : Addr} {xs : List V} (m : ∀ i y H1 H2, Ex H1 H2 → G i y H1 → G i y H2) (mu : ∀ i y H1 D acc acc', H1 D = some (.lst acc) → G i y H1 → G i y (upd H1 D (.lst acc'))) (hn : xs.length ≤ 100000) (hx : SqL K H1 a xs)
    (hi : ∀ R : It → Hp → Prop, R (Itl K a) H1 → wi σ H R)
    (turn : ∀ i x H', xs[i]? = some x → Ex H1 H' → g x (wipe σ vs) H' fun σ2 H2 => H2 = H' ∧ wipe σ2 vs = wipe σ vs ∧ ∀ QV : VK, (∀ y H3, Ex H' H3 → G i y H3 → QV y H3) → te σ2 H' QV)
    (mg : ∀ x σ H Q Q', (∀ σ' H', Q σ' H' → Q' σ' H') → g x σ H Q → g x σ H Q')
    (k : ∀ p H2 ys, H1 p = none → Ex H1 H2 → H2 p = some (.lst ys) → Told G xs.length ys H2 → Q (.ref p) H2) : tLc wi g tYes te vs σ H Q := by
  refine hi _ fun D hD => lc_list (xs := xs) (LcI G H1 D) ⟨hD, Evl.Ex.new hD, [], upd_same, rfl, fun i y h => by simp at h⟩ (fun i H' _ p => ex_l p.2.1 hx) (fun i x H' hi p => ?_) (fun H' p => ?_)
  · refine mg _ _ _ _ _ (fun σ' H'' q => ?_) (turn i x H' hi p.2.1)
    obtain ⟨rfl, q1, q2⟩ := q
    exact ⟨q1, tYes_ (iteT (lcI_turn p hn (List.getElem?_eq_some_iff.mp hi).1 m mu q2))⟩
  · obtain ⟨a, b, ys, c, d⟩ := p
    exact k D H' ys a b c d
theorem w_lcT {G : Nat → V → Hp → Prop} {H1 : Hp} {a : Addr} {xs : List V} (m : ∀ i y H1 H2, Ex H1 H2 → G i y H1 → G i y H2) (mu : ∀ i y H1 D acc acc', H1 D = some (.lst acc) → G i y H1 → G i y (upd H1 D (.lst acc'))) (hn : xs.length ≤ 100000) (hx : SqT K H1 a xs)
    (hi : ∀ R : It → Hp → Prop, R (Itt K a) H1 → wi σ H R)
    (turn : ∀ i x H', xs[i]? = some x → Ex H1 H' → g x (wipe σ vs) H' fun σ2 H2 => H2 = H' ∧ wipe σ2 vs = wipe σ vs ∧ ∀ QV : VK, (∀ y H3, Ex H' H3 → G i y H3 → QV y H3) → te σ2 H' QV)
    (mg : ∀ x σ H Q Q', (∀ σ' H', Q σ' H' → Q' σ' H') → g x σ H Q → g x σ H Q')
    (k : ∀ p H2 ys, H1 p = none → Ex H1 H2 → H2 p = some (.lst ys) → Told G xs.length ys H2 → Q (.ref p) H2) : tLc wi g tYes te vs σ H Q := by
  refine hi _ fun D hD => lc_tup (xs := xs) (LcI G H1 D) ⟨hD, Evl.Ex.new hD, [], upd_same, rfl, fun i y h => by simp at h⟩ (fun i H' _ p => ex_t p.2.1 hx) (fun i x H' hi p => ?_) (fun H' p => ?_)
  · refine mg _ _ _ _ _ (fun σ' H'' q => ?_) (turn i x H' hi p.2.1)
    obtain ⟨rfl, q1, q2⟩ := q
    exact ⟨q1, tYes_ (iteT (lcI_turn p hn (List.getElem?_eq_some_iff.mp hi).1 m mu q2))⟩
  · obtain ⟨a, b, ys, c, d⟩ := p
    exact k D H' ys a b c d
theorem mg_name {j : Nat} : ∀ x σ H Q Q', (∀ σ' H', Q σ' H' → Q' σ' H') → gName j x σ H Q → gName j x σ H Q' := fun _ _ _ _ _ m h => m _ _ h
theorem mg_two {K : PySem.W.Frag} {i j : Nat} : ∀ x σ H Q Q', (∀ σ' H', Q σ' H' → Q' σ' H') → gTup K 2 (gCons (gName i) (gCons (gName j) gNil)) x σ H Q → gTup K 2 (gCons (gName i) (gCons (gName j) gNil)) x σ H Q' := by
  rintro x σ H Q Q' m ⟨a, xs, e, h1, h2, v, r, e2, w, r2, e3, e4, q⟩
  exact ⟨a, xs, e, h1, h2, v, r, e2, w, r2, e3, e4, m _ _ q⟩
end
/-! ### triples -/
abbrev T3 := Int × Int × Int
def T3.l (t : T3) : List Int := [t.1, t.2.1, t.2.2]
def T3.get (t : T3) (i : Int) : Int := if i = 0 then t.1 else if i = 1 then t.2.1 else t.2.2
def T3.set (t : T3) (i v : Int) : T3 := if i = 0 then (v, t.2.1, t.2.2) else if i = 1 then (t.1, v, t.2.2) else (t.1, t.2.1, v)
theorem at3 (t : T3) {i : Int} (h0 : 0 ≤ i) (h2 : i ≤ 2) : atI (vi t.l) i = some (.int (t.get i)) := by
  obtain rfl | rfl | rfl : i = 0 ∨ i = 1 ∨ i = 2 := by omega
  all_goals rfl
theorem ex_mut {H H1 H2 : Hp} {p : Addr} {o : HO} (e : upd H1 p o = H2) (x : Ex H H1) (np : H p = none) : Ex H H2 := e ▸ Evl.Ex.mut x np
theorem mu_t {K : PySem.W.Frag} {H : Hp} {l a : Addr} {o : HO} {xs ys : List V} (h : SqT K H a xs) (hl : H l = some (.lst ys)) : SqT K (upd H l o) a xs := by
  rcases h with (h | ⟨o, h⟩) | h
  · exact .inl (.inl (by rw [upd_ne (ne_of h hl (by intro z; cases z))]; exact h))
  · exact .inl (.inr ⟨o, by rw [upd_ne (ne_of h hl (by intro z; cases z))]; exact h⟩)
  · exact .inr h
theorem mu_i {H : Hp} {l a C dx : Addr} {o : HO} {fs : List (Str × V)} {ys : List V} (h : H a = some (.ins C dx fs)) (hl : H l = some (.lst ys)) : upd H l o a = some (.ins C dx fs) := by
  rw [upd_ne (ne_of h hl (by intro z; cases z))]
  exact h
theorem set3 (t : T3) {i : Int} (v : Int) (h0 : 0 ≤ i) (h2 : i ≤ 2) : ∃ j, ixN (vi (T3.l t)).length i = some j ∧ (vi (T3.l t)).set j (.int v) = vi (T3.l (t.set i v)) := by
  obtain rfl | rfl | rfl : i = 0 ∨ i = 1 ∨ i = 2 := by omega
  · exact ⟨0, rfl, rfl⟩
  · exact ⟨1, rfl, rfl⟩
  · exact ⟨2, rfl, rfl⟩
theorem w_s3 {H : Hp} {QH : Hp → Prop} {v : Int} {a : Addr} {t : T3} {i : Int} (h : H a = some (.lst (vi (T3.l t)))) (h0 : 0 ≤ i) (h2 : i ≤ 2) (q : QH (upd H a (.lst (vi (T3.l (t.set i v)))))) : rSetL (.ref a) (.int i) (.int v) H QH := by
  obtain ⟨j, e1, e2⟩ := set3 t v h0 h2
  exact w_sL h e1 (by rw [e2]; exact q)
/-! ### comprehensions that keep some items as they are -/
section
variable {K : PySem.W.Frag} {σ : L2.St} {H : Hp} {Q : VK} {te : TE} {tt : TT} {wi : TI} {g : TG} {vs : List Nat}
def LcF (xs : List V) (f : V → Bool) (H : Hp) (D : Addr) (i : Nat) (H' : Hp) : Prop := H D = none ∧ Ex H H' ∧ H' D = some (.lst ((xs.take i).filter f))
theorem lcF_turn {xs : List V} {f : V → Bool} {H H' : Hp} {D : Addr} {i : Nat} {x : V} {σ2 : L2.St} (p : LcF xs f H D i H') (hx : xs[i]? = some x) (hn : xs.length ≤ 100000)
    (ht : ∀ QB : Bool → Hp → Prop, (∀ H3, Ex H' H3 → QB (f x) H3) → tt σ2 H' QB) (he : ∀ H3 (QV : VK), QV x H3 → te σ2 H3 QV) :
    tt σ2 H' fun b H3 => if b = true then te σ2 H3 fun y H4 => ∃ acc, H4 D = some (.lst acc) ∧ acc.length < sizeLine ∧ LcF xs f H D (i + 1) (upd H4 D (.lst (acc ++ [y]))) else LcF xs f H D (i + 1) H3 := by
  obtain ⟨hD, e, hd⟩ := p
  have et : xs.take (i + 1) = xs.take i ++ [x] := by rw [List.take_add_one, hx] <;> rfl
  refine ht _ fun H3 e3 => ?_
  cases hf : f x with
  | true =>
    refine iteT (he H3 _ ⟨_, e3 D _ hd, ?_, hD, Evl.Ex.mut (e.trans e3) hD, ?_⟩)
    · have h1 := List.length_filter_le f (xs.take i)
      have h2 := List.length_take_le i xs
      have h3 := List.length_take_le' i xs
      exact Evl.sz_lt (by have := (List.getElem?_eq_some_iff.mp hx).1; omega)
    · rw [upd_same, et, List.filter_append, List.filter_cons, if_pos hf] <;> rfl
  | false =>
    refine iteF ⟨hD, e.trans e3, ?_⟩
    rw [et, List.filter_append, List.filter_cons, if_neg (by rw [hf]; decide)]
    show H3 D = some (.lst (_ ++ []))
    rw [List.append_nil]
    exact e3 D _ hd
theorem w_lcFT {f : V → Bool} {H1 : Hp} {a : Addr} {xs : List V} {j : Nat} (hn : xs.length ≤ 100000) (hx : SqT K H1 a xs) (hi : ∀ R : It → Hp → Prop, R (Itt K a) H1 → wi σ H R)
    (turn : ∀ (i : Nat) (x : V) (H' : Hp), xs[i]? = some x → Ex H1 H' → wipe ((wipe σ vs).set j (some x)) vs = wipe σ vs ∧ ((wipe σ vs).set j (some x))[j]? = some (some x) ∧ ∀ QB : Bool → Hp → Prop, (∀ H3, Ex H' H3 → QB (f x) H3) → tt ((wipe σ vs).set j (some x)) H' QB)
    (k : ∀ p H2, H1 p = none → Ex H1 H2 → H2 p = some (.lst (xs.filter f)) → Q (.ref p) H2) : tLc wi (gName j) tt (tVar j) vs σ H Q := by
  refine hi _ fun D hD => lc_tup (xs := xs) (LcF xs f H1 D) ⟨hD, Evl.Ex.new hD, upd_same⟩ (fun i H' _ p => ex_t p.2.1 hx) (fun i x H' hi p => ?_) (fun H' p => ?_)
  · obtain ⟨q1, q2, q3⟩ := turn i x H' hi p.2.1
    exact ⟨q1, lcF_turn p hi hn q3 fun H3 QV q => ⟨x, q2, q⟩⟩
  · obtain ⟨a, b, c⟩ := p
    rw [List.take_length] at c
    exact k D H' a b c
theorem w_lcFL {f : V → Bool} {H1 : Hp} {a : Addr} {xs : List V} {j : Nat} (hn : xs.length ≤ 100000) (hx : SqL K H1 a xs) (hi : ∀ R : It → Hp → Prop, R (Itl K a) H1 → wi σ H R)
    (turn : ∀ (i : Nat) (x : V) (H' : Hp), xs[i]? = some x → Ex H1 H' → wipe ((wipe σ vs).set j (some x)) vs = wipe σ vs ∧ ((wipe σ vs).set j (some x))[j]? = some (some x) ∧ ∀ QB : Bool → Hp → Prop, (∀ H3, Ex H' H3 → QB (f x) H3) → tt ((wipe σ vs).set j (some x)) H' QB)
    (k : ∀ p H2, H1 p = none → Ex H1 H2 → H2 p = some (.lst (xs.filter f)) → Q (.ref p) H2) : tLc wi (gName j) tt (tVar j) vs σ H Q := by
  refine hi _ fun D hD => lc_list (xs := xs) (LcF xs f H1 D) ⟨hD, Evl.Ex.new hD, upd_same⟩ (fun i H' _ p => ex_l p.2.1 hx) (fun i x H' hi p => ?_) (fun H' p => ?_)
  · obtain ⟨q1, q2, q3⟩ := turn i x H' hi p.2.1
    exact ⟨q1, lcF_turn p hi hn q3 fun H3 QV q => ⟨x, q2, q⟩⟩
  · obtain ⟨a, b, c⟩ := p
    rw [List.take_length] at c
    exact k D H' a b c
def rngV (n : Nat) : List V := (List.range n).map fun (i : Nat) => V.int ((0 : Int) + (i : Int))
theorem rngV_at {n i : Nat} (h : i < n) : (rngV n)[i]? = some (.int ((0 : Int) + (i : Int))) := by
  unfold rngV
  rw [List.getElem?_map, List.getElem?_range h]
  rfl
theorem w_lcFR {f : V → Bool} {H1 : Hp} {n : Nat} {j : Nat} (hn : n ≤ 100000) (hi : ∀ R : It → Hp → Prop, R (Itr 0 n) H1 → wi σ H R)
    (turn : ∀ (i : Nat) H', i < n → Ex H1 H' → wipe ((wipe σ vs).set j (some (.int ((0 : Int) + (i : Int))))) vs = wipe σ vs ∧ ((wipe σ vs).set j (some (.int ((0 : Int) + (i : Int)))))[j]? = some (some (.int ((0 : Int) + (i : Int)))) ∧ ∀ QB : Bool → Hp → Prop, (∀ H3, Ex H' H3 → QB (f (.int ((0 : Int) + (i : Int)))) H3) → tt ((wipe σ vs).set j (some (.int ((0 : Int) + (i : Int))))) H' QB)
    (k : ∀ p H2, H1 p = none → Ex H1 H2 → H2 p = some (.lst ((rngV n).filter f)) → Q (.ref p) H2) : tLc wi (gName j) tt (tVar j) vs σ H Q := by
  have hl : (rngV n).length = n := by unfold rngV; rw [List.length_map, List.length_range]
  refine hi _ fun D hD => lc_range (lo := 0) (n := n) (LcF (rngV n) f H1 D) ⟨hD, Evl.Ex.new hD, upd_same⟩ (fun i H' hi p => ?_) (fun H' p => ?_)
  · obtain ⟨q1, q2, q3⟩ := turn i H' hi p.2.1
    exact ⟨q1, lcF_turn p (rngV_at hi) (by omega) q3 fun H3 QV q => ⟨_, q2, q⟩⟩
  · obtain ⟨a, b, c⟩ := p
    rw [List.take_of_length_le (by omega)] at c
    exact k D H' a b c
end
end TP

/-! R -/
set_option Elab.async false
set_option linter.all false
set_option maxRecDepth 100000
set_option maxHeartbeats 4000000
namespace TP
open PySem PySem.Spec PyProof.Rows L2
open PySem.W (Datum DatumOrd Holds HoldAll minOf maxOf Tup)
section
variable {X : Cx}
/-! ### xs.extend(t), t a tuple -/
def rExtT (K : PySem.W.Frag) : V → List V → Hp → VK → Prop := fun x vs H Q => ∃ l b xs zs, x = .ref l ∧ vs = [.ref b] ∧ H l = some (.lst xs) ∧ SqT K H b zs ∧ xs.length + zs.length ≤ sizeLine ∧ Q .non (upd H l (.lst (xs ++ zs)))
theorem ext_meets (l b : Addr) (items items2 : Array Value) (n : Nat) (hs0 : ¬(!items.isEmpty && Builtin.List.listTooLong (items.size + items2.size)) = true) (hs1 : items.size ≤ sizeLine) (hs2 : items.size + items2.size ≤ sizeLine + 1) :
    Meets (Builtin.«list.extend» ⟨[.ref l, .ref b], []⟩) (fun _ R s => s.heap.get? l = some { cls := .type "list", data := .seq items n } ∧ IsTup s.heap b items2 ∧ R (.ok (.ret Value.none)) { s with heap := s.heap.update l (Obj.mapSeq fun x => x ++ items2) }) :=
  .of_wp fun prog w A R s h => by
    obtain ⟨hl, ⟨o, hb, hc, n2, hd⟩, h⟩ := h
    have h1 : (Builtin.List.listSameRef (.ref l) (.ref b) || Value.type "tuple" == Value.type "list" || Value.type "tuple" == Value.type "tuple") = true := by simp
    show wpAny _ A.in1 (Builtin.List.listExtendWith (.ref l) (.ref b) .none) _ _ s
    unfold Builtin.List.listExtendWith
    refine wpAny_bind (wpAny_typeOf ⟨o, hb, hc⟩ ?_)
    rw [if_pos h1]
    refine wpAny_bind ?_
    unfold Builtin.List.listItems
    refine wpAny_bind (wpAny_seqItems hb hd (wpAny_pure ?_))
    refine wpAny_bind ?_
    refine wpAny_bind (wpAny_seqItems hl rfl (wpAny_pure ?_))
    rw [if_neg hs0]
    show wpAny _ A.in1 (updateSeq l (· ++ items2) >>= fun _ => ret Value.none) _ _ s
    refine wpAny_bind (wpAny_updateSeq hl rfl ?_ hs1 (by rw [Array.size_append]; exact hs2))
    exact wpAny_pure ⟨_, rfl, h⟩
theorem mt_extT : MtM X "list.extend" (rExtT X.K) := by
  intro pins s σ H x vs v us Q I rx rv h
  obtain ⟨l, b, xs, zs, rfl, rfl, hH, hB, hz, q⟩ := h
  cases rx
  obtain ⟨u, rfl, ru⟩ := rv.one
  cases ru
  obtain ⟨z, its, n, r, hl, e⟩ := I.lstM hH
  obtain ⟨its2, r2, e2, z2⟩ := I.tuple hB
  have hl2 := r2.length
  have hsz : its.toArray.size + its2.toArray.size ≤ sizeLine := by rw [List.size_toArray, List.size_toArray]; omega
  refine call_meets PySem.F.slot_list_extend ⟨_, e, rfl⟩ PySem.F.entry_list_extend (PySem.F.args_list_extend_2 _ _)
    (ext_meets l b its.toArray its2.toArray n (by rw [notLongL hsz, Bool.and_false]; exact Bool.false_ne_true) (by rw [List.size_toArray]; omega) (by omega)) ⟨e, e2, ?_⟩
  refine ⟨.non, _, I.lset (its' := its ++ its2) hH e (by simp) (r.append r2) ?_, rfl, q⟩
  rw [List.length_append]
  omega
theorem w_extT {K : PySem.W.Frag} {H : Hp} {a b : Addr} {xs zs : List V} {Q : VK} (h : H a = some (.lst xs)) (h2 : SqT K H b zs) (z : xs.length + zs.length ≤ 100000) (q : Q .non (upd H a (.lst (xs ++ zs)))) : rExtT K (.ref a) [.ref b] H Q := ⟨a, b, xs, zs, rfl, rfl, h, h2, Evl.sz_of z, q⟩
/-! ### min, max of a tuple of ints -/
theorem holds_ints {vs : List Value} {ns : List Int} {h : Heap} (r : Vals (vi ns) vs) : HoldAll h vs ns := HoldAll.of_ints (Vals.ints r)
theorem cr_minT (hc : X.calm = true) (hu : X.A.units + 64 < cLine) : CallR X (.builtin "min") (fun vs H Q => ∃ a n ns, vs = [.ref a] ∧ SqT X.K H a (vi (n :: ns)) ∧ Q (.int (minOf n ns)) H) := by
  intro pins s σ H vs us Q I r h
  obtain ⟨a, n, ns, rfl, ha, q⟩ := h
  obtain ⟨its, rv, e, z⟩ := I.tuple ha
  rw [Vals.ref1 r]
  refine PySem.W.min_tuple_datum (I.ok.hd hc) e (by simpa using holds_ints rv) (by show X.A.units + 1 + 0 < cLine; omega) fun i v h' tk hv hh k => ?_
  obtain ⟨t, rfl⟩ := PySem.W.int_of_holds hh
  exact ⟨.int _, H, I.kept k, ⟨_, rfl⟩, q⟩
theorem cr_maxT (hc : X.calm = true) (hu : X.A.units + 64 < cLine) : CallR X (.builtin "max") (fun vs H Q => ∃ a n ns, vs = [.ref a] ∧ SqT X.K H a (vi (n :: ns)) ∧ Q (.int (maxOf n ns)) H) := by
  intro pins s σ H vs us Q I r h
  obtain ⟨a, n, ns, rfl, ha, q⟩ := h
  obtain ⟨its, rv, e, z⟩ := I.tuple ha
  rw [Vals.ref1 r]
  refine PySem.W.max_tuple_datum (I.ok.hd hc) e (by simpa using holds_ints rv) (by show X.A.units + 1 + 0 < cLine; omega) fun i v h' tk hv hh k => ?_
  obtain ⟨t, rfl⟩ := PySem.W.int_of_holds hh
  exact ⟨.int _, H, I.kept k, ⟨_, rfl⟩, q⟩
theorem minOf2 (a b : Int) : minOf a [b] = min a b := by
  show (if decide (b < a) = true then b else a) = min a b
  by_cases h : b < a
  · rw [decide_eq_true h, if_pos rfl]; omega
  · rw [decide_eq_false h, if_neg Bool.false_ne_true]; omega
theorem maxOf2 (a b : Int) : maxOf a [b] = max a b := by
  show (if decide (a < b) = true then b else a) = max a b
  by_cases h : a < b
  · rw [decide_eq_true h, if_pos rfl]; omega
  · rw [decide_eq_false h, if_neg Bool.false_ne_true]; omega
/-! ### min, max of a list of ints, as a fold -/
theorem cr_minL (hc : X.calm = true) (hu : X.A.units + 64 < cLine) : CallR X (.builtin "min") (fun vs H Q => ∃ a n ns, vs = [.ref a] ∧ SqL X.K H a (vi (n :: ns)) ∧ Q (.int (minOf n ns)) H) := by
  intro pins s σ H vs us Q I r h
  obtain ⟨a, n, ns, rfl, ha, q⟩ := h
  obtain ⟨its, rv, e, z⟩ := I.list ha
  rw [Vals.ref1 r]
  refine PySem.W.min_list_datum (I.ok.hd hc) e.isList (by simpa using holds_ints rv) (by show X.A.units + 1 + 0 < cLine; omega) fun i v h' tk hv hh k => ?_
  obtain ⟨t, rfl⟩ := PySem.W.int_of_holds hh
  exact ⟨.int _, H, I.kept k, ⟨_, rfl⟩, q⟩
theorem cr_maxL (hc : X.calm = true) (hu : X.A.units + 64 < cLine) : CallR X (.builtin "max") (fun vs H Q => ∃ a n ns, vs = [.ref a] ∧ SqL X.K H a (vi (n :: ns)) ∧ Q (.int (maxOf n ns)) H) := by
  intro pins s σ H vs us Q I r h
  obtain ⟨a, n, ns, rfl, ha, q⟩ := h
  obtain ⟨its, rv, e, z⟩ := I.list ha
  rw [Vals.ref1 r]
  refine PySem.W.max_list_datum (I.ok.hd hc) e.isList (by simpa using holds_ints rv) (by show X.A.units + 1 + 0 < cLine; omega) fun i v h' tk hv hh k => ?_
  obtain ⟨t, rfl⟩ := PySem.W.int_of_holds hh
  exact ⟨.int _, H, I.kept k, ⟨_, rfl⟩, q⟩
end
end TP

/-! W1 -/
set_option Elab.async false
set_option linter.all false
set_option maxRecDepth 100000
set_option maxHeartbeats 4000000
-- k_mem: a fact of the heap as it is now, from an older one; k_upd: one step of a reading; k_all: as many as go
local macro_rules | `(tactic| k_mem) => `(tactic| first | assumption | exact TP.st_at (by assumption) | exact TP.sl_at (by assumption) | (refine TP.ex_t (by assumption) ?_; k_mem) | (refine TP.ex_l (by assumption) ?_; k_mem) | (refine TP.ex_o (by assumption) ?_; k_mem))
local macro_rules | `(tactic| k_subL) => `(tactic| (generalize hG : L2.upd _ _ _ = HN; (have eN := TP.ex_of hG (by assumption)); (have aN := TP.at_of hG); clear hG))
set_option hygiene false in
local macro_rules | `(tactic| k_upd) => `(tactic| first
  | with_reducible refine TP.w_seq ?_
  | with_reducible refine TP.w_asg ?_
  | with_reducible refine TP.w_ret ?_
  | with_reducible refine TP.w_drop ?_
  | with_reducible refine TP.w_gn ?_
  | ((with_reducible refine' TP.w_var ?h ?_); (case h => k_dflt rfl))
  | with_reducible refine TP.w_c ?_
  | with_reducible refine TP.w_op ?_
  | with_reducible refine TP.w_un ?_
  | with_reducible refine TP.w_U ?_
  | with_reducible refine TP.w_I0 ?_
  | ((with_reducible refine TP.w_I ?h ?_); (case h => first | (k_dflt (exact TP.cmul_r (by omega))) | (k_dflt (exact TP.cmul_l (by omega))) | (k_dflt (exact TP.cdiv (by omega))) | (k_dflt (show (0 : Int) < _; omega)) | trivial | (k_dflt omega) | (k_dflt decide) | (k_dflt assumption)))
  | ((with_reducible refine TP.w_eq ?h ?_); (case h => k_dflt rfl))
  | ((with_reducible refine TP.w_ne ?h ?_); (case h => k_dflt rfl))
  | with_reducible refine TP.w_test ?_
  | with_reducible refine TP.w_tB ?_
  | with_reducible refine TP.w_bl ?_
  | with_reducible refine TP.w_ifS ?_
  | with_reducible refine TP.w_if ?_
  | with_reducible refine TP.w_not ?_
  | with_reducible refine TP.w_and ?_
  | with_reducible refine TP.w_or ?_
  | with_reducible refine TP.w_andV ?_
  | with_reducible refine TP.w_orV ?_
  | with_reducible refine TP.w_next ?_
  | with_reducible refine TP.w_cons ?_
  | with_reducible refine TP.w_nil ?_
  | with_reducible refine TP.w_for ?_
  | with_reducible refine TP.w_iL ?_
  | with_reducible refine TP.w_iT ?_
  | with_reducible refine TP.w_r1 ?_
  | with_reducible refine TP.w_r2 ?_
  | ((with_reducible refine TP.w_itR ?h ?_); (case h => k_dflt omega))
  | ((with_reducible refine TP.w_itR2 ?h ?_); (case h => k_dflt omega))
  | with_reducible refine TP.w_bm ?_
  | ((with_reducible refine' TP.w_ty ?h ?_); (case h => k_mem))
  | with_reducible refine TP.w_cb ?_
  | with_reducible refine TP.w_call ?_
  | with_reducible refine TP.w_tup ?_
  | with_reducible refine TP.w_lst ?_
  | ((with_reducible refine TP.w_new ?h ?_); (case h => (k_dflt (exact Nat.le_of_ble_eq_true rfl))); (intro _ _); k_subL)
  | ((with_reducible refine' TP.w_ixT ?h ?e ?_); (case h => k_mem); (case e => k_dflt rfl))
  | ((with_reducible refine' TP.w_ixL ?h ?e ?_); (case h => k_mem); (case e => k_dflt rfl))
  | ((with_reducible refine' TP.w_ixA ?h ?e ?_); (case h => first | assumption | exact .inl (by k_mem) | exact .inr (by k_mem)); (case e => k_dflt rfl))
  | ((with_reducible refine' TP.w_gT ?h ?e ?_); (case h => k_mem); (case e => k_dflt rfl))
  | with_reducible refine TP.w_gS ?_
  | with_reducible refine TP.w_gc ?_
  | with_reducible refine TP.w_gnil ?_
  | with_reducible refine TP.w_gci ?_
  | with_reducible refine TP.w_gni ?_
  | with_reducible refine TP.w_fld ?_
  | ((with_reducible refine TP.w_tt ?_); (try dsimp only))
  | (with_reducible refine TP.w_par ?_)
  | (with_reducible refine TP.w_swap ?_)
  | with_reducible refine TP.if_nnI ?_
  | with_reducible refine TP.if_nnR ?_
  | with_reducible refine TP.if_nn0 ?_
  | with_reducible refine TP.if_nT ?_
  | with_reducible refine TP.if_nF ?_
  | with_reducible refine L2.iteT ?_
  | with_reducible refine L2.iteF ?_)
local macro_rules | `(tactic| k_all) => `(tactic| repeat k_upd)
namespace TP
open PySem PySem.Spec PyProof.Rows L2
variable {P : Program} {w : World} {K : PySem.W.Frag} {mg : Str → Option Value} {base : Heap}
/-! ### is_whole -/
def spWhole : Sp := fun vs H Q _ => ∃ n lo hi : Int, vs = [.int n, .int lo, .int hi] ∧ Q (.bl (decide (lo ≤ n) && decide (n ≤ hi))) H
theorem isi_int_bool {K : PySem.W.Frag} {H : Hp} {n : Int} {Q : VK} (q : Q (.bl false) H) : rIsi K [.int n, .ty "bool"] H Q := ⟨_, _, _, _, false, rfl, .ty _, .base (.int n), kit_ty (by decide +kernel), q⟩
theorem isi_int_int {K : PySem.W.Frag} {H : Hp} {n : Int} {Q : VK} (q : Q (.bl true) H) : rIsi K [.int n, .ty "int"] H Q := ⟨_, _, _, _, true, rfl, .ty _, .base (.int n), kit_ty (by decide +kernel), q⟩
theorem fn_whole (E : Env K mg) : ∃ fd, FnOk P w K mg base CX0 1 (He.ga K "is_whole") fd ["thing", "low", "high"] spWhole ∧ FunD K "is_whole" "is_whole" (defArgs s_is_whole) (defBody s_is_whole) (defScope s_is_whole) [.non, .non] [] (He.ga K "is_whole") fd := by
  obtain ⟨fd, F⟩ := E.d_is_whole
  refine ⟨fd, F.ok sc_is_whole (fun vs H Q E h => ?_) (fun cdv A outer s H vs Q E' hr h => ?_), F⟩
  · obtain ⟨n, lo, hi, rfl, _⟩ := h
    rfl
  · obtain ⟨n, lo, hi, rfl, q⟩ := h
    refine ⟨_, PSs.nox (pss_cons (ps_if (PW.pt (pw_or (pt_val (pe_callB call_isi (by rfl) E.b_isinstance (by decide +kernel) (pa_cons (pv 0) (pa_cons (pe_bltn (v := .ty "bool") (by rfl) E.b_bool (by decide +kernel) rfl) pa_nil)))) (pw_or1 (pt_not (pt_val (pe_callB call_isi (by rfl) E.b_isinstance (by decide +kernel) (pa_cons (pv 0) (pa_cons (pe_bltn (v := .ty "int") (by rfl) E.b_int (by decide +kernel) rfl) pa_nil)))))))) (pss_one (ps_ret pe_bl)) pss_nil)
      (pss_one (ps_ret (pe_and (pe_or (pe_cmpR op_isN (pv 1) pe_non (nomark _)) (pe_one (pe_cmpR op_ge (pv 0) (pv 1) (nomark _)))) (pe_one (pe_or (pe_cmpR op_isN (pv 2) pe_non (nomark _)) (pe_one (pe_cmpR op_le (pv 0) (pv 2) (nomark _))))))))), ?_⟩
    k_all
    refine isi_int_bool ?_
    k_all
    refine isi_int_int ?_
    k_all
    refine if_dec (fun h1 => ?_) (fun h1 => ?_)
    · k_all
      rw [decide_eq_true (show lo ≤ n from h1), Bool.true_and] at q
      exact q
    · rw [decide_eq_false (show ¬ lo ≤ n from h1), Bool.false_and] at q
      exact q
/-- is_whole(n, lo, hi) -/
theorem C_whole3 (E : Env K mg) : FnC P w K mg base "is_whole" 1 ["thing", "low", "high"] [] spWhole := by
  obtain ⟨fd, F, D⟩ := fn_whole (P := P) (w := w) (base := base) E
  obtain ⟨ds, r, b⟩ := D.binds1 (ps := ["thing", "low", "high"]) 3 2 (by decide) rfl fun T kV doc pm an cdv ct us its h1 h2 => by
    obtain ⟨a, b, c, rfl⟩ : ∃ a b c, us = [a, b, c] := by
      match us, h1 with
      | [a, b, c], _ => exact ⟨a, b, c, rfl⟩
    obtain ⟨d, e, rfl⟩ : ∃ d e, its = [d, e] := by
      match its, h2 with
      | [d, e], _ => exact ⟨d, e, rfl⟩
    exact ⟨_, rfl, rfl⟩
  exact ⟨_, fd, ds, F, E.g_is_whole, D.kp, b, r⟩
/-! ### in_lowest -/
/-- in lowest terms -/
def low (t b : Int) : Int × Int :=
  let c : Int := if b < 0 then -((Nat.gcd t.natAbs b.natAbs : Nat) : Int) else ((Nat.gcd t.natAbs b.natAbs : Nat) : Int)
  (t.fdiv c, b.fdiv c)
/-- a ratio as a value -/
def Rat2 (K : PySem.W.Frag) (H : Hp) (v : V) (r : Int × Int) : Prop := ∃ a, v = .ref a ∧ SqT K H a (vi [r.1, r.2])
def spLow (K : PySem.W.Frag) : Sp := fun vs H Q _ => ∃ t b : Int, vs = [.int t, .int b] ∧ b ≠ 0 ∧ b.natAbs < 1073741824 ∧ ∀ v H', Ex H H' → Rat2 K H' v (low t b) → Q v H'
theorem gcd_b {t b : Int} (hb : b ≠ 0) : 0 < Nat.gcd t.natAbs b.natAbs := Nat.gcd_pos_of_pos_right _ (by omega)
theorem gcd_le {t b : Int} (hb : b ≠ 0) : Nat.gcd t.natAbs b.natAbs ≤ b.natAbs := Nat.gcd_le_right _ (by omega)
theorem C_in_lowest (E : Env K mg) : FnC P w K mg base "in_lowest" 1 ["top", "bottom"] [] (spLow K) := by
  refine .of E.d_in_lowest E.g_in_lowest sc_in_lowest (fun vs H Q E h => ?_) (fun _ _ _ _ _ _ us hl => match us, hl with | [_, _], _ => rfl) (fun cdv A outer s H vs Q E' hr h => ?_)
  · obtain ⟨t, b, rfl, _⟩ := h
    rfl
  · obtain ⟨t, b, rfl, hb, hz, q⟩ := h
    refine ⟨_, (pss_cons (ps_set (i := 2) sc_in_lowest.nd rfl (by first | exact Or.inl rfl | exact Or.inr rfl) (pe_callBfun cr_gcd (by rfl) E.gcd (pa_cons (pv 0) (pa_cons (pv 1) pa_nil))))
      (pss_cons (ps_if (pt_cmpR op_lt (pv 1) pe_int (nomark _)) (pss_one (ps_set (i := 2) sc_in_lowest.nd rfl (by first | exact Or.inl rfl | exact Or.inr rfl) (pe_un un_neg (pv 2)))) pss_nil)
      (pss_one (ps_ret (pe_tup (pa_cons (pe_op op_fdivN (pv 0) (pv 2)) (pa_cons (pe_op op_fdivN (pv 1) (pv 2)) pa_nil))))))), ?_⟩
    have g1 := gcd_b (t := t) hb
    have g2 := gcd_le (t := t) hb
    k_all
    refine ⟨t, b, rfl, ?_⟩
    k_all
    refine if_dec (fun h1 => ?_) (fun h1 => ?_)
    · k_all
      refine w_I ⟨by omega, by omega⟩ ?_
      k_all
      refine w_I ⟨by omega, by omega⟩ ?_
      k_all
      refine q _ _ (by assumption) ⟨_, rfl, ?_⟩
      unfold low
      rw [if_pos h1]
      exact st_at (by assumption)
    · k_all
      refine w_I ⟨by omega, by omega⟩ ?_
      k_all
      refine w_I ⟨by omega, by omega⟩ ?_
      k_all
      refine q _ _ (by assumption) ⟨_, rfl, ?_⟩
      unfold low
      rw [if_neg h1]
      exact st_at (by assumption)
/-! ### plus, sum_of -/
theorem Rat2.mono {K : PySem.W.Frag} {H H' : Hp} {v : V} {r : Int × Int} (h : Rat2 K H v r) (e : Ex H H') : Rat2 K H' v r := by
  obtain ⟨a, e1, h1⟩ := h
  exact ⟨a, e1, ex_t e h1⟩
def plusM (a b : Int × Int) : Int × Int := low (a.1 * b.2 + b.1 * a.2) (a.2 * b.2)
def spPlus (K : PySem.W.Frag) : Sp := fun vs H Q _ => ∃ v w a b, vs = [v, w] ∧ Rat2 K H v a ∧ Rat2 K H w b ∧ 0 < a.2 ∧ a.2 ≤ 10000 ∧ 0 < b.2 ∧ b.2 ≤ 10000 ∧ ∀ v H', Ex H H' → Rat2 K H' v (plusM a b) → Q v H'
theorem C_plus (E : Env K mg) : FnC P w K mg base "plus" 2 ["one", "other"] [] (spPlus K) := by
  have C_in_lowest := C_in_lowest (P := P) (w := w) (base := base) E
  refine .of E.d_plus E.g_plus sc_plus (fun vs H Q E h => ?_) (fun _ _ _ _ _ _ us hl => match us, hl with | [_, _], _ => rfl) (fun cdv A outer s H vs Q E' hr h => ?_)
  · obtain ⟨v, w, a, b, rfl, _⟩ := h
    rfl
  · obtain ⟨v, w, a, b, rfl, ⟨p, rfl, hp⟩, ⟨p2, rfl, hp2⟩, h1, h2, h3, h4, q⟩ := h
    refine ⟨_, (pss_one (ps_ret (pe_c C_in_lowest (hr.mono (by decide)) rfl (pa_cons (pe_op op_add (pe_op op_mul (pe_ix ix_tup (pv 0) pe_int (fun _ _ => rfl)) (pe_ix ix_tup (pv 1) pe_int (fun _ _ => rfl))) (pe_op op_mul (pe_ix ix_tup (pv 1) pe_int (fun _ _ => rfl)) (pe_ix ix_tup (pv 0) pe_int (fun _ _ => rfl)))) (pa_cons (pe_op op_mul (pe_ix ix_tup (pv 0) pe_int (fun _ _ => rfl)) (pe_ix ix_tup (pv 1) pe_int (fun _ _ => rfl))) pa_nil))))), ?_⟩
    k_all
    have hb : 0 < a.2 * b.2 := Int.mul_pos h1 h3
    have hb2 : a.2 * b.2 ≤ 10000 * 10000 := Int.mul_le_mul h2 h4 (by omega) (by omega)
    refine ⟨_, _, rfl, by omega, by omega, fun v H' e h => ?_⟩
    k_all
    exact q _ _ e h
/-- a list of ratios -/
def Rats (K : PySem.W.Frag) (H : Hp) (vs : List V) (rs : List (Int × Int)) : Prop := vs.length = rs.length ∧ ∀ (i : Nat) (v : V) (r : Int × Int), vs[i]? = some v → rs[i]? = some r → Rat2 K H v r
def sumM (rs : List (Int × Int)) : Int × Int := rs.foldl plusM (0, 1)
def spSum (K : PySem.W.Frag) : Sp := fun vs H Q _ => ∃ a xs rs, vs = [.ref a] ∧ SqL K H a xs ∧ Rats K H xs rs ∧ (∀ r ∈ rs, 0 < r.2 ∧ r.2 ≤ 10000) ∧ (∀ i, 0 < (sumM (rs.take i)).2 ∧ (sumM (rs.take i)).2 ≤ 10000) ∧ ∀ v H', Ex H H' → Rat2 K H' v (sumM rs) → Q v H'
theorem sumM_snoc (rs : List (Int × Int)) (r : Int × Int) : sumM (rs ++ [r]) = plusM (sumM rs) r := by
  unfold sumM
  rw [List.foldl_append]
  rfl
theorem C_sum_of (E : Env K mg) : FnC P w K mg base "sum_of" 3 ["ratios"] [] (spSum K) := by
  have C_plus := C_plus (P := P) (w := w) (base := base) E
  refine .of E.d_sum_of E.g_sum_of sc_sum_of (fun vs H Q E h => ?_) (fun _ _ _ _ _ _ us hl => match us, hl with | [_], _ => rfl) (fun cdv A outer s H vs Q E' hr h => ?_)
  · obtain ⟨a, xs, rs, rfl, _⟩ := h
    rfl
  · obtain ⟨a, xs, rs, rfl, hx, hR, hd, ht, q⟩ := h
    refine ⟨_, (pss_cons (ps_set (i := 1) sc_sum_of.nd rfl (by first | exact Or.inl rfl | exact Or.inr rfl) (pe_glob (v := .ref (He.ga K "ZERO")) rfl E.g_ZERO rfl))
      (pss_cons (ps_for PassesOwn.never rfl (pi_list (pv 0)) (pg_name (i := 2) sc_sum_of.nd rfl (by first | exact Or.inl rfl | exact Or.inr rfl)) (pss_one (ps_set (i := 1) sc_sum_of.nd rfl (by first | exact Or.inl rfl | exact Or.inr rfl) (pe_c C_plus (hr.mono (by decide)) rfl (pa_cons (pv 1) (pa_cons (pv 2) pa_nil))))))
      (pss_one (ps_ret (pv 1))))), ?_⟩
    k_all
    refine w_itL hx (for_list (xs := xs) (fun i σ H' => ∃ t z, σ = [some (.ref a), some t, z] ∧ Ex H H' ∧ Rat2 K H' t (sumM (rs.take i))) ⟨_, _, rfl, Evl.Ex.refl H, ⟨_, rfl, E.t_ZERO H⟩⟩ (fun i σ H' _ h => ?_) (fun i x σ H' hi h => ?_) (fun σ H' h => ?_))
    · obtain ⟨t, z, _, e, _⟩ := h
      exact ex_l e hx
    · obtain ⟨t, z, rfl, e, hr⟩ := h
      have hl := (List.getElem?_eq_some_iff.mp hi).1
      have hr1 : rs[i]? = some (rs[i]'(by have := hR.1; omega)) := List.getElem?_eq_getElem _
      generalize rs[i]'(by have := hR.1; omega) = r at hr1
      have h2 := (hR.2 i x r hi hr1).mono e
      have h3 := hd r (List.mem_of_getElem? hr1)
      have h4 := ht i
      k_all
      refine ⟨_, _, _, _, rfl, hr, h2, h4.1, h4.2, h3.1, h3.2, fun v H2 e2 h5 => ?_⟩
      k_all
      refine ⟨_, _, rfl, e.trans e2, ?_⟩
      rw [List.take_add_one, hr1]
      show Rat2 K H2 v (sumM (rs.take i ++ [r]))
      rw [sumM_snoc]
      exact h5
    · obtain ⟨t, z, rfl, e, hr⟩ := h
      k_all
      rw [hR.1, List.take_length] at hr
      exact q _ _ e hr
/-! ### faces -/
def FaceOk (f : Int) : Prop := 0 ≤ f ∧ f ≤ 5
theorem FaceOk.cases {f : Int} (h : FaceOk f) : f = 0 ∨ f = 1 ∨ f = 2 ∨ f = 3 ∨ f = 4 ∨ f = 5 := by
  obtain ⟨h1, h2⟩ := h
  omega
def spFace : Sp := fun vs H Q _ => ∃ f, vs = [.int f] ∧ FaceOk f ∧ Q (.int f) H
theorem C_check_face (E : Env K mg) : FnC P w K mg base "check_face" 2 ["face"] [] spFace := by
  have C_is_whole := C_whole3 (P := P) (w := w) (base := base) E
  refine .of E.d_check_face E.g_check_face sc_check_face (fun vs H Q E h => ?_) (fun _ _ _ _ _ _ us hl => match us, hl with | [_], _ => rfl) (fun cdv A outer s H vs Q E' hr h => ?_)
  · obtain ⟨f, rfl, _⟩ := h
    rfl
  · obtain ⟨f, rfl, hf, q⟩ := h
    refine ⟨_, (pss_cons (ps_if (pt_not (pt_val (pe_c C_is_whole (hr.mono (by decide)) rfl (pa_cons (pv 0) (pa_cons pe_int (pa_cons pe_int pa_nil)))))) (pss_one ps_never) pss_nil)
      (pss_one (ps_ret (pv 0)))), ?_⟩
    k_all
    refine ⟨_, _, _, rfl, ?_⟩
    rw [decide_eq_true hf.1, decide_eq_true hf.2]
    refine w_bl (b := true) ?_
    k_all
    exact q
def axes (f : Int) : Int × Int := if f = 0 then (2, 1) else if f = 1 then (1, 2) else if f = 2 then (0, 2) else if f = 3 then (2, 0) else if f = 4 then (1, 0) else (0, 1)
def spAxes (K : PySem.W.Frag) : Sp := fun vs H Q _ => ∃ f, vs = [.int f] ∧ FaceOk f ∧ ∀ a, (∀ H', SqT K H' a (vi [(axes f).1, (axes f).2])) → Q (.ref a) H
theorem C_face_axes (E : Env K mg) : FnC P w K mg base "face_axes" 3 ["face"] [] (spAxes K) := by
  have C_check_face := C_check_face (P := P) (w := w) (base := base) E
  refine .of E.d_face_axes E.g_face_axes sc_face_axes (fun vs H Q E h => ?_) (fun _ _ _ _ _ _ us hl => match us, hl with | [_], _ => rfl) (fun cdv A outer s H vs Q E' hr h => ?_)
  · obtain ⟨f, rfl, _⟩ := h
    rfl
  · obtain ⟨f, rfl, hf, q⟩ := h
    refine ⟨_, (pss_one (ps_ret (pe_ix ix_tup (pe_glob (v := .ref (He.ga K "FRAMES")) rfl E.g_FRAMES rfl) (pe_c C_check_face (hr.mono (by decide)) rfl (pa_cons (pv 0) pa_nil)) (fun _ _ => rfl)))), ?_⟩
    k_all
    refine ⟨_, rfl, hf, ?_⟩
    have hF := (E.t_FRAMES H).1
    have hG := fun i hi H => (E.t_FRAMES H).2 i hi
    obtain rfl | rfl | rfl | rfl | rfl | rfl := hf.cases
    · exact w_ixT hF rfl (q _ (hG 0 (by decide)))
    · exact w_ixT hF rfl (q _ (hG 1 (by decide)))
    · exact w_ixT hF rfl (q _ (hG 2 (by decide)))
    · exact w_ixT hF rfl (q _ (hG 3 (by decide)))
    · exact w_ixT hF rfl (q _ (hG 4 (by decide)))
    · exact w_ixT hF rfl (q _ (hG 5 (by decide)))
end TP

/-! W2 -/
set_option Elab.async false
set_option linter.all false
set_option maxRecDepth 100000
set_option maxHeartbeats 4000000
-- k_mem: a fact of the heap as it is now, from an older one; k_upd: one step of a reading; k_all: as many as go

namespace TP
open PySem PySem.Spec PyProof.Rows L2
variable {P : Program} {w : World} {K : PySem.W.Frag} {mg : Str → Option Value} {base : Heap}
theorem ax_ok {f : Int} (h : FaceOk f) : 0 ≤ (axes f).1 ∧ (axes f).1 ≤ 2 ∧ 0 ≤ (axes f).2 ∧ (axes f).2 ≤ 2 := by
  obtain rfl | rfl | rfl | rfl | rfl | rfl := h.cases <;> decide
theorem half_ok {f : Int} (h : FaceOk f) : 0 ≤ f / 2 ∧ f / 2 ≤ 2 := by
  obtain ⟨h1, h2⟩ := h
  omega
/-! ### framed -/
def spFramed (K : PySem.W.Frag) : Sp := fun vs H Q _ => ∃ f a d, vs = [.int f, .ref a] ∧ FaceOk f ∧ SqT K H a (vi (T3.l d)) ∧ ∀ p H', Ex H H' → H' p = some (.tup (vi [d.get (axes f).1, d.get (axes f).2])) → Q (.ref p) H'
theorem C_framed (E : Env K mg) : FnC P w K mg base "framed" 4 ["face", "triple"] [] (spFramed K) := by
  have C_face_axes := C_face_axes (P := P) (w := w) (base := base) E
  refine .of E.d_framed E.g_framed sc_framed (fun vs H Q E h => ?_) (fun _ _ _ _ _ _ us hl => match us, hl with | [_, _], _ => rfl) (fun cdv A outer s H vs Q E' hr h => ?_)
  · obtain ⟨f, a, d, rfl, _⟩ := h
    rfl
  · obtain ⟨f, a, d, rfl, hf, hd, q⟩ := h
    refine ⟨_, (pss_cons (ps_set (i := 2) sc_framed.nd rfl (by first | exact Or.inl rfl | exact Or.inr rfl) (pe_c C_face_axes (hr.mono (by decide)) rfl (pa_cons (pv 0) pa_nil)))
      (pss_one (ps_ret (pe_tup (pa_cons (pe_ix ix_tup (pv 1) (pe_ix ix_tup (pv 2) pe_int (fun _ _ => rfl)) (fun _ _ => rfl)) (pa_cons (pe_ix ix_tup (pv 1) (pe_ix ix_tup (pv 2) pe_int (fun _ _ => rfl)) (fun _ _ => rfl)) pa_nil)))))), ?_⟩
    obtain ⟨h1, h2, h3, h4⟩ := ax_ok hf
    k_all
    refine ⟨f, rfl, hf, fun x hx => ?_⟩
    have hx0 := hx H
    k_all
    refine w_ixT hd (at3 d h1 h2) ?_
    k_all
    refine w_ixT hd (at3 d h3 h4) ?_
    k_all
    exact q _ _ (by assumption) (by assumption)
/-! ### outward_step -/
def outward (g : Int) (d : T3) : Int := if g - g / 2 * 2 = 1 then d.get (g / 2) else -(d.get (g / 2))
def spOut (K : PySem.W.Frag) : Sp := fun vs H Q _ => ∃ g a d, vs = [.int g, .ref a] ∧ FaceOk g ∧ (SqL K H a (vi (T3.l d)) ∨ SqT K H a (vi (T3.l d))) ∧ Q (.int (outward g d)) H
theorem C_outward_step (E : Env K mg) : FnC P w K mg base "outward_step" 1 ["beside", "direction"] [] (spOut K) := by
  refine .of E.d_outward_step E.g_outward_step sc_outward_step (fun vs H Q E h => ?_) (fun _ _ _ _ _ _ us hl => match us, hl with | [_, _], _ => rfl) (fun cdv A outer s H vs Q E' hr h => ?_)
  · obtain ⟨g, a, d, rfl, _⟩ := h
    rfl
  · obtain ⟨g, a, d, rfl, hg, hd, q⟩ := h
    refine ⟨_, (pss_cons (ps_set (i := 2) sc_outward_step.nd rfl (by first | exact Or.inl rfl | exact Or.inr rfl) (pe_ix ix_seq (pv 1) (pe_op op_fdiv (pv 0) pe_int) (fun _ _ => rfl)))
      (pss_one (ps_ret (pe_ifExp (pt_cmpR op_eq (pe_op op_sub (pv 0) (pe_op op_mul (pe_op op_fdiv (pv 0) pe_int) pe_int)) pe_int (nomark _)) (pv 2) (pe_un un_neg (pv 2)))))), ?_⟩
    obtain ⟨h1, h2⟩ := half_ok hg
    k_all
    refine w_ixA hd (at3 d h1 h2) ?_
    k_all
    refine if_int (fun h3 => ?_) (fun h3 => ?_)
    · k_all
      unfold outward at q
      rw [if_pos h3] at q
      exact q
    · k_all
      unfold outward at q
      rw [if_neg h3] at q
      exact q
/-! ### measure_at -/
def measure (f : Int) (d x : T3) : Int := d.get (axes f).1 * x.get (axes f).2 - d.get (axes f).2 * x.get (axes f).1
def T3.Le (t : T3) (n : Int) : Prop := ∀ i, -n ≤ t.get i ∧ t.get i ≤ n
def spMeas (K : PySem.W.Frag) : Sp := fun vs H Q _ => ∃ f a b d x, vs = [.int f, .ref a, .ref b] ∧ FaceOk f ∧ SqT K H a (vi (T3.l d)) ∧ SqL K H b (vi (T3.l x)) ∧ T3.Le d 10000 ∧ Q (.int (measure f d x)) H
theorem C_measure_at (E : Env K mg) : FnC P w K mg base "measure_at" 4 ["face", "direction", "spot"] [] (spMeas K) := by
  have C_face_axes := C_face_axes (P := P) (w := w) (base := base) E
  refine .of E.d_measure_at E.g_measure_at sc_measure_at (fun vs H Q E h => ?_) (fun _ _ _ _ _ _ us hl => match us, hl with | [_, _, _], _ => rfl) (fun cdv A outer s H vs Q E' hr h => ?_)
  · obtain ⟨f, a, b, d, x, rfl, _⟩ := h
    rfl
  · obtain ⟨f, a, b, d, x, rfl, hf, hd, hx, hl, q⟩ := h
    refine ⟨_, (pss_cons (ps_asg (pe_c C_face_axes (hr.mono (by decide)) rfl (pa_cons (pv 0) pa_nil)) (pg_tup rfl (pgs_cons (pg_name (i := 3) sc_measure_at.nd rfl (by first | exact Or.inl rfl | exact Or.inr rfl)) (pgs_cons (pg_name (i := 4) sc_measure_at.nd rfl (by first | exact Or.inl rfl | exact Or.inr rfl)) pgs_nil))))
      (pss_one (ps_ret (pe_op op_sub (pe_op op_mul (pe_ix ix_tup (pv 1) (pv 3) (fun _ _ => rfl)) (pe_ix ix_list (pv 2) (pv 4) (fun _ _ => rfl))) (pe_op op_mul (pe_ix ix_tup (pv 1) (pv 4) (fun _ _ => rfl)) (pe_ix ix_list (pv 2) (pv 3) (fun _ _ => rfl))))))), ?_⟩
    obtain ⟨h1, h2, h3, h4⟩ := ax_ok hf
    have l1 := hl (axes f).1
    have l2 := hl (axes f).2
    k_all
    refine ⟨f, rfl, hf, fun y hy => ?_⟩
    have hy0 := hy H
    k_all
    refine w_ixT hd (at3 d h1 h2) ?_
    k_all
    refine w_ixL hx (at3 x h3 h4) ?_
    k_all
    refine w_ixT hd (at3 d h3 h4) ?_
    k_all
    refine w_ixL hx (at3 x h1 h2) ?_
    k_all
    exact q
/-! ### boxes -/
def boxF (a : Addr) : List (Str × V) := putF "sides" (.ref a) []
def BoxAt (K : PySem.W.Frag) (H : Hp) (v : V) (s : T3) : Prop := ∃ p dx a, v = .ref p ∧ H p = some (.ins (He.ga K "Box") dx (boxF a)) ∧ SqT K H a (vi (T3.l s))
theorem BoxAt.mono {H H' : Hp} {v : V} {s : T3} (h : BoxAt K H v s) (e : Ex H H') : BoxAt K H' v s := by
  obtain ⟨p, dx, a, e1, h1, h2⟩ := h
  exact ⟨p, dx, a, e1, e p _ h1, ex_t e h2⟩
theorem boxF_sides (a : Addr) : (boxF a).lookup ("sides" : Str) = some (.ref a) := by
  unfold boxF
  rw [lookup_putF, if_pos rfl]
theorem w_box {H : Hp} {p dx a : Addr} {B : V → Prop} (E : Env K mg) (h : H p = some (.ins (He.ga K "Box") dx (boxF a))) (q : B (.ref a)) :
    ∃ a' C dx fs v, V.ref p = V.ref a' ∧ H a' = some (.ins C dx fs) ∧ Cls K C ∧ NoAttr K C "sides" ∧ fs.lookup ("sides" : Str) = some v ∧ B v := w_fl h E.c_Box E.n_Box_sides (boxF_sides a) q
/-! ### face_level -/
def level (s : T3) (f : Int) : Int := if f - f / 2 * 2 = 1 then s.get (f / 2) else 0
def spLevel (K : PySem.W.Frag) : Sp := fun vs H Q _ => ∃ v s f, vs = [v, .int f] ∧ BoxAt K H v s ∧ FaceOk f ∧ Q (.int (level s f)) H
theorem C_face_level (E : Env K mg) : FnC P w K mg base "face_level" 1 ["box", "face"] [] (spLevel K) := by
  refine .of E.d_face_level E.g_face_level sc_face_level (fun vs H Q E h => ?_) (fun _ _ _ _ _ _ us hl => match us, hl with | [_, _], _ => rfl) (fun cdv A outer s H vs Q E' hr h => ?_)
  · obtain ⟨v, s, f, rfl, _⟩ := h
    rfl
  · obtain ⟨v, s, f, rfl, ⟨p, dx, a, rfl, hp, ha⟩, hf, q⟩ := h
    refine ⟨_, (pss_one (ps_ret (pe_ifExp (pt_cmpR op_eq (pe_op op_sub (pv 1) (pe_op op_mul (pe_op op_fdiv (pv 1) pe_int) pe_int)) pe_int (nomark _)) (pe_ix ix_tup (pe_fld (pv 0) rfl) (pe_op op_fdiv (pv 1) pe_int) (fun _ _ => rfl)) pe_int))), ?_⟩
    obtain ⟨h1, h2⟩ := half_ok hf
    k_all
    refine if_int (fun h3 => ?_) (fun h3 => ?_)
    · k_all
      refine w_box E hp ?_
      k_all
      refine w_ixT ha (at3 s h1 h2) ?_
      unfold level at q
      rw [if_pos h3] at q
      exact q
    · k_all
      unfold level at q
      rw [if_neg h3] at q
      exact q
end TP

/-! W3 -/
set_option Elab.async false
set_option linter.all false
set_option maxRecDepth 100000
set_option maxHeartbeats 4000000
-- k_mem: a fact of the heap as it is now, from an older one; k_upd: one step of a reading; k_all: as many as go

namespace TP
open PySem PySem.Spec PyProof.Rows L2
variable {P : Program} {w : World} {K : PySem.W.Frag} {mg : Str → Option Value} {base : Heap}
/-! ### edge_ends -/
def spotAt (s : T3) (f g : Int) : T3 := T3.set (T3.set (0, 0, 0) (f / 2) (level s f)) (g / 2) (level s g)
def along (f g : Int) : Int := 3 - f / 2 - g / 2
def edgeEnds (s : T3) (f g : Int) (d : T3) : Int × Int := (measure f d (spotAt s f g), measure f d ((spotAt s f g).set (along f g) (s.get (along f g))))
def spEnds (K : PySem.W.Frag) : Sp := fun vs H Q _ => ∃ v s f g a d, vs = [v, .int f, .int g, .ref a] ∧ BoxAt K H v s ∧ FaceOk f ∧ FaceOk g ∧ f / 2 ≠ g / 2 ∧ SqT K H a (vi (T3.l d)) ∧ T3.Le d 10000 ∧
  ∀ p H', Ex H H' → H p = none → H' p = some (.tup (vi [(edgeEnds s f g d).1, (edgeEnds s f g d).2])) → Q (.ref p) H'
theorem along_ok {f g : Int} (hf : FaceOk f) (hg : FaceOk g) (n : f / 2 ≠ g / 2) : 0 ≤ along f g ∧ along f g ≤ 2 := by
  obtain ⟨h1, h2⟩ := half_ok hf
  obtain ⟨h3, h4⟩ := half_ok hg
  unfold along
  omega
theorem C_edge_ends (E : Env K mg) : FnC P w K mg base "edge_ends" 5 ["box", "face", "beside", "direction"] [] (spEnds K) := by
  have C_face_level := C_face_level (P := P) (w := w) (base := base) E
  have C_measure_at := C_measure_at (P := P) (w := w) (base := base) E
  refine .of E.d_edge_ends E.g_edge_ends sc_edge_ends (fun vs H Q E h => ?_) (fun _ _ _ _ _ _ us hl => match us, hl with | [_, _, _, _], _ => rfl) (fun cdv A outer s0 H vs Q E' hr h => ?_)
  · obtain ⟨v, s, f, g, a, d, rfl, _⟩ := h
    rfl
  · obtain ⟨v, s, f, g, a, d, rfl, hb, hf, hg, hn, hd, hl, q⟩ := h
    refine ⟨_, (pss_cons (ps_set (i := 4) sc_edge_ends.nd rfl (by first | exact Or.inl rfl | exact Or.inr rfl) (pe_lst (pa_cons pe_int (pa_cons pe_int (pa_cons pe_int pa_nil)))))
      (pss_cons (ps_asg (pe_c C_face_level (hr.mono (by decide)) rfl (pa_cons (pv 0) (pa_cons (pv 1) pa_nil))) (pg_sub (pv 4) (pe_op op_fdiv (pv 1) pe_int) set_list))
      (pss_cons (ps_asg (pe_c C_face_level (hr.mono (by decide)) rfl (pa_cons (pv 0) (pa_cons (pv 2) pa_nil))) (pg_sub (pv 4) (pe_op op_fdiv (pv 2) pe_int) set_list))
      (pss_cons (ps_set (i := 5) sc_edge_ends.nd rfl (by first | exact Or.inl rfl | exact Or.inr rfl) (pe_c C_measure_at (hr.mono (by decide)) rfl (pa_cons (pv 1) (pa_cons (pv 3) (pa_cons (pv 4) pa_nil)))))
      (pss_cons (ps_set (i := 6) sc_edge_ends.nd rfl (by first | exact Or.inl rfl | exact Or.inr rfl) (pe_op op_sub (pe_op op_sub pe_int (pe_op op_fdiv (pv 1) pe_int)) (pe_op op_fdiv (pv 2) pe_int)))
      (pss_cons (ps_asg (pe_ix ix_tup (pe_fld (pv 0) rfl) (pv 6) (fun _ _ => rfl)) (pg_sub (pv 4) (pv 6) set_list))
      (pss_one (ps_ret (pe_tup (pa_cons (pv 5) (pa_cons (pe_c C_measure_at (hr.mono (by decide)) rfl (pa_cons (pv 1) (pa_cons (pv 3) (pa_cons (pv 4) pa_nil)))) pa_nil))))))))))), ?_⟩
    obtain ⟨f1, f2⟩ := half_ok hf
    obtain ⟨g1, g2⟩ := half_ok hg
    obtain ⟨a1, a2⟩ := along_ok hf hg hn
    k_all
    rename_i p np H1 e1 l1
    refine ⟨_, _, _, rfl, hb.mono e1, hf, ?_⟩
    k_all
    refine w_s3 (t := (0, 0, 0)) l1 f1 f2 ?_
    generalize hG : upd _ _ _ = H2
    have e2 : Ex H H2 := ex_mut hG e1 np
    have l2 := at_of hG
    k_all
    refine ⟨_, _, _, rfl, hb.mono e2, hg, ?_⟩
    k_all
    refine w_s3 l2 g1 g2 ?_
    generalize hG2 : upd _ _ _ = H3
    have e3 : Ex H H3 := ex_mut hG2 e2 np
    have l3 := at_of hG2
    k_all
    refine ⟨f, a, p, d, _, rfl, hf, ex_t e3 hd, sl_at l3, hl, ?_⟩
    k_all
    obtain ⟨pb, dx, sa, rfl, hp, hs⟩ := hb
    refine w_box E (e3 _ _ hp) ?_
    k_all
    refine w_ixT (ex_t e3 hs) (at3 s a1 a2) ?_
    k_all
    refine w_s3 l3 a1 a2 ?_
    generalize hG4 : upd _ _ _ = H4
    have e4 : Ex H H4 := ex_mut hG4 e3 np
    have l4 := at_of hG4
    k_all
    refine ⟨f, a, p, d, _, rfl, hf, ex_t e4 hd, sl_at l4, hl, ?_⟩
    k_all
    rename_i p5 np5 H5 e5 l5
    exact q _ _ (e4.trans e5) (Evl.fresh_back e4 np5) l5
/-! ### faces_beside -/
def facesBeside (f : Int) : List Int := [0, 1, 2, 3, 4, 5].filter fun o => o / 2 != f / 2
def spBeside (K : PySem.W.Frag) : Sp := fun vs H Q _ => ∃ f, vs = [.int f] ∧ FaceOk f ∧ ∀ p H', Ex H H' → H p = none → H' p = some (.tup (vi (facesBeside f))) → Q (.ref p) H'
theorem C_faces_beside (E : Env K mg) : FnC P w K mg base "faces_beside" 3 ["face"] [] (spBeside K) := by
  have C_check_face := C_check_face (P := P) (w := w) (base := base) E
  refine .of E.d_faces_beside E.g_faces_beside sc_faces_beside (fun vs H Q E h => ?_) (fun _ _ _ _ _ _ us hl => match us, hl with | [_], _ => rfl) (fun cdv A outer s0 H vs Q E' hr h => ?_)
  · obtain ⟨f, rfl, _⟩ := h
    rfl
  · obtain ⟨f, rfl, hf, q⟩ := h
    refine ⟨_, (pss_cons (ps_expr (pe_c C_check_face (hr.mono (by decide)) rfl (pa_cons (pv 0) pa_nil)))
      (pss_one (ps_ret (pe_callTy call_tuple_of (by rfl) E.b_tuple (by decide +kernel) (pa_cons (pe_lc (own := [("other", 1)]) rfl sc_faces_beside.nd (pi_range1 rfl E.b_range (pa_cons pe_int pa_nil)) (blkOk_by (own := [("other", 1)]) (N := ["face", "other"]) (sc := defScope s_faces_beside) (by decide +kernel)) (fun _ _ _ _ _ => (pg_name (i := 1) sc_faces_beside.nd rfl (by first | exact Or.inl rfl | exact Or.inr rfl))) (fun _ _ _ _ _ => (pts_one (pt_cmpR op_ne (pe_op op_fdiv (pv 1) pe_int) (pe_op op_fdiv (pv 0) pe_int) (nomark _)))) (fun _ _ _ _ _ => (pv 1))) pa_nil))))), ?_⟩
    k_all
    refine ⟨f, rfl, hf, ?_⟩
    k_all
    refine w_lcFR (H1 := H) (n := 6) (f := fun x => match x with | .int o => o / 2 != f / 2 | _ => false) (by decide) (fun R r => ?_) (fun i H' hi e => ?_) (fun p H2 np e l => ?_)
    · k_all
      exact r
    · refine ⟨rfl, rfl, fun QB qb => ?_⟩
      k_all
      have qb := qb H' (Evl.Ex.refl _)
      have hd : (!decide (V.int (((0 : Int) + (i : Int)) / 2) = V.int (f / 2))) = (((0 : Int) + (i : Int)) / 2 != f / 2) := by rw [dec_int]; rfl
      rw [hd]
      exact qb
    · k_all
      refine w_tupL (sl_at l) fun t nt => ?_
      generalize hG : upd _ _ _ = H3
      have e3 : Ex H H3 := e.trans (ex_of hG nt)
      have l3 := at_of hG
      refine q t H3 e3 (Evl.fresh_back e nt) ?_
      rw [l3]
      obtain rfl | rfl | rfl | rfl | rfl | rfl := hf.cases <;> rfl
end TP

/-! W4 -/
set_option Elab.async false
set_option linter.all false
set_option maxRecDepth 100000
set_option maxHeartbeats 4000000
-- k_mem: a fact of the heap as it is now, from an older one; k_upd: one step of a reading; k_all: as many as go

namespace TP
open PySem PySem.Spec PyProof.Rows L2
open PySem.W (minOf maxOf)
variable {P : Program} {w : World} {K : PySem.W.Frag} {mg : Str → Option Value} {base : Heap}
/-! ### check_direction -/
def DirOk (f : Int) (d : T3) : Prop := d.get (f / 2) = 0 ∧ (d.get (axes f).1 ≠ 0 ∨ d.get (axes f).2 ≠ 0) ∧ Nat.gcd (d.get (axes f).1).natAbs (d.get (axes f).2).natAbs = 1 ∧ T3.Le d 10000
theorem isi_tupT {K : PySem.W.Frag} {H : Hp} {a t : Addr} {xs : List V} {Q : VK} (h : SqT K H a xs) (ht : H t = some (.tup [.ty "list", .ty "tuple"])) (q : Q (.bl true) H) : rIsiT K [.ref a, .ref t] H Q := by
  have ty : TyX K H (.ref a) (.type "tuple") := by
    rcases h with (h | ⟨o, h⟩) | ⟨o, its, n, h, hc, _⟩
    · exact .base (.tup h)
    · exact .fTuple h
    · exact .kTuple h hc
  exact ⟨_, t, _, _, _, true, rfl, ht, .cons (.ty _) (.cons (.ty _) .nil), ty, kitAny_cons (b := false) (kit_ty (by decide +kernel)) (fun _ => kitAny_cons (b := true) (kit_ty (by decide +kernel)) (fun e => by cases e) (fun _ => rfl)) (fun e => by cases e), q⟩
def spDir (K : PySem.W.Frag) : Sp := fun vs H Q _ => ∃ f a d, vs = [.int f, .ref a] ∧ FaceOk f ∧ SqT K H a (vi (T3.l d)) ∧ DirOk f d ∧ ∀ H', Ex H H' → Q (.ref a) H'
theorem T3.at_l (d : T3) {i : Nat} {x : V} (h : (vi (T3.l d))[i]? = some x) : ∃ n : Int, x = .int n ∧ ∃ j : Int, n = d.get j := by
  match i, h with
  | 0, h => exact ⟨d.1, (Option.some.inj h).symm, 0, rfl⟩
  | 1, h => exact ⟨d.2.1, (Option.some.inj h).symm, 1, rfl⟩
  | 2, h => exact ⟨d.2.2, (Option.some.inj h).symm, 2, rfl⟩
theorem C_check_direction (E : Env K mg) : FnC P w K mg base "check_direction" 5 ["face", "direction"] [] (spDir K) := by
  have C_check_face := C_check_face (P := P) (w := w) (base := base) E
  have C_is_whole := C_whole3 (P := P) (w := w) (base := base) E
  have C_framed := C_framed (P := P) (w := w) (base := base) E
  refine .of E.d_check_direction E.g_check_direction sc_check_direction (fun vs H Q E h => ?_) (fun _ _ _ _ _ _ us hl => match us, hl with | [_, _], _ => rfl) (fun cdv A outer s0 H vs Q E' hr h => ?_)
  · obtain ⟨f, a, d, rfl, _⟩ := h
    rfl
  · obtain ⟨f, a, d, rfl, hf, hd, ⟨o1, o2, o3, o4⟩, q⟩ := h
    refine ⟨_, (pss_cons (ps_expr (pe_c C_check_face (hr.mono (by decide)) rfl (pa_cons (pv 0) pa_nil)))
      (pss_cons (ps_if (PW.pt (pw_or (pt_not (pt_val (pe_callB call_isiT (by rfl) E.b_isinstance (by decide +kernel) (pa_cons (pv 1) (pa_cons (pe_tup (pa_cons (pe_bltn (v := .ty "list") (by rfl) E.b_list (by decide +kernel) rfl) (pa_cons (pe_bltn (v := .ty "tuple") (by rfl) E.b_tuple (by decide +kernel) rfl) pa_nil))) pa_nil))))) (pw_or1 (pt_cmpR op_ne (pe_callB call_len_seq (by rfl) E.b_len PySem.boot_len (pa_cons (pv 1) pa_nil)) pe_int (nomark _))))) (pss_one ps_never) pss_nil)
      (pss_cons (ps_for PassesOwn.never rfl (pi_tup (pv 1)) (pg_name (i := 2) sc_check_direction.nd rfl (by first | exact Or.inl rfl | exact Or.inr rfl)) (pss_one (ps_if (pt_not (pt_val (pe_c C_is_whole (hr.mono (by decide)) rfl (pa_cons (pv 2) (pa_cons (pe_un un_neg (pe_cst rfl E.v_MOST_STEP)) (pa_cons (pe_cst rfl E.v_MOST_STEP) pa_nil)))))) (pss_one ps_never) pss_nil)))
      (pss_cons (ps_if (pt_cmpR op_ne (pe_ix ix_tup (pv 1) (pe_op op_fdiv (pv 0) pe_int) (fun _ _ => rfl)) pe_int (nomark _)) (pss_one ps_never) pss_nil)
      (pss_cons (ps_asg (pe_c C_framed (hr.mono (by decide)) rfl (pa_cons (pv 0) (pa_cons (pv 1) pa_nil))) (pg_tup rfl (pgs_cons (pg_name (i := 3) sc_check_direction.nd rfl (by first | exact Or.inl rfl | exact Or.inr rfl)) (pgs_cons (pg_name (i := 4) sc_check_direction.nd rfl (by first | exact Or.inl rfl | exact Or.inr rfl)) pgs_nil))))
      (pss_cons (ps_if (PW.pt (pw_and (pt_cmpR op_eq (pv 3) pe_int (nomark _)) (pw_and1 (pt_cmpR op_eq (pv 4) pe_int (nomark _))))) (pss_one ps_never) pss_nil)
      (pss_cons (ps_if (pt_cmpR op_ne (pe_callBfun cr_gcd (by rfl) E.gcd (pa_cons (pv 3) (pa_cons (pv 4) pa_nil))) pe_int (nomark _)) (pss_one ps_never) pss_nil)
      (pss_one (ps_ret (pe_callTy call_tuple_of (by rfl) E.b_tuple (by decide +kernel) (pa_cons (pv 1) pa_nil))))))))))), ?_⟩
    obtain ⟨f1, f2⟩ := half_ok hf
    k_all
    refine ⟨f, rfl, hf, ?_⟩
    k_all
    rename_i t nt H1 e1 l1
    refine isi_tupT (ex_t e1 hd) l1 ?_
    k_all
    refine w_lenT (ex_t e1 hd) ?_
    k_all
    refine if_nint (fun h => (h rfl).elim) (fun _ => ?_)
    k_all
    refine w_itT (ex_t e1 hd) (for_tup (xs := vi (T3.l d)) (fun i σ H' => ∃ z, σ = [some (.int f), some (.ref a), z, none, none] ∧ Ex H H') ⟨_, rfl, e1⟩ (fun i σ H' _ h => ?_) (fun i x σ H' hi h => ?_) (fun σ H' h => ?_))
    · obtain ⟨z, _, e⟩ := h
      exact ex_t e hd
    · obtain ⟨z, rfl, e⟩ := h
      obtain ⟨n, rfl, j, rfl⟩ := T3.at_l d hi
      obtain ⟨b1, b2⟩ := o4 j
      k_all
      refine ⟨_, _, _, rfl, ?_⟩
      rw [decide_eq_true b1, decide_eq_true b2]
      refine w_bl (b := true) ?_
      k_all
      exact ⟨_, rfl, e⟩
    · obtain ⟨z, rfl, e⟩ := h
      k_all
      refine w_ixT (ex_t e hd) (at3 d f1 f2) ?_
      k_all
      refine if_nint (fun h => (h o1).elim) (fun _ => ?_)
      k_all
      refine ⟨_, _, d, rfl, hf, ex_t e hd, fun p H2 e2 l2 => ?_⟩
      k_all
      have e3 := e.trans e2
      refine if_int (fun h1 => ?_) (fun h1 => ?_)
      · k_all
        refine if_int (fun h2 => ?_) (fun h2 => ?_)
        · exact (o2.elim (fun o => o h1) (fun o => o h2)).elim
        · k_all
          refine ⟨_, _, rfl, ?_⟩
          k_all
          refine if_nint (fun h => (h (congrArg Int.ofNat o3)).elim) (fun _ => ?_)
          k_all
          refine w_tupT (ex_t e3 hd) ?_
          exact q _ e3
      · k_all
        refine ⟨_, _, rfl, ?_⟩
        k_all
        refine if_nint (fun h => (h (congrArg Int.ofNat o3)).elim) (fun _ => ?_)
        k_all
        refine w_tupT (ex_t e3 hd) ?_
        exact q _ e3
end TP

/-! W5 -/
set_option Elab.async false
set_option linter.all false
set_option maxRecDepth 100000
set_option maxHeartbeats 4000000
-- k_mem: a fact of the heap as it is now, from an older one; k_upd: one step of a reading; k_all: as many as go

namespace TP
open PySem PySem.Spec PyProof.Rows L2
open PySem.W (minOf maxOf)
variable {P : Program} {w : World} {K : PySem.W.Frag} {mg : Str → Option Value} {base : Heap}
/-! ### sideways_range -/
def sideVals (s : T3) (f : Int) (d : T3) (gs : List Int) : List Int := gs.flatMap fun g => [(edgeEnds s f g d).1, (edgeEnds s f g d).2]
def sideRange (s : T3) (f : Int) (d : T3) : Int × Int := match sideVals s f d (facesBeside f) with
  | [] => (0, 0)
  | n :: ns => (minOf n ns, maxOf n ns)
theorem beside_at {f : Int} {i : Nat} {x : V} (hf : FaceOk f) (h : (vi (facesBeside f))[i]? = some x) : ∃ g, x = .int g ∧ (facesBeside f)[i]? = some g ∧ FaceOk g ∧ f / 2 ≠ g / 2 := by
  unfold vi at h
  rw [List.getElem?_map] at h
  cases e : (facesBeside f)[i]? with
  | none => rw [e] at h; cases h
  | some g =>
    rw [e] at h
    refine ⟨g, (Option.some.inj h).symm, rfl, ?_⟩
    have hm := List.mem_of_getElem? e
    unfold facesBeside at hm
    obtain ⟨h1, h2⟩ := List.mem_filter.mp hm
    refine ⟨?_, fun q => ?_⟩
    · unfold FaceOk
      simp only [List.mem_cons, List.not_mem_nil, or_false] at h1
      omega
    · rw [q] at h2
      simp at h2
theorem beside_at_some {f : Int} {i : Nat} {g : Int} (h : (vi (facesBeside f))[i]? = some (.int g)) : (facesBeside f)[i]? = some g := by
  unfold vi at h
  rw [List.getElem?_map] at h
  cases e : (facesBeside f)[i]? with
  | none => rw [e] at h; cases h
  | some z => rw [e] at h; exact congrArg some (V.int.inj (Option.some.inj h))
def spRange (K : PySem.W.Frag) : Sp := fun vs H Q _ => ∃ v s f a d, vs = [v, .int f, .ref a] ∧ BoxAt K H v s ∧ FaceOk f ∧ SqT K H a (vi (T3.l d)) ∧ DirOk f d ∧
  ∀ p H', Ex H H' → H p = none → H' p = some (.tup (vi [(sideRange s f d).1, (sideRange s f d).2])) → Q (.ref p) H'
theorem C_sideways_range (E : Env K mg) : FnC P w K mg base "sideways_range" 6 ["box", "face", "direction"] [] (spRange K) := by
  have C_check_direction := C_check_direction (P := P) (w := w) (base := base) E
  have C_faces_beside := C_faces_beside (P := P) (w := w) (base := base) E
  have C_edge_ends := C_edge_ends (P := P) (w := w) (base := base) E
  refine .of E.d_sideways_range E.g_sideways_range sc_sideways_range (fun vs H Q E h => ?_) (fun _ _ _ _ _ _ us hl => match us, hl with | [_, _, _], _ => rfl) (fun cdv A outer s0 H vs Q E' hr h => ?_)
  · obtain ⟨v, s, f, a, d, rfl, _⟩ := h
    rfl
  · obtain ⟨v, s, f, a, d, rfl, hb, hf, hd, ho, q⟩ := h
    refine ⟨_, (pss_cons (ps_set (i := 3) sc_sideways_range.nd rfl (by first | exact Or.inl rfl | exact Or.inr rfl) (pe_c C_check_direction (hr.mono (by decide)) rfl (pa_cons (pv 1) (pa_cons (pv 2) pa_nil))))
      (pss_cons (ps_set (i := 4) sc_sideways_range.nd rfl (by first | exact Or.inl rfl | exact Or.inr rfl) (pe_lst pa_nil))
      (pss_cons (ps_for PassesOwn.never rfl (pi_tup (pe_c C_faces_beside (hr.mono (by decide)) rfl (pa_cons (pv 1) pa_nil))) (pg_name (i := 5) sc_sideways_range.nd rfl (by first | exact Or.inl rfl | exact Or.inr rfl)) (pss_one (ps_expr (pe_bm PySem.F.plainAttrs_list PySem.F.slot_list_extend PySem.F.type_list_extend mt_extT (pv 4) (pa_cons (pe_c C_edge_ends (hr.mono (by decide)) rfl (pa_cons (pv 0) (pa_cons (pv 1) (pa_cons (pv 5) (pa_cons (pv 3) pa_nil))))) pa_nil)))))
      (pss_one (ps_ret (pe_tup (pa_cons (pe_callB (cr_minL rfl hr.units) (by rfl) E.b_min (by decide +kernel) (pa_cons (pv 4) pa_nil)) (pa_cons (pe_callB (cr_maxL rfl hr.units) (by rfl) E.b_max (by decide +kernel) (pa_cons (pv 4) pa_nil)) pa_nil)))))))), ?_⟩
    k_all
    refine ⟨_, _, d, rfl, hf, hd, ho, fun H1 e1 => ?_⟩
    k_all
    rename_i l nl H2 e2 l2
    refine ⟨_, rfl, hf, fun p H3 e3 np l3 => ?_⟩
    have e13 := (e1.trans e2).trans e3
    have nl1 := Evl.fresh_back e1 nl
    refine w_itT (st_at l3) (for_tup (xs := vi (facesBeside f)) (fun i σ H' => ∃ z, σ = [some v, some (.int f), some (.ref a), some (.ref a), some (.ref l), z] ∧ Ex H H' ∧ SqT K H' p (vi (facesBeside f)) ∧ H' l = some (.lst (vi (sideVals s f d ((facesBeside f).take i))))) ⟨_, rfl, e13, st_at l3, e3 _ _ l2⟩ (fun i σ H' _ h => ?_) (fun i x σ H' hi h => ?_) (fun σ H' h => ?_))
    · obtain ⟨z, _, e, h2, _⟩ := h
      exact h2
    · obtain ⟨z, rfl, e, h2, h3⟩ := h
      obtain ⟨g, rfl, hg, hgo, hn⟩ := beside_at hf hi
      k_all
      refine ⟨_, _, _, _, _, d, rfl, hb.mono e, hf, hgo, hn, ex_t e hd, ho.2.2.2, fun p4 H4 e4 np4 l4 => ?_⟩
      k_all
      have hlen : (vi (sideVals s f d ((facesBeside f).take i))).length ≤ 50000 := by
        unfold vi sideVals
        rw [List.length_map, List.length_flatMap]
        have : ((facesBeside f).take i).length ≤ 6 := by
          refine Nat.le_trans (List.length_take_le' _ _) ?_
          unfold facesBeside
          exact Nat.le_trans (List.length_filter_le _ _) (by decide)
        simp only [List.length_cons, List.length_nil, List.map_const', List.sum_replicate_nat]
        omega
      refine w_extT (e4 _ _ h3) (st_at l4) (by have : (vi [(edgeEnds s f g d).1, (edgeEnds s f g d).2]).length = 2 := rfl; omega) ?_
      generalize hG : upd _ _ _ = H5
      have e5 : Ex H H5 := ex_mut hG (e.trans e4) nl1
      have l5 := at_of hG
      refine ⟨_, rfl, e5, ?_, ?_⟩
      · rcases ex_t e4 h2 with (h | ⟨o, h⟩) | h
        · exact .inl (.inl (by rw [← hG, upd_ne (ne_of h (e4 _ _ h3) (by intro z; cases z))]; exact h))
        · exact .inl (.inr ⟨o, by rw [← hG, upd_ne (ne_of h (e4 _ _ h3) (by intro z; cases z))]; exact h⟩)
        · exact .inr h
      · rw [l5, List.take_add_one, beside_at_some hi]
        unfold vi sideVals
        simp
    · obtain ⟨z, rfl, e, h2, h3⟩ := h
      k_all
      have hl : ((vi (facesBeside f)).length) = (facesBeside f).length := by unfold vi; rw [List.length_map]
      rw [hl, List.take_length] at h3
      obtain ⟨n, ns, en⟩ : ∃ n ns, sideVals s f d (facesBeside f) = n :: ns := by
        obtain rfl | rfl | rfl | rfl | rfl | rfl := hf.cases <;> exact ⟨_, _, rfl⟩
      rw [en] at h3
      refine ⟨l, n, ns, rfl, sl_at h3, ?_⟩
      k_all
      refine ⟨l, n, ns, rfl, sl_at h3, ?_⟩
      k_all
      rename_i p6 np6 H6 e6 l6
      refine q p6 H6 (e.trans e6) (Evl.fresh_back e np6) ?_
      rw [l6]
      unfold sideRange
      rw [en]
      rfl
end TP

/-! W6 -/
set_option Elab.async false
set_option linter.all false
set_option maxRecDepth 100000
set_option maxHeartbeats 4000000
-- k_mem: a fact of the heap as it is now, from an older one; k_upd: one step of a reading; k_all: as many as go

namespace TP
open PySem PySem.Spec PyProof.Rows L2
open PySem.W (minOf maxOf)
variable {P : Program} {w : World} {K : PySem.W.Frag} {mg : Str → Option Value} {base : Heap}
/-! ### leaving_faces -/
def leaving (f : Int) (d : T3) : List Int := (facesBeside f).filter fun g => decide (0 < outward g d)
theorem filter_vi (p : Int → Bool) (q : V → Bool) (e : ∀ n, q (.int n) = p n) : ∀ ns : List Int, (vi ns).filter q = vi (ns.filter p)
  | [] => rfl
  | n :: ns => by
    have ih := filter_vi p q e ns
    show (V.int n :: vi ns).filter q = vi ((n :: ns).filter p)
    rw [List.filter_cons, List.filter_cons, e n]
    cases p n with
    | true =>
      show V.int n :: (vi ns).filter q = vi (n :: ns.filter p)
      rw [ih]
      rfl
    | false => exact ih
def spLeaving (K : PySem.W.Frag) : Sp := fun vs H Q _ => ∃ f a d, vs = [.int f, .ref a] ∧ FaceOk f ∧ SqT K H a (vi (T3.l d)) ∧
  ∀ p H', Ex H H' → H p = none → H' p = some (.lst (vi (leaving f d))) → Q (.ref p) H'
theorem C_leaving_faces (E : Env K mg) : FnC P w K mg base "leaving_faces" 4 ["face", "direction"] [] (spLeaving K) := by
  have C_faces_beside := C_faces_beside (P := P) (w := w) (base := base) E
  have C_outward_step := C_outward_step (P := P) (w := w) (base := base) E
  refine .of E.d_leaving_faces E.g_leaving_faces sc_leaving_faces (fun vs H Q E h => ?_) (fun _ _ _ _ _ _ us hl => match us, hl with | [_, _], _ => rfl) (fun cdv A outer s0 H vs Q E' hr h => ?_)
  · obtain ⟨f, a, d, rfl, _⟩ := h
    rfl
  · obtain ⟨f, a, d, rfl, hf, hd, q⟩ := h
    refine ⟨_, (pss_one (ps_ret (pe_lc (own := [("beside", 2)]) rfl sc_leaving_faces.nd (pi_tup (pe_c C_faces_beside (hr.mono (by decide)) rfl (pa_cons (pv 0) pa_nil))) (blkOk_by (own := [("beside", 2)]) (N := ["face", "direction", "beside"]) (sc := defScope s_leaving_faces) (by decide +kernel)) (fun _ _ _ _ _ => (pg_name (i := 2) sc_leaving_faces.nd rfl (by first | exact Or.inl rfl | exact Or.inr rfl))) (fun _ _ _ _ _ => (pts_one (pt_cmpR op_gt (pe_c C_outward_step (hr.mono (by decide)) rfl (pa_cons (pv 2) (pa_cons (pv 1) pa_nil))) pe_int (nomark _)))) (fun _ _ _ _ _ => (pv 2))))), ?_⟩
    k_all
    -- the iterable lays a tuple first
    show tLc _ _ _ _ _ _ _ _
    unfold tLc
    k_all
    refine ⟨_, rfl, hf, fun p H1 e1 np l1 => ?_⟩
    refine w_itT (st_at l1) ?_
    refine w_lcFT (K := K) (H1 := H1) (σ := start ["face", "direction", "beside"] [.int f, .ref a]) (H := H1) (wi := fun _ H R => R (Itt K p) H) (a := p) (xs := vi (facesBeside f)) (j := 2) (vs := [2]) (f := fun x => match x with | .int g => decide (0 < outward g d) | _ => false) (by unfold vi facesBeside; rw [List.length_map]; exact Nat.le_trans (List.length_filter_le _ _) (by decide)) (st_at l1) (fun R r => r) (fun i x H' hi e => ?_) (fun l H2 nl e l2 => ?_)
    · obtain ⟨g, rfl, hg, hgo, hn⟩ := beside_at hf hi
      refine ⟨rfl, rfl, fun QB qb => ?_⟩
      k_all
      refine ⟨_, _, d, rfl, hgo, .inr (ex_t (e1.trans e) hd), ?_⟩
      k_all
      exact qb H' (Evl.Ex.refl _)
    · rw [filter_vi (fun g => decide (0 < outward g d)) _ (fun _ => rfl)] at l2
      exact q _ _ (e1.trans e) (Evl.fresh_back e1 nl) l2
/-! ### gone_over -/
def goneOver (f g : Int) (d : T3) : T3 := T3.set (T3.set d (g / 2) 0) (f / 2) (if f - f / 2 * 2 = 1 then -(outward g d) else outward g d)
def spGone (K : PySem.W.Frag) : Sp := fun vs H Q _ => ∃ f g a d, vs = [.int f, .int g, .ref a] ∧ FaceOk f ∧ FaceOk g ∧ SqT K H a (vi (T3.l d)) ∧
  ∀ p H', Ex H H' → H p = none → H' p = some (.tup (vi (T3.l (goneOver f g d)))) → Q (.ref p) H'
theorem C_gone_over (E : Env K mg) : FnC P w K mg base "gone_over" 2 ["face", "beside", "direction"] [] (spGone K) := by
  have C_outward_step := C_outward_step (P := P) (w := w) (base := base) E
  refine .of E.d_gone_over E.g_gone_over sc_gone_over (fun vs H Q E h => ?_) (fun _ _ _ _ _ _ us hl => match us, hl with | [_, _, _], _ => rfl) (fun cdv A outer s0 H vs Q E' hr h => ?_)
  · obtain ⟨f, g, a, d, rfl, _⟩ := h
    rfl
  · obtain ⟨f, g, a, d, rfl, hf, hg, hd, q⟩ := h
    refine ⟨_, (pss_cons (ps_set (i := 3) sc_gone_over.nd rfl (by first | exact Or.inl rfl | exact Or.inr rfl) (pe_callTy call_list_of (by rfl) E.b_list (by decide +kernel) (pa_cons (pv 2) pa_nil)))
      (pss_cons (ps_set (i := 4) sc_gone_over.nd rfl (by first | exact Or.inl rfl | exact Or.inr rfl) (pe_c C_outward_step (hr.mono (by decide)) rfl (pa_cons (pv 1) (pa_cons (pv 3) pa_nil))))
      (pss_cons (ps_asg pe_int (pg_sub (pv 3) (pe_op op_fdiv (pv 1) pe_int) set_list))
      (pss_cons (ps_asg (pe_ifExp (pt_cmpR op_eq (pe_op op_sub (pv 0) (pe_op op_mul (pe_op op_fdiv (pv 0) pe_int) pe_int)) pe_int (nomark _)) (pe_un un_neg (pv 4)) (pv 4)) (pg_sub (pv 3) (pe_op op_fdiv (pv 0) pe_int) set_list))
      (pss_one (ps_ret (pe_callTy call_tuple_of (by rfl) E.b_tuple (by decide +kernel) (pa_cons (pv 3) pa_nil)))))))), ?_⟩
    obtain ⟨f1, f2⟩ := half_ok hf
    obtain ⟨g1, g2⟩ := half_ok hg
    k_all
    refine w_listA (.inr hd) fun l nl => ?_
    generalize hG : upd _ _ _ = H1
    have e1 : Ex H H1 := ex_of hG nl
    have l1 := at_of hG
    k_all
    refine ⟨_, _, d, rfl, hg, .inl (sl_at l1), ?_⟩
    k_all
    refine w_s3 l1 g1 g2 ?_
    generalize hG2 : upd _ _ _ = H2
    have e2 : Ex H H2 := ex_mut hG2 e1 nl
    have l2 := at_of hG2
    k_all
    refine if_int (fun h1 => ?_) (fun h1 => ?_)
    · k_all
      refine w_s3 l2 f1 f2 ?_
      generalize hG3 : upd _ _ _ = H3
      have e3 : Ex H H3 := ex_mut hG3 e2 nl
      have l3 := at_of hG3
      k_all
      refine w_tupL (sl_at l3) fun t nt => ?_
      generalize hG4 : upd _ _ _ = H4
      have e4 : Ex H H4 := e3.trans (ex_of hG4 nt)
      have l4 := at_of hG4
      refine q _ _ e4 (Evl.fresh_back e3 nt) ?_
      unfold goneOver
      rw [if_pos h1]
      exact l4
    · k_all
      refine w_s3 l2 f1 f2 ?_
      generalize hG3 : upd _ _ _ = H3
      have e3 : Ex H H3 := ex_mut hG3 e2 nl
      have l3 := at_of hG3
      k_all
      refine w_tupL (sl_at l3) fun t nt => ?_
      generalize hG4 : upd _ _ _ = H4
      have e4 : Ex H H4 := e3.trans (ex_of hG4 nt)
      have l4 := at_of hG4
      refine q _ _ e4 (Evl.fresh_back e3 nt) ?_
      unfold goneOver
      rw [if_neg h1]
      exact l4
end TP

/-! D -/
set_option Elab.async false
set_option linter.all false
set_option maxRecDepth 100000
set_option maxHeartbeats 4000000
namespace TP
open PySem PySem.Spec PyProof.Rows L2
open PySem.W (Datum DatumOrd Holds HoldAll minOf maxOf Tup EachIs)
/-! ### typed data on the heap -/
mutual
theorem dp_ex {K : PySem.W.Frag} {H H' : Hp} (e : Ex H H') : ∀ (d : PyData) (v : V), Dp K H v d → Dp K H' v d
  | .none, _, h => by cases h; exact .non
  | .bool b, _, h => by cases h; exact .bl b
  | .int i, _, h => by cases h; exact .int i
  | .str x, _, h => by cases h; exact .str x
  | .list ds, _, h => by
    cases h with
    | lst hs ha => exact .lst (ex_l e hs) (dpAll_ex e ds _ ha)
  | .tuple ds, _, h => by
    cases h with
    | tup hs ha => exact .tup (ex_t e hs) (dpAll_ex e ds _ ha)
  | .dict _, _, h => by cases h
theorem dpAll_ex {K : PySem.W.Frag} {H H' : Hp} (e : Ex H H') : ∀ (ds : List PyData) (vs : List V), DpAll K H vs ds → DpAll K H' vs ds
  | [], _, h => by cases h; exact .nil
  | d :: ds, _, h => by
    cases h with
    | cons h1 h2 => exact .cons (dp_ex e d _ h1) (dpAll_ex e ds _ h2)
end
mutual
def noL : PyData → Bool
  | .list _ => false
  | .tuple ds => noLs ds
  | _ => true
def noLs : List PyData → Bool
  | [] => true
  | d :: ds => noL d && noLs ds
end
mutual
theorem dp_mu {K : PySem.W.Frag} {H : Hp} {l : Addr} {o : HO} {ys : List V} (hl : H l = some (.lst ys)) : ∀ (d : PyData) (v : V), noL d = true → Dp K H v d → Dp K (upd H l o) v d
  | .none, _, _, h => by cases h; exact .non
  | .bool b, _, _, h => by cases h; exact .bl b
  | .int i, _, _, h => by cases h; exact .int i
  | .str x, _, _, h => by cases h; exact .str x
  | .list ds, _, n, h => by
    unfold noL at n
    cases n
  | .tuple ds, _, n, h => by
    cases h with
    | tup hs ha =>
      unfold noL at n
      exact .tup (mu_t hs hl) (dpAll_mu hl ds _ n ha)
  | .dict _, _, _, h => by cases h
theorem dpAll_mu {K : PySem.W.Frag} {H : Hp} {l : Addr} {o : HO} {ys : List V} (hl : H l = some (.lst ys)) : ∀ (ds : List PyData) (vs : List V), noLs ds = true → DpAll K H vs ds → DpAll K (upd H l o) vs ds
  | [], _, _, h => by cases h; exact .nil
  | d :: ds, _, n, h => by
    cases h with
    | cons h1 h2 =>
      unfold noLs at n
      obtain ⟨n1, n2⟩ := Bool.and_eq_true_iff.mp n
      exact .cons (dp_mu hl d _ n1 h1) (dpAll_mu hl ds _ n2 h2)
end
section
variable {α β : Type} [DecidableEq α] [Datum α] [DecidableEq β] [Datum β] {K : PySem.W.Frag} {H H' : Hp} {v : V} {x : α}
/-- v holds x -/
def DAt {α : Type} [DecidableEq α] [Datum α] (K : PySem.W.Frag) (H : Hp) (v : V) (x : α) : Prop := Dp K H v (Datum.toD x)
/-- item by item -/
def DAll {α : Type} [DecidableEq α] [Datum α] (K : PySem.W.Frag) (H : Hp) (vs : List V) (xs : List α) : Prop := DpAll K H vs (xs.map Datum.toD)
theorem DAt.ex (h : DAt K H v x) (e : Ex H H') : DAt K H' v x := dp_ex e _ _ h
theorem DAll.ex {vs : List V} {xs : List α} (h : DAll K H vs xs) (e : Ex H H') : DAll K H' vs xs := dpAll_ex e _ _ h
theorem DAt.mu {l : Addr} {o : HO} {ys : List V} (n : noL (Datum.toD x) = true) (h : DAt K H v x) (hl : H l = some (.lst ys)) : DAt K (upd H l o) v x := dp_mu hl _ _ n h
theorem DAt.holds {X : Cx} {pins : List (Addr × Obj)} {σ : L2.St} {s : Shared} {u : Value} (I : Inv X pins σ H s) (h : DAt X.K H v x) (r : RelV v u) : Holds s.heap u x := Dp.reads I _ v u h r
theorem DAll.holds {X : Cx} {pins : List (Addr × Obj)} {σ : L2.St} {s : Shared} {vs : List V} {us : List Value} {xs : List α} (I : Inv X pins σ H s) (h : DAll X.K H vs xs) (r : Vals vs us) : HoldAll s.heap us xs := Dp.readsAll I _ vs us h r
theorem DAll.nil : DAll K H [] ([] : List α) := DpAll.nil
theorem DAll.cons {vs : List V} {xs : List α} (h : DAt K H v x) (t : DAll K H vs xs) : DAll K H (v :: vs) (x :: xs) := DpAll.cons h t
theorem DAll.len : ∀ {vs : List V} {xs : List α}, DAll K H vs xs → vs.length = xs.length
  | _, [], h => by cases h; rfl
  | _, x :: xs, h => by
    cases h with
    | cons h1 h2 => exact congrArg (· + 1) (DAll.len h2)
theorem DAll.at : ∀ {vs : List V} {xs : List α} {i : Nat} {v : V} {x : α}, DAll K H vs xs → vs[i]? = some v → xs[i]? = some x → DAt K H v x
  | _, [], i, _, _, h, _, h2 => by simp at h2
  | _, y :: xs, i, _, _, h, h1, h2 => by
    cases h with
    | cons p q =>
      cases i with
      | zero =>
        simp at h1 h2
        subst h1; subst h2
        exact p
      | succ i =>
        simp at h1 h2
        exact DAll.at q h1 h2
theorem DAll.of {vs : List V} {xs : List α} (e : vs.length = xs.length) (h : ∀ (i : Nat) v x, vs[i]? = some v → xs[i]? = some x → DAt K H v x) : DAll K H vs xs := by
  induction xs generalizing vs with
  | nil =>
    cases vs with
    | nil => exact .nil
    | cons => cases e
  | cons x xs ih =>
    cases vs with
    | nil => cases e
    | cons v vs => exact .cons (h 0 v x rfl rfl) (ih (Nat.succ.inj e) fun i w y h1 h2 => h (i + 1) w y (by simpa using h1) (by simpa using h2))
theorem DAll.app : ∀ {vs ws : List V} {xs ys : List α}, DAll K H vs xs → DAll K H ws ys → DAll K H (vs ++ ws) (xs ++ ys)
  | _, _, [], _, h, h2 => by cases h; exact h2
  | _, _, x :: xs, _, h, h2 => by
    cases h with
    | cons p q => exact .cons p (DAll.app q h2)
theorem DAll.ints : ∀ ns : List Int, DAll K H (vi ns) ns
  | [] => .nil
  | n :: ns => .cons (.int n) (DAll.ints ns)
theorem d_int {n : Int} : DAt K H (.int n) n := .int n
theorem d_tup {a : Addr} {xs : List V} {ys : List α} (h : SqT K H a xs) (t : DAll K H xs ys) : DAt K H (.ref a) (Tup.mk ys) := .tup h t
theorem d_ints {a : Addr} {ns : List Int} (h : SqT K H a (vi ns)) : DAt K H (.ref a) (Tup.mk ns) := .tup h (DAll.ints ns)
theorem d_lst {a : Addr} {xs : List V} {ys : List α} (h : SqL K H a xs) (t : DAll K H xs ys) : DAt K H (.ref a) ys := .lst h t
theorem d_pair {a : Addr} {p : α × β} {v w : V} (h : SqT K H a [v, w]) (h1 : DAt K H v p.1) (h2 : DAt K H w p.2) : DAt K H (.ref a) p := .tup h (.cons h1 (.cons h2 .nil))
end
/-! ### comparisons -/
section
variable {X : Cx}
def rEqX (α : Type) [DecidableEq α] [Datum α] (K : PySem.W.Frag) : R2 := fun x y H Q => ∃ a b : α, DAt K H x a ∧ DAt K H y b ∧ Q (.bl (decide (a = b))) H
def rNeX (α : Type) [DecidableEq α] [Datum α] (K : PySem.W.Frag) : R2 := fun x y H Q => ∃ a b : α, DAt K H x a ∧ DAt K H y b ∧ Q (.bl (decide (a ≠ b))) H
def rLtX (α : Type) [DecidableEq α] [DatumOrd α] (K : PySem.W.Frag) : R2 := fun x y H Q => ∃ a b : α, DAt K H x a ∧ DAt K H y b ∧ Q (.bl (DatumOrd.lt a b)) H
theorem op_eqX {α : Type} [DecidableEq α] [Datum α] (hu : X.A.units + 64 < cLine) (hd : Datum.depth α ≤ 64 := by decide) : OpR X (compareOp .Eq) (rEqX α X.K) := by
  intro pins s σ H x y v u Q I rx ry h
  obtain ⟨a, b, h1, h2, q⟩ := h
  exact PySem.W.eq_datum (h1.holds I rx) (h2.holds I ry) (by omega) ⟨.bl _, H, I, rfl, q⟩
theorem op_neX {α : Type} [DecidableEq α] [Datum α] (hu : X.A.units + 64 < cLine) (hd : Datum.depth α ≤ 64 := by decide) : OpR X (compareOp .NotEq) (rNeX α X.K) := by
  intro pins s σ H x y v u Q I rx ry h
  obtain ⟨a, b, h1, h2, q⟩ := h
  exact PySem.W.ne_datum (h1.holds I rx) (h2.holds I ry) (by omega) ⟨.bl _, H, I, rfl, q⟩
theorem op_ltX {α : Type} [DecidableEq α] [DatumOrd α] (hu : X.A.units + 64 < cLine) (hd : Datum.depth α ≤ 64 := by decide) : OpR X (compareOp .Lt) (rLtX α X.K) := by
  intro pins s σ H x y v u Q I rx ry h
  obtain ⟨a, b, h1, h2, q⟩ := h
  exact PySem.W.lt_datum (h1.holds I rx) (h2.holds I ry) (by omega) ⟨.bl _, H, I, rfl, q⟩
/-- x in l, l a list or a tuple -/
def rInX (α : Type) [DecidableEq α] [Datum α] (K : PySem.W.Frag) : R2 := fun x y H Q => ∃ (a : α) (p : Addr) (vs : List V) (bs : List α), y = .ref p ∧ DAt K H x a ∧ (SqL K H p vs ∨ SqT K H p vs) ∧ DAll K H vs bs ∧ Q (.bl (decide (a ∈ bs))) H
def rNotInX (α : Type) [DecidableEq α] [Datum α] (K : PySem.W.Frag) : R2 := fun x y H Q => ∃ (a : α) (p : Addr) (vs : List V) (bs : List α), y = .ref p ∧ DAt K H x a ∧ (SqL K H p vs ∨ SqT K H p vs) ∧ DAll K H vs bs ∧ Q (.bl (decide (a ∉ bs))) H
theorem op_inX {α : Type} [DecidableEq α] [Datum α] (hu : X.A.units + 64 < cLine) (hd : Datum.depth α ≤ 62 := by decide) : OpR X (compareOp .In) (rInX α X.K) := by
  intro pins s σ H x y v u Q I rx ry h
  obtain ⟨a, p, vs, bs, rfl, h1, h2, h3, q⟩ := h
  cases ry
  rcases h2 with h2 | h2
  · obtain ⟨its, rv, e, z⟩ := I.list h2
    exact PySem.W.in_list_datum e.isList (by simpa using h3.holds I rv) (h1.holds I rx) (by omega) ⟨.bl _, H, I, rfl, q⟩
  · obtain ⟨its, rv, e, z⟩ := I.tuple h2
    exact PySem.W.in_tuple_datum e (by simpa using h3.holds I rv) (h1.holds I rx) (by omega) ⟨.bl _, H, I, rfl, q⟩
theorem op_notInX {α : Type} [DecidableEq α] [Datum α] (hu : X.A.units + 64 < cLine) (hd : Datum.depth α ≤ 62 := by decide) : OpR X (compareOp .NotIn) (rNotInX α X.K) := by
  intro pins s σ H x y v u Q I rx ry h
  obtain ⟨a, p, vs, bs, rfl, h1, h2, h3, q⟩ := h
  cases ry
  rcases h2 with h2 | h2
  · obtain ⟨its, rv, e, z⟩ := I.list h2
    exact PySem.W.notIn_list_datum e.isList (by simpa using h3.holds I rv) (h1.holds I rx) (by omega) ⟨.bl _, H, I, rfl, q⟩
  · obtain ⟨its, rv, e, z⟩ := I.tuple h2
    exact PySem.W.notIn_tuple_datum e (by simpa using h3.holds I rv) (h1.holds I rx) (by omega) ⟨.bl _, H, I, rfl, q⟩
theorem w_eqX {α : Type} [DecidableEq α] [Datum α] {K : PySem.W.Frag} {x y : V} {H : Hp} {Q : VK} (a b : α) (h1 : DAt K H x a) (h2 : DAt K H y b) (q : Q (.bl (decide (a = b))) H) : rEqX α K x y H Q := ⟨a, b, h1, h2, q⟩
theorem w_neX {α : Type} [DecidableEq α] [Datum α] {K : PySem.W.Frag} {x y : V} {H : Hp} {Q : VK} (a b : α) (h1 : DAt K H x a) (h2 : DAt K H y b) (q : Q (.bl (decide (a ≠ b))) H) : rNeX α K x y H Q := ⟨a, b, h1, h2, q⟩
theorem w_ltX {α : Type} [DecidableEq α] [DatumOrd α] {K : PySem.W.Frag} {x y : V} {H : Hp} {Q : VK} (a b : α) (h1 : DAt K H x a) (h2 : DAt K H y b) (q : Q (.bl (DatumOrd.lt a b)) H) : rLtX α K x y H Q := ⟨a, b, h1, h2, q⟩
/-! ### min of a list of data: one of its items -/
def rMinX (α : Type) [DecidableEq α] [DatumOrd α] (K : PySem.W.Frag) : List V → Hp → VK → Prop := fun vs H Q => ∃ (a : Addr) (xs : List V) (b : α) (bs : List α), vs = [.ref a] ∧ SqL K H a xs ∧ DAll K H xs (b :: bs) ∧
  ∀ (i : Nat) (y : V), xs[i]? = some y → (b :: bs)[i]? = some (minOf b bs) → Q y H
theorem toD_inj {α : Type} [DecidableEq α] [Datum α] {a b : α} (h : (Datum.toD a) = Datum.toD b) : a = b := by
  have e := Datum.eqv a b
  have e2 := Datum.eqv b b
  rw [h, e2] at e
  simpa using e.symm
theorem holds_uniq {α : Type} [DecidableEq α] [Datum α] {h : Heap} {v : Value} {a b : α} (h1 : Holds h v a) (h2 : Holds h v b) : a = b := by
  obtain ⟨as, r1⟩ := h1
  obtain ⟨bs, r2⟩ := h2
  exact toD_inj (Reads.unique r1 _ _ r2).1
theorem cr_minX {α : Type} [DecidableEq α] [DatumOrd α] (hc : X.calm = true) (hu : X.A.units + 64 < cLine) (hd : Datum.depth α ≤ 62 := by decide) : CallR X (.builtin "min") (rMinX α X.K) := by
  intro pins s σ H vs us Q I r h
  obtain ⟨a, xs, b, bs, rfl, ha, hx, q⟩ := h
  obtain ⟨its, rv, e, z⟩ := I.list ha
  rw [Vals.ref1 r]
  refine PySem.W.min_list_datum (I.ok.hd hc) e.isList (by simpa using hx.holds I rv) (by show X.A.units + 1 + Datum.depth α < cLine; omega) fun i v h' tk hv hh k => ?_
  have hi : i < its.length := by
    have := (Array.getElem?_eq_some_iff.mp hv).1
    simpa using this
  have hv' : its[i]? = some v := by simpa using hv
  have hi2 : i < xs.length := by rw [rv.length]; exact hi
  have hi3 : i < (b :: bs).length := by rw [← hx.len]; exact hi2
  obtain ⟨u, hu1, ru⟩ := rv.get (List.getElem?_eq_getElem hi2)
  rw [hv'] at hu1
  cases hu1
  have I' : Inv X pins σ H { s with heap := h', toks := tk } := I.kept k
  have hd2 := hx.at (List.getElem?_eq_getElem hi2) (List.getElem?_eq_getElem hi3)
  have e3 := holds_uniq hh (hd2.holds I' ru)
  exact ⟨_, H, I', ru, q i _ (List.getElem?_eq_getElem hi2) (by rw [List.getElem?_eq_getElem hi3, e3])⟩
/-! ### sorted -/
def leX {α : Type} [DecidableEq α] [DatumOrd α] (a b : α) : Bool := !DatumOrd.lt b a
def rSortX (α : Type) [DecidableEq α] [DatumOrd α] (K : PySem.W.Frag) : List V → Hp → VK → Prop := fun vs H Q => ∃ (a : Addr) (zs : List (V × α)), vs = [.ref a] ∧ SqL K H a (zs.map (·.1)) ∧ (∀ z ∈ zs, DAt K H z.1 z.2) ∧ zs.length ≤ 50000 ∧ PySem.W.Sortable (zs.map fun z => Datum.toD z.2) ∧
  ∀ p, H p = none → Q (.ref p) (upd H p (.lst ((zs.mergeSort fun a b => leX a.2 b.2).map (·.1))))
theorem each_rel : ∀ {α : Type} {zs : List (V × α)} {us : List Value}, Vals (zs.map (·.1)) us → EachIs (fun u (z : V × α) => RelV z.1 u) us zs
  | _, [], _, r => by cases r; exact .nil
  | _, z :: zs, _, r => by
    cases r with
    | cons h t => exact .cons h (each_rel t)
theorem rel_each : ∀ {α : Type} {zs : List (V × α)} {us : List Value}, EachIs (fun u (z : V × α) => RelV z.1 u) us zs → Vals (zs.map (·.1)) us
  | _, [], _, r => by cases r; exact .nil
  | _, z :: zs, _, r => by
    cases r with
    | cons h t => exact .cons h (rel_each t)
theorem each_mono2 {β γ : Type} {R S : β → γ → Prop} : ∀ {us : List β} {zs : List γ}, EachIs R us zs → (∀ u z, z ∈ zs → R u z → S u z) → EachIs S us zs
  | _, [], r, _ => by cases r; exact .nil
  | _, z :: zs, r, h => by
    cases r with
    | cons p t => exact .cons (h _ z List.mem_cons_self p) (each_mono2 t fun u y hy => h u y (List.mem_cons_of_mem _ hy))
theorem le_data {α : Type} [DecidableEq α] [DatumOrd α] : (PySem.W.dataLe false fun z : V × α => Datum.toD z.2) = fun a b => leX a.2 b.2 := by
  funext a b
  show (!PySem.W.dataLt (Datum.toD b.2) (Datum.toD a.2)) = _
  rw [DatumOrd.lt_eq]
  rfl
theorem cr_sortX {α : Type} [DecidableEq α] [DatumOrd α] (hu : X.A.units + 100 < cLine) (hd : Datum.depth α ≤ 62 := by decide) : CallR X (.builtin "sorted") (rSortX α X.K) := by
  intro pins s σ H vs us Q I r h
  obtain ⟨a, zs, rfl, ha, hz, hl, hsk, q⟩ := h
  obtain ⟨its, rv, e, z⟩ := I.list ha
  rw [Vals.ref1 r]
  have e1 := each_rel rv
  refine PySem.W.sorted_data (R := fun u (z : V × α) => RelV z.1 u) (enc := fun z => Datum.toD z.2) e.isList e1 (each_mono2 e1 fun u z hm hr => (hz z hm).holds I hr)
    (PySem.W.AllAlike.of fun b b' => DatumOrd.alike b.2 b'.2) hsk (Evl.sz_of (by omega)) (fun b hb => by have := Datum.depth_le b.2; omega) fun out ho hs => ?_
  rw [le_data] at hs
  obtain ⟨ep, he'⟩ := PyProof.Rows.sortedAll_at s.heap its (List.toArray out)
  have hlen : ((zs.mergeSort fun a b => leX a.2 b.2).map (·.1)).length ≤ sizeLine := by rw [List.length_map, List.length_mergeSort]; exact Evl.sz_of (by omega)
  refine ⟨.ref _, upd H (s.heap.objs.size + 1) (.lst ((zs.mergeSort fun a b => leX a.2 b.2).map (·.1))), I.laid (t' := s.toks) (fun _ _ => PyProof.Rows.sortedAll_old) (Nat.le_succ _) ⟨hlen, out, ep, rel_each hs, he'⟩, rfl, q _ (I.hok.fresh (Nat.le_succ _))⟩
end
end TP

/-! N -/
set_option Elab.async false
set_option linter.all false
set_option maxRecDepth 100000
set_option maxHeartbeats 4000000
namespace TP
open PySem PySem.Spec PyProof.Rows L2
/-! ### != by an own == -/
section
variable {prog : Program} {w : World} {A : Around} {E : Value → Shared → Prop} {s : Shared} {K : PySem.W.Frag} {x C L f y : Addr} {h₀ : Heap} {m : Str → Option Value} {ox : Obj} {od : Option Obj}
theorem ne_check {M : Model} {rest : List Value} {Q : Unit → Shared → Prop} (X : K.In s.heap) (I : PySem.W.InstAt s.heap x ox C od) (hm : PySem.W.mroIn K C (.type "object") = some true) (ha : argsOk "object.__ne__" ⟨.ref x :: rest, []⟩)
    (q : Q () s) : wpAny M A (checkBuiltinCall "object.__ne__" ⟨.ref x :: rest, []⟩) Q E s := by
  simp only [checkBuiltinCall, F.cmpKind_ne, F.cmpSplit_ne]
  refine wpAny_bind ?_
  unfold isInstance
  refine wpAny_bind (I.type.here ((PySem.W.looks_mroIn X hm).here ?_))
  try simp only [Bool.not_true, Bool.false_eq_true, if_false]
  have fin : wpAny M A (match Manifest.signature? "object.__ne__" with
      | some sig => Bind.checkArgs "object.__ne__" sig ⟨.ref x :: rest, []⟩
      | none => pure ()) Q E s := by
    cases hsig : Manifest.signature? "object.__ne__" with
    | none => exact wpAny_pure q
    | some sig =>
      simp only [argsOk, hsig] at ha
      have h2 : Bind.checkArgs "object.__ne__" sig ⟨.ref x :: rest, []⟩ = pure () := ha
      show wpAny M A (Bind.checkArgs "object.__ne__" sig ⟨.ref x :: rest, []⟩) Q E _
      rw [h2]; exact wpAny_pure q
  first | exact fin | exact wpAny_bind (wpAny_pure fin) | exact wpAny_pure fin
theorem ne_entry (hu : A.units < cLine) (X : K.In s.heap) (I : PySem.W.InstAt s.heap x ox C od) (hs : PySem.W.findIn K (.ref C) "__eq__" = some (some (.ref f))) (hf : PySem.W.isFn K (.ref f) = true) {Q : Fin → Shared → Prop}
    (hcall : wpAny (model prog w) A (call (.ref f) [.ref x, .ref y]) (fun v s' => ∃ b, v = .bool b ∧ Q (.done (.ret (.bool (!b)))) s') E s) :
    wpAny (model prog w) A (Builtin.«object.__ne__» ⟨[.ref x, .ref y], []⟩) Q E s := by
  unfold Builtin.«object.__ne__»
  repeat (first
    | with_reducible refine wpAny_cRoomFor hu ?_
    | (refine wpAny_bind (m := callSpecialIfBound? (.ref x) (Str.ofString "__eq__") [.ref y])
        (PySem.W.ifBound_K X I hs hf (wpAny_mono hcall (fun v s' hr => by
          obtain ⟨b, rfl, hq⟩ := hr
          repeat (first | exact hq | exact wpAny_pure hq | exact wpAny_truthy_bool hq | (refine wpAny_bind (m := truthy (.bool _)) (wpAny_truthy_bool ?_)) | wp_step)) fun _ _ e => e)))
    | wp_step)
theorem ne_K {Q : Value → Shared → Prop} {oy : Obj} (hu : A.units + 1 < cLine) (X : K.In s.heap) (I : PySem.W.InstAt s.heap x ox C od) (hy : s.heap.get? y = some oy) (hyc : oy.cls = .ref C)
    (hs : PySem.W.findIn K (.ref C) "__eq__" = some (some (.ref f))) (hf : PySem.W.isFn K (.ref f) = true) (hn : PySem.W.findIn K (.ref C) "__ne__" = some (some (.builtin "object.__ne__"))) (hm : PySem.W.mroIn K C (.type "object") = some true)
    (h : wpAny (model prog w) A.in1 (call (.ref f) [.ref x, .ref y]) (fun v s' => ∃ b, v = .bool b ∧ Q (.bool (!b)) s') E s) : wpAny (model prog w) A (richCompare .NotEq (.ref x) (.ref y)) Q E s := by
  unfold richCompare
  simp only [oneThing_ref]
  refine wpAny_holding ?_
  refine wpAny_bind (wpAny_cRoomFor (Nat.lt_of_succ_lt hu) ?_)
  rw [cmpInfo_NotEq]
  dsimp only
  refine wpAny_bind (I.type.here ?_)
  refine wpAny_bind (wpAny_typeOf_ref hy ?_)
  rw [hyc]
  rw [show (Value.ref C != Value.ref C) = false from by simp]
  simp only [Bool.false_eq_true, if_false]
  refine wpAny_bind (wpAny_pure ?_)
  simp only [Bool.false_eq_true, if_false]
  have one : wpAny (model prog w) A (tryCompare (.ref x) "__ne__" (.ref y)) (fun r s' => ∃ v, r = some v ∧ Q v s') E s := by
    simp only [tryCompare]
    refine wpAny_bind ?_
    simp only [callSpecialIfBound?, bindSpecialIfBound?]
    refine wpAny_holding (wpAny_bind (wpAny_bind (wpAny_bind (I.type.here ((PySem.W.looks_findIn X hn).here ?_)))))
    simp only [F.cmp_object.ne.bind]
    refine wpAny_bind (wpAny_askSetting (wpAny_ite ?_))
    have fin : wpAny (model prog w) A (call (.builtin "object.__ne__") ([.ref x] ++ [.ref y]) >>= fun v => pure (some v)) (fun r s' => wpAny (model prog w) A (match r with
        | some Value.notImplemented => pure none
        | none => pure none
        | some v => pure (some v)) (fun r s' => ∃ v, r = some v ∧ Q v s') E s') E s := by
      refine wpAny_bind (wpAny_call (codeAny_call_builtin F.cmp_object.ne.plain F.cmpEntry_ne (ne_check X I hm (F.cmpArgs_ne _ _) (ne_entry (A := A.in1) (by exact hu) X I hs hf (wpAny_mono h (fun v s' hv => ?_) fun _ _ e => e)))))
      obtain ⟨b, rfl, hq⟩ := hv
      exact ⟨b, rfl, wpAny_pure (wpAny_pure ⟨_, rfl, hq⟩)⟩
    split
    · exact wpAny_bind (wpAny_pure (wpAny_pure (by exact fin)))
    · exact wpAny_tryCatch (wpAny_bind (wpAny_pure (wpAny_pure (by exact fin))))
  refine wpAny_bind (wpAny_mono one (fun r s' z => ?_) fun _ _ e => e)
  obtain ⟨v, rfl, hq⟩ := z
  exact wpAny_pure hq
end
/-- x != y, two of the class at C with the text's own == -/
def rNeO (C : Addr) (sp : Sp) (E : XK) : R2 := fun x y H Q => ∃ a b dx dy fs gs, x = .ref a ∧ y = .ref b ∧ H a = some (.ins C dx fs) ∧ H b = some (.ins C dy gs) ∧ sp [x, y] H (fun v H' => ∃ r, v = .bl r ∧ Q (.bl (!r)) H') E
theorem op_neO {X : Cx} {CX : CXT} {C f : Addr} {fd : FuncData} {ps : List Str} {sp : Sp} {E : XK} {n : Nat} (F : FnOk X.prog X.w X.K X.mg X.base CX n f fd ps sp) (hr : Room (n + 1) X.A)
    (hs : PySem.W.findIn X.K (.ref C) "__eq__" = some (some (.ref f))) (hf : PySem.W.isFn X.K (.ref f) = true) (hb : Binds X.K fd ps []) (hx : Passes CX X E)
    (hn : PySem.W.findIn X.K (.ref C) "__ne__" = some (some (.builtin "object.__ne__"))) (hm : PySem.W.mroIn X.K C (.type "object") = some true) : OpR X (compareOp .NotEq) (rNeO C sp E) := by
  intro pins s σ H x y v u Q I rx ry h
  obtain ⟨a, b, dx, dy, fs, gs, rfl, rfl, ha, hb', hsp⟩ := h
  cases rx
  cases ry
  obtain ⟨mA, J, _⟩ := ins_get I.hok ha
  obtain ⟨mB, J', _⟩ := ins_get I.hok hb'
  obtain ⟨od, J, _⟩ := J.look
  obtain ⟨od', J', _⟩ := J'.look
  have hrr : Room n X.A.in1 := (hr.in1).mono (by omega)
  show wpAny _ _ (richCompare .NotEq _ _) _ _ _
  refine ne_K (by have := hr.un; omega) I.kIn J J'.at_ J'.cls hs hf hn hm ?_
  have e0 : Env0 X.prog X.w X.K X.mg X.base X.A.in1 X.stack s H := by
    have e := I.env0
    exact ⟨e.frames, e.mod, e.bs, e.bsz, e.funs, e.frf, e.hok, e.bare⟩
  have hl := F.len _ _ _ _ hsp
  have r2 : Vals [V.ref a, V.ref b] [Value.ref a, Value.ref b] := .cons rfl (.cons rfl .nil)
  refine wpAny_call (codeAny_mono (F.run X.A.in1 X.stack s H ⟨[.ref a, .ref b], []⟩ [.ref a, .ref b] [.ref a, .ref b] _ E hrr e0 (by
    have := hb s [.ref a, .ref b] I.kIn (by simpa using hl)
    simpa using this) r2 hsp) fun r s' hq => ?_)
  cases r with
  | error e => exact hx pins σ H s e s' I hq
  | ok fl =>
    cases fl with
    | ret w =>
      obtain ⟨z, H', I', rz, r, ez, q⟩ := I.after hq
      subst ez
      cases rz
      exact ⟨r, rfl, .bl _, H', I', rfl, q⟩
    | next => exact False.elim hq
    | brk => exact False.elim hq
    | cont => exact False.elim hq
end TP

/-! E -/
set_option Elab.async false
set_option linter.all false
set_option maxRecDepth 100000
set_option maxHeartbeats 4000000
namespace TP
open PySem PySem.Spec PyProof.Rows L2
open AutoSeq1 (wpAny_loadPart')
/-! ### enumerate(t), t a tuple -/
theorem meets_enumerate_newT (l : Addr) (items : Array Value) (n : Nat) (dct : Option Addr) (sl : Array (Option Value)) :
    Meets (Builtin.«enumerate.__new__» ⟨[.type "enumerate", .ref l], []⟩) (fun _ R s => s.heap.get? l = some { cls := .type "tuple", dict := dct, data := .seq items n, slots := sl } ∧
      R (.ok (.ret (.ref (s.heap.push { cls := .type "tuple_iterator", data := .fields #[.ref l, .int 0 0] }).objs.size)))
        { s with heap := (s.heap.push { cls := .type "tuple_iterator", data := .fields #[.ref l, .int 0 0] }).push { cls := .type "enumerate", data := .fields #[.none, .bool false, .ref s.heap.objs.size, rawInt 0, .none, .none] } }) :=
  .of_wp fun prog w A R s h => by
    obtain ⟨hp, g, d, tk, os⟩ := s; obtain ⟨hl, h⟩ := h
    have hsub := sub_enumerate
    have hL : Heap.IsTuple (Shared.heap ⟨hp, g, d, tk, os⟩) l items := ⟨_, hl, rfl, n, rfl⟩
    wp_walk using wpAny_loadPart' hl
    refine wpAny_stack_any fun st => wpAny_pure ?_
    split
    · rename_i c _ _ _ _ _
      cases (c == Value.type "enumerate")
      · wp_walk using wpAny_loadPart' hl, wpAny_pyIter_tuple hL
        exact ⟨_, rfl, h⟩
      · wp_walk using wpAny_loadPart' hl, wpAny_pyIter_tuple hL
        exact ⟨_, rfl, h⟩
    · wp_walk using wpAny_loadPart' hl, wpAny_pyIter_tuple hL
      exact ⟨_, rfl, h⟩
section
variable {prog : Program} {w : World} {A : Around} {E : Value → Shared → Prop} {s : Shared}
theorem call_enumerate_tuple {l : Addr} {items : Array Value} {Q : Value → Shared → Prop} (hL : s.heap.IsTuple l items)
    (h : ∀ h', IsEnum h' (s.heap.objs.size + 1) s.heap.objs.size 0 .none → h'.IsTupleIter s.heap.objs.size l 0 → h'.objs.size = s.heap.objs.size + 2 →
      (∀ b o, s.heap.get? b = some o → h'.get? b = some o) → Q (.ref (s.heap.objs.size + 1)) { s with heap := h' }) :
    wpAny (model prog w) A (call (.type "enumerate") [.ref l]) Q E s := by
  obtain ⟨⟨c, dct, dt, sl⟩, hl, hc, n, hd⟩ := hL
  replace hc : c = .type "tuple" := hc
  replace hd : dt = .seq items n := hd
  subst hc hd
  refine callType_new F.called_enumerate (by decide) (F.typeCall_enumerate_1 _) (F.newCall_enumerate_1 _) (fun obj => F.args_object_init_2 obj _) F.entry_enumerate_new
    (meets_enumerate_newT l items n dct sl) ⟨hl, ?_⟩
  have hz : (s.heap.push { cls := .type "tuple_iterator", data := .fields #[.ref l, .int 0 0] }).objs.size = s.heap.objs.size + 1 := Heap.size_push ..
  show _ ∧ _
  rw [hz]
  have he : IsEnum ((s.heap.push { cls := .type "tuple_iterator", data := .fields #[.ref l, .int 0 0] }).push
      { cls := .type "enumerate", data := .fields #[.none, .bool false, .ref s.heap.objs.size, rawInt 0, .none, .none] }) (s.heap.objs.size + 1) s.heap.objs.size 0 .none := by
    have := Heap.get?_push_size (s.heap.push { cls := .type "tuple_iterator", data := .fields #[.ref l, .int 0 0] })
      (o := { cls := .type "enumerate", data := .fields #[.none, .bool false, .ref s.heap.objs.size, rawInt 0, .none, .none] }) rfl
    rw [hz] at this; exact this
  refine ⟨⟨_, he, rfl⟩, h _ he ⟨_, Heap.get?_push_of_some _ (Heap.get?_push_size _ rfl), rfl, rfl⟩ (by rw [Heap.size_push, hz]) fun b o x => Heap.get?_push_of_some _ (Heap.get?_push_of_some _ x)⟩
theorem enum_endT {e it l : Addr} {i : Nat} {items : Array Value} {old : Value} {Q : Option Value → Shared → Prop} (hh : A.handled = none)
    (he : IsEnum s.heap e it i old) (hit : s.heap.IsTupleIter it l i) (hl : s.heap.IsTuple l items) (hx : items[i]? = none)
    (hQ : ∀ h', Heap.ExtBut it s.heap h' → Q none { s with heap := h' }) : wpAny (model prog w) A (pyNext (.ref e)) Q E s := by
  have hT : s.TypeIs (.ref e) "enumerate" := ⟨_, he, rfl⟩
  unfold pyNext
  refine wpAny_bind (wpAny_attempt (wpAny_callSpecial?_slot (name := Str.ofString "__next__") hT F.slot_enumerate_next
    (wpAny_call_entry F.slot_enumerate_next hT F.entry_enumerate_next ?_ (F.args_enumerate_next_1 _))))
  show wpAny _ _ (field (.ref e) 2 >>= _) _ _ _
  refine wpAny_bind (wpAny_field he rfl (x := .ref it) rfl ?_)
  refine wpAny_bind (wpAny_nextOf_tuple_end hh hit hl hx fun h' x he' hx' => ?_)
  obtain ⟨o, ho, hc⟩ := hx'
  refine wpAny_bind (wpAny_isInstance (T := "StopIteration") (b := true) ⟨o, ho, hc⟩ isSubtype_stop ?_)
  exact wpAny_pure (hQ _ he')
end
/-- the tuple at a, each item in a new pair -/
def Itet (K : PySem.W.Frag) (a : Addr) : It :=
  ⟨fun i H => ∃ (xs : List V) (x : V), SqT K H a xs ∧ xs[i]? = some x, fun i H v H' => ∃ T x, v = .ref T ∧ H T = none ∧ H' = upd H T (.tup [.int (i : Nat), x]) ∧ ∀ xs, SqT K H a xs → xs[i]? = some x, fun i H => ∃ xs : List V, SqT K H a xs ∧ xs.length ≤ i⟩
theorem turn_enumT {P : Program} {w : World} {K : PySem.W.Frag} {elts : List Expr} {kk : Nat} {tpos : Pos} (a e it : Addr) :
    Turn P w K (.Tuple elts kk tpos) (Itet K a) [e, it] e (fun i h => (∃ old, IsEnum h e it ((i : Nat) : Int) old) ∧ h.IsTupleIter it a i ∧ e ≠ it ∧ e ≠ a ∧ a ≠ it) where
  mem := by simp
  obj := fun i h st b hb => by
    obtain ⟨⟨old, he⟩, ⟨o, ho, hc, hd⟩, _⟩ := st
    have e' : b = e ∨ b = it := by simpa using hb
    rcases e' with z | z
    · rw [z]; exact ⟨_, he, fun v q => nomatch q⟩
    · rw [z]; exact ⟨o, ho, fun v q => by rw [hd] at q; cases q⟩
  keep := fun i h h' st k => let ⟨⟨old, he⟩, hi, hne⟩ := st; ⟨⟨old, k e (by simp) _ he⟩, hi.at fun o q => k it (by simp) o q, hne⟩
  item := by
    intro X hP hw hK hc i pins s σ H E I hf st hg
    subst hP hw hK
    obtain ⟨⟨old, he⟩, hit, hne, hea, hai⟩ := st
    obtain ⟨xs, x, hq, hx⟩ := hg
    obtain ⟨its, rv, p, hz⟩ := I.tuple hq
    obtain ⟨u, hu, ru⟩ := rv.get hx
    have hel : e < s.heap.objs.size := Heap.lt_size he
    have hil : it < s.heap.objs.size := by obtain ⟨_, q, _⟩ := hit; exact Heap.lt_size q
    have hiu : i < its.length := (List.getElem?_eq_some_iff.mp hu).1
    have D := PySem.Draws.tuple (prog := X.prog) (w := X.w) (A := X.A.in1) (I.ok.hd hc) it a hai its.toArray
    refine wpAny_pyNext_enum_itemD D he ⟨hit, p⟩ (by simpa using hiu) hne (by simp [hne, hea]) fun y h' tk hP ho hst' hT hsz hk => ?_
    have hy : y = u := by
      have hP' : its[i]? = some y := by simpa using hP
      rw [hu] at hP'
      exact (Option.some.inj hP').symm
    subst hy
    refine ⟨_, rfl, wpAny_letOwnedTupleGo_enum (s := { s with heap := h', toks := tk + 1 }) ho fun h'' he' sb => ?_⟩
    have hT2 : h''.get? s.heap.objs.size = some { cls := .type "tuple", data := .seq #[.int i tk, y] } := (sb.2 _ (Nat.ne_of_gt hel)).trans hT
    have new : ObjOk X.prog X.w (upd H s.heap.objs.size (.tup [.int (i : Nat), x])) h'' s.heap.objs.size (.tup [.int (i : Nat), x]) :=
      ⟨by show 2 ≤ sizeLine; decide, [.int i tk, y], .cons ⟨_, rfl⟩ (.cons ru .nil), ⟨_, hT2, rfl, _, rfl⟩⟩
    have I1 : Inv X pins σ (upd H s.heap.objs.size (.tup [.int (i : Nat), x])) { s with heap := h'', toks := tk + 1 } :=
      I.turnedNew (ch := [e, it]) (fun b ob hb q => (sb.2 b (fun z => hb (by simp [z]))).trans (hk b ob (fun z => hb (by simp [z])) (fun z => hb (by simp [z])) q)) hf (Nat.le_refl _) new
    refine ⟨.ref s.heap.objs.size, _, I1, rfl, ⟨_, x, rfl, I.hok.fresh (Nat.le_refl _), rfl, fun ys hy => by rw [I.tuple_inj hy hq]; exact hx⟩, ⟨⟨y, ?_⟩, hst'.1.at fun o q => (sb.2 it (Ne.symm hne)).trans q, hne, hea, hai⟩, fun b hb => ?_⟩
    · have e1 : ((i + 1 : Nat) : Int) = (i : Int) + 1 := by omega
      rw [e1]; exact he'
    · have hb' : b < s.heap.objs.size := by
        have e' : b = e ∨ b = it := by simpa using hb
        rcases e' with z | z
        · rw [z]; exact hel
        · rw [z]; exact hil
      rw [upd_ne (Nat.ne_of_lt hb')]
      exact (hf b hb).1
  done := by
    intro X hP hw hK hc i pins s σ H E I hf st hg
    subst hP hw hK
    obtain ⟨⟨old, he⟩, hit, hne, hea, hai⟩ := st
    obtain ⟨xs, hq, hx⟩ := hg
    obtain ⟨its, rv, p, hz⟩ := I.tuple hq
    obtain ⟨f0, f1, f2, f3, f4, f5⟩ := hf it (by simp)
    have hl := rv.length
    exact enum_endT (I.ok.hd hc) he hit p (by simp; omega) fun h' eb => ⟨rfl, I.turned (t' := s.toks) (fun b o hb q => eb b o hb q) f0 f1 f3 f4 f5⟩
  self := fun A i s Q E st h => let ⟨⟨_, he⟩, _⟩ := st; wpAny_pyIter_enum he h
def iEnumT (K : PySem.W.Frag) (ta : TA) : TI := fun σ H R => ta σ H fun vs H1 => ∃ a xs, vs = [.ref a] ∧ SqT K H1 a xs ∧ R (Itet K a) H1
theorem pi_enumT {X : Cx} {e : Expr} {ta : TA} {p pos tpos : Pos} {elts : List Expr} {kk : Nat} (hg : Gl X "enumerate") (hm : X.mg "enumerate" = none) (ha : PA X [e] ta) (hs : starEach [e] X.env = [(false, eval e X.env)] := by rfl) :
    PI X (.Tuple elts kk tpos) (.Call (.Name "enumerate" p) [e] [] pos) (iEnumT X.K ta) := by
  refine ⟨fun pins s σ H R I h => ?_⟩
  refine Call_ (ld_blt I hg hm boot_enumerate (PyProof.Rows.callWith_type1 (thn (ha.run pos pins s σ H _ I h) fun us s1 ⟨vs, H1, I1, r1, q1⟩ => ?_) hs rfl))
  obtain ⟨a, xs, ex, hq, q⟩ := q1
  subst ex
  cases r1 with
  | cons r rr =>
    cases rr
    cases r
    obtain ⟨its, rv, p', hz⟩ := I1.tuple hq
    have hal : a < s1.heap.objs.size := by obtain ⟨_, e, _⟩ := p'; exact Heap.lt_size e
    refine call_enumerate_tuple p' fun h' he hit hsz hk => wpAny_pyIter_enum he ?_
    have I2 : Inv X pins σ H1 { s1 with heap := h' } := I1.kept (t' := s1.toks) hk
    refine ⟨s1.heap.objs.size + 1, [s1.heap.objs.size + 1, s1.heap.objs.size], _, _, H1, rfl, I2, turn_enumT a (s1.heap.objs.size + 1) s1.heap.objs.size, ⟨⟨.none, he⟩, hit, Nat.succ_ne_self _, Nat.ne_of_gt (Nat.lt_succ_of_lt hal), Nat.ne_of_lt hal⟩, fun b hb => ?_, q⟩
    have e' : b = s1.heap.objs.size + 1 ∨ b = s1.heap.objs.size := by simpa using hb
    have hle : s1.heap.objs.size ≤ b := by
      rcases e' with z | z
      · rw [z]; exact Nat.le_add_right _ _
      · rw [z]; exact Nat.le_refl _
    exact I1.fpOk hle (I1.hok.fresh hle)
/-! ### readings -/
section
variable {K : PySem.W.Frag} {H : Hp} {a : Addr} {xs : List V} {g : TG} {tb : TS} {D : Ends} {σ : L2.St}
theorem w_iE {ta : TA} {R : It → Hp → Prop} (h : ta σ H fun vs H1 => ∃ a xs, vs = [.ref a] ∧ SqL K H1 a xs ∧ R (Ite K a) H1) : iEnum K ta σ H R := h
theorem w_iET {ta : TA} {R : It → Hp → Prop} (h : ta σ H fun vs H1 => ∃ a xs, vs = [.ref a] ∧ SqT K H1 a xs ∧ R (Itet K a) H1) : iEnumT K ta σ H R := h
theorem for_enumL (Pv : Nat → L2.St → Hp → Prop) (h0 : Pv 0 σ H) (hl : ∀ i σ H, i ≤ xs.length → Pv i σ H → SqL K H a xs)
    (hs : ∀ i x T σ H H', xs[i]? = some x → Pv i σ H → H T = none → Ex H H' → H' T = some (.tup [.int (i : Nat), x]) → g (.ref T) σ H' fun σ2 H2 => tb { D with nx := Pv (i + 1), ct := Pv (i + 1), bk := D.nx } σ2 H2) (hd : ∀ σ H, Pv xs.length σ H → D.nx σ H) :
    ForG g tb D σ (Ite K a) H := by
  refine ⟨fun i m σ H => m = xs.length - i ∧ i ≤ xs.length ∧ Pv i σ H, ⟨xs.length, by simp, Nat.zero_le _, h0⟩, ?_⟩
  rintro i m σ H ⟨rfl, hi, p⟩
  have q := hl i σ H hi p
  by_cases hlt : i < xs.length
  · refine .inr ⟨⟨xs, xs[i], q, by simp [hlt]⟩, Pv (i + 1), fun σ' H' p' => ⟨xs.length - (i + 1), by omega, rfl, hlt, p'⟩, fun x H' y => ?_⟩
    obtain ⟨T, z, rfl, hT, rfl, hz⟩ := y
    exact hs i z T σ H _ (hz _ q) p hT (Evl.Ex.new hT) upd_same
  · have e : i = xs.length := by omega
    subst e
    exact .inl ⟨⟨xs, q, Nat.le_refl _⟩, hd σ H p⟩
theorem for_enumT (Pv : Nat → L2.St → Hp → Prop) (h0 : Pv 0 σ H) (hl : ∀ i σ H, i ≤ xs.length → Pv i σ H → SqT K H a xs)
    (hs : ∀ i x T σ H H', xs[i]? = some x → Pv i σ H → H T = none → Ex H H' → H' T = some (.tup [.int (i : Nat), x]) → g (.ref T) σ H' fun σ2 H2 => tb { D with nx := Pv (i + 1), ct := Pv (i + 1), bk := D.nx } σ2 H2) (hd : ∀ σ H, Pv xs.length σ H → D.nx σ H) :
    ForG g tb D σ (Itet K a) H := by
  refine ⟨fun i m σ H => m = xs.length - i ∧ i ≤ xs.length ∧ Pv i σ H, ⟨xs.length, by simp, Nat.zero_le _, h0⟩, ?_⟩
  rintro i m σ H ⟨rfl, hi, p⟩
  have q := hl i σ H hi p
  by_cases hlt : i < xs.length
  · refine .inr ⟨⟨xs, xs[i], q, by simp [hlt]⟩, Pv (i + 1), fun σ' H' p' => ⟨xs.length - (i + 1), by omega, rfl, hlt, p'⟩, fun x H' y => ?_⟩
    obtain ⟨T, z, rfl, hT, rfl, hz⟩ := y
    exact hs i z T σ H _ (hz _ q) p hT (Evl.Ex.new hT) upd_same
  · have e : i = xs.length := by omega
    subst e
    exact .inl ⟨⟨xs, q, Nat.le_refl _⟩, hd σ H p⟩
end
end TP

/-! F -/
set_option Elab.async false
set_option linter.all false
set_option maxRecDepth 100000
set_option maxHeartbeats 4000000
namespace TP
open PySem PySem.Spec PyProof.Rows L2
open PySem.W (Datum DatumOrd Holds HoldAll minOf maxOf Tup EachIs)
/-! ### t[:0:-1] -/
section
open HT
variable {prog : Program} {w : World} {A : Around} {E : Value → Shared → Prop} {s : Shared}
theorem adjust_back {n : Nat} (h : 0 < n) : Builtin.Slice.sliceAdjust none (some 0) (-1) (n : Int) = ((n : Int) - 1, 0) := by
  unfold Builtin.Slice.sliceAdjust
  simp only [show ((-1 : Int) < 0) = True from by simp, if_true, show ((0 : Int) < 0) = False from by simp, if_false]
  congr 1
  omega
theorem places_back {n : Nat} (h : 0 < n) : Builtin.Slice.slicePlaces ((n : Int) - 1) 0 (-1) = n - 1 := by
  unfold Builtin.Slice.slicePlaces
  have h1 : ¬ ((-1 : Int) > 0) := by decide
  simp only [h1, if_false, Int.neg_neg, Int.ediv_one]
  split <;> omega
theorem pick_back (xs : Array Value) (h : 0 < xs.size) : ((List.range (xs.size - 1)).filterMap fun (m : Nat) => xs[(((xs.size : Int) - 1) + (m : Int) * (-1)).toNat]?).toArray = ((xs.toList.drop 1).reverse).toArray := by
  congr 1
  apply List.ext_getElem?
  intro i
  have e : ∀ k, k ≤ xs.size - 1 → (List.range k).filterMap (fun (m : Nat) => xs[(((xs.size : Int) - 1) + (m : Int) * (-1)).toNat]?) = (List.range k).map fun m => xs[xs.size - 1 - m]! := by
    intro k hk
    induction k with
    | zero => rfl
    | succ k ih =>
      rw [List.range_succ, List.filterMap_append, List.map_append, ih (by omega)]
      congr 1
      have hm : (((xs.size : Int) - 1) + (k : Int) * (-1)).toNat = xs.size - 1 - k := by omega
      have hlt : xs.size - 1 - k < xs.size := by omega
      simp only [List.filterMap_cons, List.filterMap_nil, hm, Array.getElem?_eq_getElem hlt, List.map_cons, List.map_nil]
      congr 1
      rw [getElem!_pos xs _ hlt]
  rw [e _ (Nat.le_refl _), List.getElem?_map]
  by_cases hi : i < xs.size - 1
  · have hlt : xs.size - 1 - i < xs.size := by omega
    rw [List.getElem?_range hi, List.getElem?_reverse (by simp; omega)]
    simp only [Option.map_some, List.length_drop, Array.length_toList, List.getElem?_drop]
    rw [getElem!_pos xs _ hlt, Array.getElem?_toList, Array.getElem?_eq_getElem (by omega)]
    congr 2
    omega
  · rw [List.getElem?_eq_none (by simp; omega), List.getElem?_eq_none (by simp; omega)]
    rfl
theorem sliceApplied_back {sl : Addr} {vl vu vs : Value} {n : Nat} {Q : Int × Int × Nat → Shared → Prop} (hn : 0 < n) (hs : s.heap.IsSliceOf sl vl vu vs) (pl : IsPart vl none) (pu : IsPart vu (some 0)) (ps : IsPart vs (some (-1)))
    (h : Q ((n : Int) - 1, -1, n - 1) s) : wpAny (model prog w) A (Builtin.Slice.sliceApplied (.ref sl) (pure (n : Int))) Q E s := by
  obtain ⟨os, hos, hcs, hds⟩ := id hs
  unfold Builtin.Slice.sliceApplied Builtin.Slice.sliceFields
  refine wpAny_bind (wpAny_bind (wpAny_field hos hds (x := vl) rfl (wpAny_bind (wpAny_field hos hds (x := vu) rfl (wpAny_bind (wpAny_field hos hds (x := vs) rfl (wpAny_pure ?_)))))))
  refine wpAny_bind (slicePart_ ps ?_)
  show wpAny _ _ (if ((-1 : Int) == 0) = true then _ else _) _ _ s
  rw [if_neg (by decide)]
  refine wpAny_bind (slicePart_ pl (wpAny_bind (slicePart_ pu (wpAny_bind (wpAny_pure ?_)))))
  show wpAny _ _ (match Builtin.Slice.sliceAdjust none (some 0) (-1) (n : Int) with | (lo, hi) => pure (lo, (-1 : Int), Builtin.Slice.slicePlaces lo hi (-1))) _ _ s
  rw [adjust_back hn]
  show wpAny _ _ (pure ((n : Int) - 1, (-1 : Int), Builtin.Slice.slicePlaces ((n : Int) - 1) 0 (-1))) _ _ s
  rw [places_back hn]
  exact wpAny_pure h
theorem getItem_tuple_back {t sl : Addr} {items : Array Value} {vl vu vs : Value} {Q : Value → Shared → Prop} (hn : 0 < items.size) (ht : IsTup s.heap t items) (hs : s.heap.IsSliceOf sl vl vu vs) (pl : IsPart vl none) (pu : IsPart vu (some 0)) (ps : IsPart vs (some (-1)))
    (h : Q (.ref s.heap.objs.size) { s with heap := s.heap.push { cls := .type "tuple", data := .seq ((items.toList.drop 1).reverse).toArray } })
    (hsz : items.size ≤ sizeLine) : wpAny (model prog w) A (getItem (.ref t) (.ref sl)) Q E s := by
  have htake : sizeOk (.seq ((items.toList.drop 1).reverse).toArray) := by
    show ((items.toList.drop 1).reverse).toArray.size ≤ sizeLine
    rw [List.size_toArray, List.length_reverse, List.length_drop, Array.length_toList]
    omega
  obtain ⟨os, hos, hcs, hds⟩ := id hs
  have hTs : s.TypeIs (.ref sl) "slice" := ⟨os, hos, hcs⟩
  unfold getItem
  try with_reducible refine wpAny_holding ?_
  first | refine wpAny_bind (wpAny_pure ?_) | skip
  refine wpAny_bind (wpAny_sequenceKey ht.typeIs (by decide) ?_)
  refine wpAny_bind (wpAny_callSpecial?_slot (name := Str.ofString "__getitem__") ht.typeIs PyProof.Rows.slot_tuple_getitem
    (wpAny_call_entry PyProof.Rows.slot_tuple_getitem ht.typeIs entry_tuple_getitem ?_ (args_tuple_getitem _ _)))
  show wpAny _ _ (Builtin.Tuple.tupleItemsOf (.ref t) >>= _) _ _ s
  refine wpAny_bind (tupleItemsOf_ ht ?_)
  refine wpAny_bind (wpAny_typeOf hTs ?_)
  rw [if_pos (by decide)]
  refine wpAny_bind (sliceApplied_back hn hs pl pu ps ?_)
  have hno : ¬ (((items.size : Int) - 1 == 0 && (-1 : Int) == 1 && (items.size - 1) == items.size) = true) := by
    intro q
    rw [Bool.and_eq_true, Bool.and_eq_true] at q
    exact absurd q.1.2 (by decide)
  show wpAny _ _ (if ((items.size : Int) - 1 == 0 && (-1 : Int) == 1 && (items.size - 1) == items.size) = true then _ else _) _ _ s
  rw [if_neg hno, pick_back items hn]
  first
    | exact wpAny_bind (m := Builtin.Tuple.tupleExact _) (wpAny_newObj_type (wpAny_pure ⟨_, rfl, wpAny_pure h⟩) htake)
    | exact wpAny_bind (m := Builtin.Tuple.tupleExact _) (wpAny_newObj_type (wpAny_bind (wpAny_pure (wpAny_pure ⟨_, rfl, wpAny_pure h⟩))) htake)
    | exact wpAny_bind (wpAny_bind (m := Builtin.Tuple.tupleExact _) (wpAny_newObj_type (wpAny_pure (wpAny_pure ⟨_, rfl, wpAny_pure h⟩)) htake))
    | exact wpAny_bind (wpAny_bind (m := Builtin.Tuple.tupleExact _) (wpAny_newObj_type (wpAny_pure ⟨_, rfl, wpAny_pure h⟩) htake))
end
section
variable {X : Cx}
def tBackT (K : PySem.W.Frag) (te : TE) : TE := fun σ H Q => te σ H fun x H1 => ∃ a xs, x = .ref a ∧ SqT K H1 a xs ∧ 0 < xs.length ∧ ∀ p, H1 p = none → Q (.ref p) (upd H1 p (.tup (xs.drop 1).reverse))
theorem pe_backT {e : Expr} {te : TE} {k k0 : Nat} {p0 p1 p2 p3 pos : Pos} (he : PE X e te) : PE X (.Subscript e (.Slice none (some (.Constant (.int 0) k0 p0)) (some (.UnaryOp .USub (.Constant (.int 1) k p1) p2)) p3) pos) (tBackT X.K te) := by
  refine ⟨fun pins s σ H Q I h => ?_⟩
  refine Subscript_ (thn (he.run pins s σ H _ I h) fun v s1 ⟨x, H1, I1, r1, q1⟩ => ?_)
  obtain ⟨a, xs, ex, hx, hn, q⟩ := q1
  subst ex
  cases r1
  have hst : PO X (some (.UnaryOp .USub (.Constant (.int 1) k p1) p2)) (tPart (tUn (rU fun i => .int (-i)) (tC (.int 1)))) := po_some (pe_un un_neg pe_int)
  have hup : PO X (some (.Constant (.int 0) k0 p0)) (tPart (tC (.int 0))) := po_some pe_int
  refine wpAny_Slice (thn (po_none.run pins s1 σ H1 (fun o H2 => o = none ∧ H2 = H1) I1 ⟨rfl, rfl⟩) fun vl s2 ⟨l, H2, I2, pl, el, e2⟩ => ?_)
  subst el e2
  refine thn (hup.run pins s2 σ H2 (fun o H3 => o = some 0 ∧ H3 = H2) I2 ⟨0, rfl, rfl, rfl⟩) fun vu s3 ⟨u, H3, I3, pu, eu, e3⟩ => ?_
  subst eu e3
  refine thn (hst.run pins s3 σ H3 (fun o H4 => o = some (-1) ∧ H4 = H3) I3 ⟨1, rfl, -1, rfl, rfl, rfl⟩) fun vs s4 ⟨o, H4, I4, ps, eo, e4⟩ => ?_
  subst eo e4
  have I5 : Inv X pins σ H4 { s4 with heap := s4.heap.push { cls := .type "slice", data := .fields #[vl, vu, vs] } } := I4.kept (t' := s4.toks) fun b ob q => Heap.get?_push_of_some _ q
  obtain ⟨its, r, ht, hz⟩ := I5.tuple hx
  have hlen := r.length
  show wpAny (model X.prog X.w) X.A (subscriptTail e (.Slice none (some (.Constant (.int 0) k0 p0)) (some (.UnaryOp .USub (.Constant (.int 1) k p1) p2)) p3) (.ref a) (.ref s4.heap.objs.size)) (EP X pins σ Q) X.xe { s4 with heap := s4.heap.push { cls := .type "slice", data := .fields #[vl, vu, vs] } }
  refine tail_any (ops := [.ref a, .ref s4.heap.objs.size]) ht.typeIs (PyProof.Rows.slot_tuple_getitem.lookup) ?_ (by with_unfolding_all rfl)
  refine getItem_tuple_back (by rw [List.size_toArray]; omega) ht (Heap.IsSliceOf.new _ vl vu vs) pl pu ps ?_ (by rw [List.size_toArray]; omega)
  refine ⟨.ref _, _, I5.laid (t' := s4.toks) (o := .tup (xs.drop 1).reverse) (fun b ob q => Heap.get?_push_of_some _ q) (Nat.le_refl _) ?_, rfl, q _ (I5.hok.fresh (Nat.le_refl _))⟩
  exact ⟨by rw [List.length_reverse, List.length_drop]; omega, _, (r.drop 1).reverse, ⟨_, Heap.get?_push_size _ rfl, rfl, 0, rfl⟩⟩
end
/-! ### tuples cut and joined -/
section
variable {K : PySem.W.Frag} {H : Hp} {Q : VK} {a b : Addr} {xs ys : List V}
theorem w_sl {r : V → Option Int → Option Int → Hp → VK → Prop} {te : TE} {tl th : TO} {σ : L2.St} (h : te σ H fun x H1 => tl σ H1 fun l H2 => th σ H2 fun u H3 => r x l u H3 Q) : tSl r te tl th σ H Q := h
theorem w_noP {σ : L2.St} {R : Option Int → Hp → Prop} (h : R none H) : tNoPart σ H R := h
theorem w_part {σ : L2.St} {R : Option Int → Hp → Prop} {t : TE} (h : t σ H fun x H1 => ∃ i, x = .int i ∧ R (some i) H1) : tPart t σ H R := h
theorem w_pi {i : Int} {B : Int → Prop} (h : B i) : ∃ j, V.int i = .int j ∧ B j := ⟨i, rfl, h⟩
theorem cut_whole {lo hi : Option Int} (h : HT.sIx xs.length 0 lo = 0 ∧ HT.sIx xs.length xs.length hi = xs.length) : cutV xs lo hi = xs := by
  unfold cutV
  rw [h.1, h.2, List.drop_zero, Nat.sub_zero, List.take_length]
theorem w_slA {lo hi : Option Int} (h : SqT K H a xs) (q : ∀ p H', Ex H H' → SqT K H' p (cutV xs lo hi) → Q (.ref p) H') : rSlA K (.ref a) lo hi H Q :=
  ⟨a, xs, rfl, h, fun e => q a H (Evl.Ex.refl H) (by rw [cut_whole e]; exact h), fun _ p hp => q p _ (Evl.Ex.new hp) (st_at upd_same)⟩
theorem cut_from {i : Int} (h : 0 ≤ i) : cutV xs (some i) none = xs.drop i.toNat := by
  unfold cutV HT.sIx
  have h2 : ¬ i < 0 := by omega
  simp only [h2, if_false]
  apply List.ext_getElem?
  intro j
  rw [List.getElem?_take, List.getElem?_drop, List.getElem?_drop]
  by_cases hj : j < xs.length - (min i.toNat xs.length)
  · simp only [hj, if_true]
    congr 1
    omega
  · simp only [hj, if_false]
    exact (List.getElem?_eq_none (by omega)).symm
theorem cut_to {i : Int} (h : 0 ≤ i) : cutV xs none (some i) = xs.take i.toNat := by
  unfold cutV HT.sIx
  have h2 : ¬ i < 0 := by omega
  simp only [h2, if_false, List.drop_zero, Nat.sub_zero]
  apply List.ext_getElem?
  intro j
  rw [List.getElem?_take, List.getElem?_take]
  by_cases hj : j < i.toNat
  · by_cases hj2 : j < xs.length
    · rw [if_pos (by omega), if_pos hj]
    · rw [List.getElem?_eq_none (by omega)]; simp
  · rw [if_neg (by omega), if_neg hj]
theorem w_catA (h : SqT K H a xs) (h2 : SqT K H b ys) (z : xs.length + ys.length ≤ 100000) (q : ∀ p H', Ex H H' → SqT K H' p (xs ++ ys) → Q (.ref p) H') : rCatA K (.ref a) (.ref b) H Q :=
  ⟨a, b, xs, ys, rfl, rfl, h, h2, Evl.sz_of z, fun e => q b H (Evl.Ex.refl H) (by rw [e, List.nil_append]; exact h2), fun _ e => q a H (Evl.Ex.refl H) (by rw [e, List.append_nil]; exact h), fun _ _ p hp => q p _ (Evl.Ex.new hp) (st_at upd_same)⟩
end
/-! ### in a comprehension: what is asked does not name the block's own context -/
section
variable {X : Cx} {e tg : Expr} {es : List Expr}
theorem pe_cast {t t' : TE} (h : PE X e t) (q : t = t') : PE X e t' := q ▸ h
theorem pts_cast {t t' : TT} (h : PTs X es t) (q : t = t') : PTs X es t' := q ▸ h
theorem pg_cast {t t' : TG} (h : PG X tg t) (q : t = t') : PG X tg t' := q ▸ h
theorem blk_K {s : Shared} {H : Hp} {sc : Scope} {env : PySem.Env} {fp : List Addr} : (X.blk s H sc env fp).K = X.K := rfl
end
end TP

/-! W7 -/
set_option Elab.async false
set_option linter.all false
set_option maxRecDepth 100000
set_option maxHeartbeats 4000000
-- k_mem: a fact of the heap as it is now, from an older one; k_upd: one step of a reading; k_all: as many as go

namespace TP
open PySem PySem.Spec PyProof.Rows L2
open PySem.W (minOf maxOf Tup)
variable {P : Program} {w : World} {K : PySem.W.Frag} {mg : Str → Option Value} {base : Heap}
/-! ### classes made -/
structure MkC (P : Program) (w : World) (K : PySem.W.Frag) (mg : Str → Option Value) (base : Heap) (x : Str) (C : Addr) (k : Nat) (ps : List Str) (sp : Sp) : Prop where
  ex : ∃ (f : Addr) (fd : FuncData), FnOk P w K mg base CX0 k f fd ps sp ∧ Mk K C f ∧ mg x = some (.ref C) ∧ Binds K fd ps []
theorem pe_mk {X : Cx} {x : Str} {C : Addr} {k : Nat} {ps : List Str} {sp : Sp} {p pos : Pos} {e : Expr} {es : List Expr} {t : TA} (M : MkC X.prog X.w X.K X.mg X.base x C k ps sp) (hr : Room (k + 1) X.A) (hg : Gl X x) (ha : PA X (e :: es) t)
    (hdb : (x == ("__debug__" : Str)) = false := by decide) (he : starEach (e :: es) X.env = (false, eval e X.env) :: starEach es X.env := by rfl) (hpl : (backTo pos (starEach es X.env)).any (·.1) = false := by rfl) :
    PE X (.Call (.Name x p) (e :: es) [] pos) (tMake C sp [] E0 t) := by
  obtain ⟨f, fd, F, m, hm, b⟩ := M.ex
  exact pe_make m F hr hg hm b .nil pass0 ha hdb he hpl
theorem MkC.of {x nm qn : Str} {params : Arguments} {body : List Stmt} {scope : Scope} {C f : Addr} {k : Nat} {N ps : List Str} {sp : Sp}
    (d : ∃ fd, FunD K nm qn params body scope [] [] f fd) (m : Mk K C f) (g : mg x = some (.ref C)) (S : FnScope N ps scope) (len : ∀ vs H Q E, sp vs H Q E → vs.length = ps.length)
    (hb : ∀ (kV doc pm : Value) (an : Option Addr) (cdv ct : Value) (us : List Value), us.length = ps.length → bindArgs (PySem.W.fnOf nm qn params body scope .none kV doc pm an cdv ct) ⟨us, []⟩ = pure (ps.zip us))
    (hbody : ∀ (cdv : Value) (A : Around) (outer : List PySem.Env) (s : Shared) (H : Hp) (vs : List V) (Q : VK) (E : XK), Room k (A.deeper (envOfC qn scope s.heap.objs.size f cdv)) → sp vs H Q E →
      ∃ t, PSs (cxOf CX0 P w K mg base N qn scope f cdv A outer s H E).nox body t ∧ t { nx := fun _ H' => Q .non H', rt := Q } (start N vs) H) : MkC P w K mg base x C (k + 1) ps sp := by
  obtain ⟨fd, F⟩ := d
  refine ⟨f, fd, F.ok S len fun cdv A outer s H vs Q E hr h => ?_, m, g, F.bindsN hb⟩
  obtain ⟨t, h1, h2⟩ := hbody cdv A outer s H vs Q E hr h
  exact ⟨t, h1.nox, h2⟩
/-- a method of a class that an operator calls -/
structure OpC (P : Program) (w : World) (K : PySem.W.Frag) (mg : Str → Option Value) (base : Heap) (m : Str) (C : Addr) (k : Nat) (ps : List Str) (sp : Sp) : Prop where
  ex : ∃ (f : Addr) (fd : FuncData), FnOk P w K mg base CX0 k f fd ps sp ∧ Meth K C m f ∧ Binds K fd ps []
theorem OpC.of {m nm qn : Str} {params : Arguments} {body : List Stmt} {scope : Scope} {C f : Addr} {k : Nat} {N ps : List Str} {sp : Sp}
    (d : ∃ fd, FunD K nm qn params body scope [] [] f fd) (mt : Meth K C m f) (S : FnScope N ps scope) (len : ∀ vs H Q E, sp vs H Q E → vs.length = ps.length)
    (hb : ∀ (kV doc pm : Value) (an : Option Addr) (cdv ct : Value) (us : List Value), us.length = ps.length → bindArgs (PySem.W.fnOf nm qn params body scope .none kV doc pm an cdv ct) ⟨us, []⟩ = pure (ps.zip us))
    (hbody : ∀ (cdv : Value) (A : Around) (outer : List PySem.Env) (s : Shared) (H : Hp) (vs : List V) (Q : VK) (E : XK), Room k (A.deeper (envOfC qn scope s.heap.objs.size f cdv)) → sp vs H Q E →
      ∃ t, PSs (cxOf CX0 P w K mg base N qn scope f cdv A outer s H E).nox body t ∧ t { nx := fun _ H' => Q .non H', rt := Q } (start N vs) H) : OpC P w K mg base m C (k + 1) ps sp := by
  obtain ⟨fd, F⟩ := d
  refine ⟨f, fd, F.ok S len fun cdv A outer s H vs Q E hr h => ?_, mt, F.bindsN hb⟩
  obtain ⟨t, h1, h2⟩ := hbody cdv A outer s H vs Q E hr h
  exact ⟨t, h1.nox, h2⟩
theorem op_neC {X : Cx} {C : Addr} {k : Nat} {ps : List Str} {sp : Sp} (O : OpC X.prog X.w X.K X.mg X.base "__eq__" C k ps sp) (hr : Room (k + 1) X.A) (hn : PySem.W.findIn X.K (.ref C) "__ne__" = some (some (.builtin "object.__ne__")))
    (hm : PySem.W.mroIn X.K C (.type "object") = some true) : OpR X (compareOp .NotEq) (rNeO C sp E0) := by
  obtain ⟨f, fd, F, m, b⟩ := O.ex
  exact op_neO F hr m.at_ m.fn b pass0 hn hm
theorem w_fS {K : PySem.W.Frag} {ta tv : TE} {f : Str} {D : Ends} {σ : L2.St} {H : Hp} (h : tv σ H fun y H1 => ta σ H1 fun x H2 => ∃ a C dx fs, x = .ref a ∧ H2 a = some (.ins C dx fs) ∧ Cls K C ∧ NoAttr K C f ∧ fs.length < 1000 ∧ D.nx σ (upd H2 a (.ins C dx (putF f y fs)))) : sFld K ta tv f D σ H := h
/-! ### Strip -/
def stF (f a lo hi : V) : List (Str × V) := putF "high" hi (putF "low" lo (putF "direction" a (putF "face" f [])))
theorem stF_face {f a lo hi : V} : (stF f a lo hi).lookup ("face" : Str) = some f := by
  unfold stF
  rw [lookup_putF, if_neg (by decide), lookup_putF, if_neg (by decide), lookup_putF, if_neg (by decide), lookup_putF, if_pos rfl]
theorem stF_direction {f a lo hi : V} : (stF f a lo hi).lookup ("direction" : Str) = some a := by
  unfold stF
  rw [lookup_putF, if_neg (by decide), lookup_putF, if_neg (by decide), lookup_putF, if_pos rfl]
theorem stF_low {f a lo hi : V} : (stF f a lo hi).lookup ("low" : Str) = some lo := by
  unfold stF
  rw [lookup_putF, if_neg (by decide), lookup_putF, if_pos rfl]
theorem stF_high {f a lo hi : V} : (stF f a lo hi).lookup ("high" : Str) = some hi := by
  unfold stF
  rw [lookup_putF, if_pos rfl]
theorem w_sfF {p dx : Addr} {vf vd vl vh : V} {B : V → Prop} {H : Hp} (E : Env K mg) (h : H p = some (.ins (He.ga K "Strip") dx (stF vf vd vl vh))) (q : B vf) :
    ∃ a' C dx fs v, V.ref p = V.ref a' ∧ H a' = some (.ins C dx fs) ∧ Cls K C ∧ NoAttr K C "face" ∧ fs.lookup ("face" : Str) = some v ∧ B v := w_fl h E.c_Strip E.n_Strip_face stF_face q
theorem w_sfD {p dx : Addr} {vf vd vl vh : V} {B : V → Prop} {H : Hp} (E : Env K mg) (h : H p = some (.ins (He.ga K "Strip") dx (stF vf vd vl vh))) (q : B vd) :
    ∃ a' C dx fs v, V.ref p = V.ref a' ∧ H a' = some (.ins C dx fs) ∧ Cls K C ∧ NoAttr K C "direction" ∧ fs.lookup ("direction" : Str) = some v ∧ B v := w_fl h E.c_Strip E.n_Strip_direction stF_direction q
theorem w_sfL {p dx : Addr} {vf vd vl vh : V} {B : V → Prop} {H : Hp} (E : Env K mg) (h : H p = some (.ins (He.ga K "Strip") dx (stF vf vd vl vh))) (q : B vl) :
    ∃ a' C dx fs v, V.ref p = V.ref a' ∧ H a' = some (.ins C dx fs) ∧ Cls K C ∧ NoAttr K C "low" ∧ fs.lookup ("low" : Str) = some v ∧ B v := w_fl h E.c_Strip E.n_Strip_low stF_low q
theorem w_sfH {p dx : Addr} {vf vd vl vh : V} {B : V → Prop} {H : Hp} (E : Env K mg) (h : H p = some (.ins (He.ga K "Strip") dx (stF vf vd vl vh))) (q : B vh) :
    ∃ a' C dx fs v, V.ref p = V.ref a' ∧ H a' = some (.ins C dx fs) ∧ Cls K C ∧ NoAttr K C "high" ∧ fs.lookup ("high" : Str) = some v ∧ B v := w_fl h E.c_Strip E.n_Strip_high stF_high q
def spMkStrip (C : Addr) : Sp := fun vs H Q _ => ∃ x dx f a lo hi, vs = [.ref x, f, a, lo, hi] ∧ H x = some (.ins C dx []) ∧ Q .non (upd H x (.ins C dx (stF f a lo hi)))
theorem M_Strip (E : Env K mg) : MkC P w K mg base "Strip" (He.ga K "Strip") 1 ["self", "face", "direction", "low", "high"] (spMkStrip (He.ga K "Strip")) := by
  refine .of E.d_Strip_init E.m_Strip E.g_Strip sc_Strip_init (fun vs H Q E h => ?_) (fun _ _ _ _ _ _ us hl => match us, hl with | [_, _, _, _, _], _ => rfl) (fun cdv A outer s0 H vs Q E' hr h => ?_)
  · obtain ⟨x, dx, f, a, lo, hi, rfl, _⟩ := h
    rfl
  · obtain ⟨x, dx, f, a, lo, hi, rfl, hx, q⟩ := h
    refine ⟨_, (pss_cons (ps_fld (pv 0) (pv 1) rfl)
      (pss_cons (ps_fld (pv 0) (pv 2) rfl)
      (pss_cons (ps_fld (pv 0) (pv 3) rfl)
      (pss_one (ps_fld (pv 0) (pv 4) rfl))))), ?_⟩
    k_all
    refine w_fS ?_
    k_all
    refine ⟨_, _, _, _, rfl, hx, E.c_Strip, E.n_Strip_face, by simp, ?_⟩
    k_all
    refine w_fS ?_
    k_all
    refine ⟨_, _, _, _, rfl, upd_same, E.c_Strip, E.n_Strip_direction, by have := length_putF "face" f []; simp at this; omega, ?_⟩
    rw [upd_upd]
    k_all
    refine w_fS ?_
    k_all
    refine ⟨_, _, _, _, rfl, upd_same, E.c_Strip, E.n_Strip_low, by have := length_putF "face" f []; have h2 := length_putF "direction" a (putF "face" f []); simp at this; omega, ?_⟩
    rw [upd_upd]
    k_all
    dsimp only
    refine w_fS ?_
    k_all
    refine ⟨_, _, _, _, rfl, upd_same, E.c_Strip, E.n_Strip_high, by have := length_putF "face" f []; have h2 := length_putF "direction" a (putF "face" f []); have h3 := length_putF "low" lo (putF "direction" a (putF "face" f [])); simp at this; omega, ?_⟩
    rw [upd_upd]
    k_all
    exact q

theorem w_mkS {H : Hp} {f a lo hi : V} {Q : VK} (q : ∀ x dx H', H x = none → Ex H H' → H' x = some (.ins (He.ga K "Strip") dx (stF f a lo hi)) → Q (.ref x) H') :
    ∀ x dx, H x = none → H dx = none → dx ≠ x → spMkStrip (He.ga K "Strip") (.ref x :: ([f, a, lo, hi] ++ [])) (upd (upd H dx (.own x)) x (.ins (He.ga K "Strip") dx [])) (fun v H2 => v = .non ∧ Q (.ref x) H2) E0 := by
  intro x dx hx hdx ne
  refine ⟨x, dx, f, a, lo, hi, rfl, upd_same, rfl, ?_⟩
  rw [upd_upd]
  have e1 : Ex H (upd H dx (.own x)) := Evl.Ex.new hdx
  have n2 : (upd H dx (.own x)) x = none := by rw [upd_ne (fun e => ne e.symm)]; exact hx
  exact q x dx _ hx (e1.trans (Evl.Ex.new n2)) upd_same
theorem w_mk {C : Addr} {sp : Sp} {dvs : List V} {E : XK} {t : TA} {σ : L2.St} {H : Hp} {Q : VK} (h : t σ H fun vs H1 => ∀ x dx, H1 x = none → H1 dx = none → dx ≠ x → sp (.ref x :: (vs ++ dvs)) (upd (upd H1 dx (.own x)) x (.ins C dx [])) (fun v H2 => v = .non ∧ Q (.ref x) H2) E) : tMake C sp dvs E t σ H Q := h
/-- a Strip -/
structure StV where
  face : Int
  dir : T3
  low : Int
  high : Int
  deriving DecidableEq
def StAt (K : PySem.W.Frag) (H : Hp) (v : V) (t : StV) : Prop := ∃ p dx a, v = .ref p ∧ H p = some (.ins (He.ga K "Strip") dx (stF (.int t.face) (.ref a) (.int t.low) (.int t.high))) ∧ SqT K H a (vi (T3.l t.dir))
theorem StAt.mono {H H' : Hp} {v : V} {t : StV} (h : StAt K H v t) (e : Ex H H') : StAt K H' v t := by
  obtain ⟨p, dx, a, e1, h1, h2⟩ := h
  exact ⟨p, dx, a, e1, e p _ h1, ex_t e h2⟩
theorem T3.l_inj {d e : T3} : (Tup.mk (T3.l d) = Tup.mk (T3.l e)) ↔ d = e := by
  constructor
  · intro h
    obtain ⟨a, b, c⟩ := d
    obtain ⟨a', b', c'⟩ := e
    simp only [Tup.mk.injEq, T3.l, List.cons.injEq, and_true] at h
    obtain ⟨rfl, rfl, rfl⟩ := h
    rfl
  · rintro rfl
    rfl
theorem if_decV {p : Prop} [Decidable p] {Q : V → Hp → Prop} {H : Hp} {b : Bool} (h : b = decide p) (q : Q (.bl (decide p)) H) : Q (.bl b) H := h ▸ q
def spStEq (K : PySem.W.Frag) : Sp := fun vs H Q _ => ∃ v u s t, vs = [v, u] ∧ StAt K H v s ∧ StAt K H u t ∧ Q (.bl (decide (s = t))) H
theorem isoB_ty (h : isoB K x = true) {H : Hp} {a dx : Addr} {fs : List (Str × V)} (c : Cls K (He.ga K x)) (ha : H a = some (.ins (He.ga K x) dx fs)) : TyX K H (.ref a) (.ref (He.ga K x)) ∧ PySem.W.kitOne K (.ref (He.ga K x)) (.ref (He.ga K x)) = some true ∧
    PySem.W.findIn K (.ref (He.ga K x)) "__ne__" = some (some (.builtin "object.__ne__")) ∧ PySem.W.mroIn K (He.ga K x) (.type "object") = some true := by
  unfold isoB at h
  obtain ⟨h, h2⟩ := He.ba h
  obtain ⟨h0, h1⟩ := He.ba h
  obtain ⟨h3, h4⟩ := He.ba h2
  obtain ⟨h5, h6⟩ := He.ba h4
  obtain ⟨h7, h8⟩ := He.ba h6
  exact ⟨.base (.ins ha c (He.eqO_ok h1) (He.eqO_ok h3) (of_decide_eq_true h5) (of_decide_eq_true h7)), of_decide_eq_true h8, He.eqO_ok h0, of_decide_eq_true h7⟩
theorem isoB_ne (h : isoB K x = true) : PySem.W.findIn K (.ref (He.ga K x)) "__ne__" = some (some (.builtin "object.__ne__")) ∧ PySem.W.mroIn K (He.ga K x) (.type "object") = some true := by
  unfold isoB at h
  obtain ⟨h, h2⟩ := He.ba h
  obtain ⟨h0, h1⟩ := He.ba h
  obtain ⟨h3, h4⟩ := He.ba h2
  obtain ⟨h5, h6⟩ := He.ba h4
  obtain ⟨h7, h8⟩ := He.ba h6
  exact ⟨He.eqO_ok h0, of_decide_eq_true h7⟩
theorem O_Strip_eq (E : Env K mg) : OpC P w K mg base "__eq__" (He.ga K "Strip") 1 ["self", "other"] (spStEq K) := by
  refine .of E.d_Strip_eq E.e_Strip sc_Strip_eq (fun vs H Q E h => ?_) (fun _ _ _ _ _ _ us hl => match us, hl with | [_, _], _ => rfl) (fun cdv A outer s0 H vs Q E' hr h => ?_)
  · obtain ⟨v, u, s, t, rfl, _⟩ := h
    rfl
  · obtain ⟨v, u, s, t, rfl, ⟨p, dx, a, rfl, hp, ha⟩, ⟨p2, dx2, a2, rfl, hp2, ha2⟩, q⟩ := h
    refine ⟨_, (pss_one (ps_ret (pe_and (pe_callB call_isi (by rfl) E.b_isinstance (by decide +kernel) (pa_cons (pv 1) (pa_cons (pe_glob (v := .ref (He.ga K "Strip")) rfl E.g_Strip rfl) pa_nil))) (pe_and (pe_cmpR op_eq (pe_fld (pv 0) (by rfl)) (pe_fld (pv 1) (by rfl)) (nomark _)) (pe_and (pe_cmpR (op_eqX (α := Tup Int) hr.units) (pe_fld (pv 0) (by rfl)) (pe_fld (pv 1) (by rfl)) (nomark _)) (pe_and (pe_cmpR op_eq (pe_fld (pv 0) (by rfl)) (pe_fld (pv 1) (by rfl)) (nomark _)) (pe_one (pe_cmpR op_eq (pe_fld (pv 0) (by rfl)) (pe_fld (pv 1) (by rfl)) (nomark _))))))))), ?_⟩
    k_all
    obtain ⟨ty, k1, _⟩ := isoB_ty E.iso_Strip E.c_Strip hp2
    refine ⟨_, _, _, _, true, rfl, .own _, ty, k1, ?_⟩
    refine w_bl (b := true) (iteT ?_)
    k_all
    refine w_fl hp E.c_Strip E.n_Strip_face stF_face ?_
    k_all
    refine w_fl hp2 E.c_Strip E.n_Strip_face stF_face ?_
    k_all
    refine if_int (fun h1 => ?_) (fun h1 => ?_)
    · k_all
      refine w_fl hp E.c_Strip E.n_Strip_direction stF_direction ?_
      k_all
      refine w_fl hp2 E.c_Strip E.n_Strip_direction stF_direction ?_
      refine w_eqX (Tup.mk (T3.l s.dir)) (Tup.mk (T3.l t.dir)) (d_ints ha) (d_ints ha2) ?_
      k_all
      refine if_dec (fun h2 => ?_) (fun h2 => ?_)
      · k_all
        refine w_fl hp E.c_Strip E.n_Strip_low stF_low ?_
        k_all
        refine w_fl hp2 E.c_Strip E.n_Strip_low stF_low ?_
        k_all
        refine if_int (fun h3 => ?_) (fun h3 => ?_)
        · k_all
          refine w_fl hp E.c_Strip E.n_Strip_high stF_high ?_
          k_all
          refine w_fl hp2 E.c_Strip E.n_Strip_high stF_high ?_
          k_all
          have e : (decide (V.int s.high = V.int t.high)) = decide (s = t) := by
            refine decide_eq_decide.mpr ⟨fun h4 => ?_, fun h4 => by rw [h4]⟩
            have h2' := T3.l_inj.mp h2
            have h4' := V.int.inj h4
            obtain ⟨s1, s2, s3, s4⟩ := s
            obtain ⟨t1, t2, t3, t4⟩ := t
            simp only at h1 h2' h3 h4'
            rw [h1, h2', h3, h4']
          rw [e]
          exact q
        · have e : decide (s = t) = false := decide_eq_false fun h => h3 (by rw [h])
          rw [e] at q
          exact q
      · have e : decide (s = t) = false := decide_eq_false fun h => h2 (by rw [h])
        rw [e] at q
        exact q
    · have e : decide (s = t) = false := decide_eq_false fun h => h1 (by rw [h])
      rw [e] at q
      exact q
end TP

/-! W8 -/
set_option Elab.async false
set_option linter.all false
set_option maxRecDepth 100000
set_option maxHeartbeats 4000000
-- k_mem: a fact of the heap as it is now, from an older one; k_upd: one step of a reading; k_all: as many as go
local macro_rules | `(tactic| k_mem) => `(tactic| first | assumption | exact TP.st_at (by assumption) | exact TP.sl_at (by assumption) | (refine TP.ex_t (by assumption) ?_; k_mem) | (refine TP.ex_l (by assumption) ?_; k_mem) | (refine TP.ex_o (by assumption) ?_; k_mem))
local macro_rules | `(tactic| k_subL) => `(tactic| (generalize hG : L2.upd _ _ _ = HN; (have eN := TP.ex_of hG (by assumption)); (have aN := TP.at_of hG); clear hG))
set_option hygiene false in
local macro_rules | `(tactic| k_upd) => `(tactic| first
  | with_reducible refine TP.w_seq ?_
  | with_reducible refine TP.w_asg ?_
  | with_reducible refine TP.w_ret ?_
  | with_reducible refine TP.w_drop ?_
  | with_reducible refine TP.w_gn ?_
  | ((with_reducible refine' TP.w_var ?h ?_); (case h => k_dflt rfl))
  | with_reducible refine TP.w_c ?_
  | with_reducible refine TP.w_op ?_
  | with_reducible refine TP.w_un ?_
  | with_reducible refine TP.w_U ?_
  | with_reducible refine TP.w_I0 ?_
  | ((with_reducible refine TP.w_I ?h ?_); (case h => first | (k_dflt (exact TP.cmul_r (by omega))) | (k_dflt (exact TP.cmul_l (by omega))) | (k_dflt (exact TP.cdiv (by omega))) | (k_dflt (show (0 : Int) < _; omega)) | trivial | (k_dflt omega) | (k_dflt decide) | (k_dflt assumption)))
  | ((with_reducible refine TP.w_eq ?h ?_); (case h => k_dflt rfl))
  | ((with_reducible refine TP.w_ne ?h ?_); (case h => k_dflt rfl))
  | with_reducible refine TP.w_test ?_
  | with_reducible refine TP.w_tB ?_
  | with_reducible refine TP.w_bl ?_
  | with_reducible refine TP.w_ifS ?_
  | with_reducible refine TP.w_if ?_
  | with_reducible refine TP.w_not ?_
  | with_reducible refine TP.w_and ?_
  | with_reducible refine TP.w_or ?_
  | with_reducible refine TP.w_andV ?_
  | with_reducible refine TP.w_orV ?_
  | with_reducible refine TP.w_next ?_
  | with_reducible refine TP.w_cons ?_
  | with_reducible refine TP.w_nil ?_
  | with_reducible refine TP.w_for ?_
  | with_reducible refine TP.w_iL ?_
  | with_reducible refine TP.w_iT ?_
  | with_reducible refine TP.w_r1 ?_
  | with_reducible refine TP.w_r2 ?_
  | ((with_reducible refine TP.w_itR ?h ?_); (case h => k_dflt omega))
  | ((with_reducible refine TP.w_itR2 ?h ?_); (case h => k_dflt omega))
  | with_reducible refine TP.w_bm ?_
  | ((with_reducible refine' TP.w_ty ?h ?_); (case h => k_mem))
  | with_reducible refine TP.w_cb ?_
  | with_reducible refine TP.w_call ?_
  | with_reducible refine TP.w_tup ?_
  | with_reducible refine TP.w_lst ?_
  | ((with_reducible refine TP.w_new ?h ?_); (case h => (k_dflt (exact Nat.le_of_ble_eq_true rfl))); (intro _ _); k_subL)
  | ((with_reducible refine' TP.w_ixT ?h ?e ?_); (case h => k_mem); (case e => k_dflt rfl))
  | ((with_reducible refine' TP.w_ixL ?h ?e ?_); (case h => k_mem); (case e => k_dflt rfl))
  | ((with_reducible refine' TP.w_ixA ?h ?e ?_); (case h => first | assumption | exact .inl (by k_mem) | exact .inr (by k_mem)); (case e => k_dflt rfl))
  | ((with_reducible refine' TP.w_gT ?h ?e ?_); (case h => k_mem); (case e => k_dflt rfl))
  | with_reducible refine TP.w_gS ?_
  | with_reducible refine TP.w_gc ?_
  | with_reducible refine TP.w_gnil ?_
  | with_reducible refine TP.w_gci ?_
  | with_reducible refine TP.w_gni ?_
  | with_reducible refine TP.w_fld ?_
  | ((with_reducible refine TP.w_tt ?_); (try dsimp only))
  | (with_reducible refine TP.w_par ?_)
  | (with_reducible refine TP.w_swap ?_)
  | with_reducible refine TP.if_nnI ?_
  | with_reducible refine TP.if_nnR ?_
  | with_reducible refine TP.if_nn0 ?_
  | with_reducible refine TP.if_nT ?_
  | with_reducible refine TP.if_nF ?_
  | with_reducible refine TP.w_mk ?_
  | with_reducible refine TP.w_sl ?_
  | with_reducible refine TP.w_noP ?_
  | with_reducible refine TP.w_part ?_
  | with_reducible refine TP.w_pi ?_
  | with_reducible refine TP.w_iE ?_
  | with_reducible refine TP.w_iET ?_
  | ((with_reducible refine' TP.w_sfF ?e ?h ?_); (case e => assumption); (case h => k_mem))
  | ((with_reducible refine' TP.w_sfD ?e ?h ?_); (case e => assumption); (case h => k_mem))
  | ((with_reducible refine' TP.w_sfL ?e ?h ?_); (case e => assumption); (case h => k_mem))
  | ((with_reducible refine' TP.w_sfH ?e ?h ?_); (case e => assumption); (case h => k_mem))
  | with_reducible refine L2.iteT ?_
  | with_reducible refine L2.iteF ?_)
local macro_rules | `(tactic| k_all) => `(tactic| repeat k_upd)
namespace TP
open PySem PySem.Spec PyProof.Rows L2
open PySem.W (minOf maxOf Tup)
variable {P : Program} {w : World} {K : PySem.W.Frag} {mg : Str → Option Value} {base : Heap}
/-! ### onward -/
def onwardBy (s : T3) (t : StV) (g : Int) : Option StV :=
  if minOf (edgeEnds s t.face g t.dir).1 [(edgeEnds s t.face g t.dir).2] ≤ t.low ∧ t.high ≤ maxOf (edgeEnds s t.face g t.dir).1 [(edgeEnds s t.face g t.dir).2] then
    some ⟨g, goneOver t.face g t.dir, t.low + ((edgeEnds s g t.face (goneOver t.face g t.dir)).1 - (edgeEnds s t.face g t.dir).1), t.high + ((edgeEnds s g t.face (goneOver t.face g t.dir)).1 - (edgeEnds s t.face g t.dir).1)⟩
  else none
def onward (s : T3) (t : StV) : Option StV := (leaving t.face t.dir).findSome? (onwardBy s t)
theorem T3.get_set (t : T3) (i v j : Int) : (t.set i v).get j = v ∨ (t.set i v).get j = t.get j := by
  unfold T3.set T3.get
  by_cases h0 : i = 0
  · rw [if_pos h0]
    by_cases j0 : j = 0
    · rw [if_pos j0]; exact .inl rfl
    · rw [if_neg j0, if_neg j0]; exact .inr rfl
  · rw [if_neg h0]
    by_cases h1 : i = 1
    · rw [if_pos h1]
      by_cases j0 : j = 0
      · rw [if_pos j0, if_pos j0]; exact .inr rfl
      · rw [if_neg j0, if_neg j0]
        by_cases j1 : j = 1
        · rw [if_pos j1]; exact .inl rfl
        · rw [if_neg j1, if_neg j1]; exact .inr rfl
    · rw [if_neg h1]
      by_cases j0 : j = 0
      · rw [if_pos j0, if_pos j0]; exact .inr rfl
      · rw [if_neg j0, if_neg j0]
        by_cases j1 : j = 1
        · rw [if_pos j1, if_pos j1]; exact .inr rfl
        · rw [if_neg j1, if_neg j1]; exact .inl rfl
theorem T3.Le.set {t : T3} {n : Int} (h : T3.Le t n) (i : Int) {v : Int} (hv : -n ≤ v ∧ v ≤ n) : T3.Le (t.set i v) n := fun j => by
  rcases T3.get_set t i v j with e | e
  · rw [e]; exact hv
  · rw [e]; exact h j
theorem gone_le {f g : Int} {d : T3} {n : Int} (hn : 0 ≤ n) (h : T3.Le d n) : T3.Le (goneOver f g d) n := by
  unfold goneOver
  refine T3.Le.set (T3.Le.set h _ ⟨by omega, by omega⟩) _ ?_
  have h2 := h (g / 2)
  unfold outward
  split <;> split <;> omega
theorem leaving_sub {f g : Int} {d : T3} (hf : FaceOk f) (h : g ∈ leaving f d) : FaceOk g ∧ f / 2 ≠ g / 2 := by
  unfold leaving at h
  obtain ⟨h1, _⟩ := List.mem_filter.mp h
  unfold facesBeside at h1
  obtain ⟨h1, h2⟩ := List.mem_filter.mp h1
  refine ⟨?_, fun q => ?_⟩
  · unfold FaceOk
    simp only [List.mem_cons, List.not_mem_nil, or_false] at h1
    omega
  · rw [q] at h2
    simp at h2
theorem vi_at {ns : List Int} {i : Nat} {x : V} (h : (vi ns)[i]? = some x) : ∃ n, x = .int n ∧ ns[i]? = some n := by
  unfold vi at h
  rw [List.getElem?_map] at h
  cases e : ns[i]? with
  | none => rw [e] at h; cases h
  | some n => rw [e] at h; exact ⟨n, (Option.some.inj h).symm, rfl⟩
theorem find_at {α β : Type} {F : α → Option β} {xs : List α} {i : Nat} {x : α} {y : β} (h0 : (xs.take i).findSome? F = none) (h1 : xs[i]? = some x) (h2 : F x = some y) : xs.findSome? F = some y := by
  have e : xs = xs.take i ++ x :: xs.drop (i + 1) := by
    have hi := (List.getElem?_eq_some_iff.mp h1).1
    have hx := (List.getElem?_eq_some_iff.mp h1).2
    rw [← hx, List.getElem_cons_drop, List.take_append_drop]
  rw [e, List.findSome?_append, h0, List.findSome?_cons, h2]
  rfl
theorem find_no {α β : Type} {F : α → Option β} {xs : List α} {i : Nat} {x : α} (h0 : (xs.take i).findSome? F = none) (h1 : xs[i]? = some x) (h2 : F x = none) : (xs.take (i + 1)).findSome? F = none := by
  rw [List.take_add_one, h1, List.findSome?_append, h0]
  show List.findSome? F [x] = none
  rw [List.findSome?_cons, h2]
  rfl
def spOnward (K : PySem.W.Frag) : Sp := fun vs H Q _ => ∃ v u s t t', vs = [v, u] ∧ BoxAt K H v s ∧ StAt K H u t ∧ FaceOk t.face ∧ T3.Le t.dir 10000 ∧ onward s t = some t' ∧ ∀ u' H', Ex H H' → StAt K H' u' t' → Q u' H'
theorem C_onward (E : Env K mg) : FnC P w K mg base "onward" 6 ["box", "strip"] [] (spOnward K) := by
  have C_leaving_faces := C_leaving_faces (P := P) (w := w) (base := base) E
  have C_edge_ends := C_edge_ends (P := P) (w := w) (base := base) E
  have C_gone_over := C_gone_over (P := P) (w := w) (base := base) E
  have M_Strip := M_Strip (P := P) (w := w) (base := base) E
  refine .of E.d_onward E.g_onward sc_onward (fun vs H Q E h => ?_) (fun _ _ _ _ _ _ us hl => match us, hl with | [_, _], _ => rfl) (fun cdv A outer s0 H vs Q E' hr h => ?_)
  · obtain ⟨v, u, s, t, t', rfl, _⟩ := h
    rfl
  · obtain ⟨v, u, s, t, t', rfl, hb, ⟨p, dx, a, rfl, hp, ha⟩, hf, hl, ho, q⟩ := h
    refine ⟨_, (pss_cons (ps_for PassesOwn.never rfl (pi_list (pe_c C_leaving_faces (hr.mono (by decide)) rfl (pa_cons (pe_fld (pv 1) (by rfl)) (pa_cons (pe_fld (pv 1) (by rfl)) pa_nil)))) (pg_name (i := 2) sc_onward.nd rfl (by first | exact Or.inl rfl | exact Or.inr rfl)) (pss_cons (ps_set (i := 3) sc_onward.nd rfl (by first | exact Or.inl rfl | exact Or.inr rfl) (pe_c C_edge_ends (hr.mono (by decide)) rfl (pa_cons (pv 0) (pa_cons (pe_fld (pv 1) (by rfl)) (pa_cons (pv 2) (pa_cons (pe_fld (pv 1) (by rfl)) pa_nil))))))
      (pss_one (ps_if (PW.pt (pw_and (pt_cmpR op_le (pe_callB (cr_minT rfl hr.units) (by rfl) E.b_min (by decide +kernel) (pa_cons (pv 3) pa_nil)) (pe_fld (pv 1) (by rfl)) (nomark _)) (pw_and1 (pt_cmpR op_le (pe_fld (pv 1) (by rfl)) (pe_callB (cr_maxT rfl hr.units) (by rfl) E.b_max (by decide +kernel) (pa_cons (pv 3) pa_nil)) (nomark _))))) (pss_cons (ps_set (i := 4) sc_onward.nd rfl (by first | exact Or.inl rfl | exact Or.inr rfl) (pe_c C_gone_over (hr.mono (by decide)) rfl (pa_cons (pe_fld (pv 1) (by rfl)) (pa_cons (pv 2) (pa_cons (pe_fld (pv 1) (by rfl)) pa_nil)))))
      (pss_cons (ps_set (i := 5) sc_onward.nd rfl (by first | exact Or.inl rfl | exact Or.inr rfl) (pe_op op_sub (pe_ix ix_tup (pe_c C_edge_ends (hr.mono (by decide)) rfl (pa_cons (pv 0) (pa_cons (pv 2) (pa_cons (pe_fld (pv 1) (by rfl)) (pa_cons (pv 4) pa_nil))))) pe_int (fun _ _ => rfl)) (pe_ix ix_tup (pv 3) pe_int (fun _ _ => rfl))))
      (pss_one (ps_ret (pe_mk M_Strip (hr.mono (by decide)) rfl (pa_cons (pv 2) (pa_cons (pv 4) (pa_cons (pe_op op_add (pe_fld (pv 1) (by rfl)) (pv 5)) (pa_cons (pe_op op_add (pe_fld (pv 1) (by rfl)) (pv 5)) pa_nil))))))))) pss_nil))))
      (pss_one (ps_ret pe_non))), ?_⟩
    k_all
    refine ⟨_, _, _, rfl, hf, ha, fun l H1 e1 nl l1 => ?_⟩
    refine ⟨l, rfl, ⟨_, sl_at l1⟩, for_list (xs := vi (leaving t.face t.dir)) (fun i σ H' => ∃ z1 z2 z3 z4, σ = [some v, some (.ref p), z1, z2, z3, z4] ∧ Ex H1 H' ∧ ((leaving t.face t.dir).take i).findSome? (onwardBy s t) = none) ⟨_, _, _, _, rfl, Evl.Ex.refl _, rfl⟩ (fun i σ H' _ h => ?_) (fun i x σ H' hi h => ?_) (fun σ H' h => ?_)⟩
    · obtain ⟨_, _, _, _, _, e, _⟩ := h
      exact sl_at (e _ _ l1)
    · obtain ⟨z1, z2, z3, z4, rfl, e, hno⟩ := h
      obtain ⟨g, rfl, hg⟩ := vi_at hi
      obtain ⟨hgo, hn⟩ := leaving_sub hf (List.mem_of_getElem? hg)
      have e0 := e1.trans e
      have hp' := e0 _ _ hp
      k_all
      refine ⟨_, _, _, _, _, _, rfl, hb.mono e0, hf, hgo, hn, ex_t e0 ha, hl, fun p2 H2 e2 np2 l2 => ?_⟩
      have e02 := e0.trans e2
      have hp2 := e02 _ _ hp
      k_all
      refine ⟨_, _, _, rfl, st_at l2, ?_⟩
      k_all
      refine if_dec (fun h1 => ?_) (fun h1 => ?_)
      · k_all
        refine ⟨_, _, _, rfl, st_at l2, ?_⟩
        k_all
        refine if_dec (fun h2 => ?_) (fun h2 => ?_)
        · have hF : onwardBy s t g = some _ := if_pos ⟨h1, h2⟩
          have hF2 := find_at hno hg hF
          have ht := Option.some.inj (ho.symm.trans hF2)
          k_all
          refine ⟨_, _, _, _, rfl, hf, hgo, ex_t e02 ha, fun p3 H3 e3 np3 l3 => ?_⟩
          have e03 := e02.trans e3
          have hp3 := e03 _ _ hp
          have l23 := e3 _ _ l2
          k_all
          refine ⟨_, _, _, _, _, goneOver t.face g t.dir, rfl, hb.mono e03, hgo, hf, fun q => hn q.symm, st_at l3, gone_le (by omega) hl, fun p4 H4 e4 np4 l4 => ?_⟩
          have e04 := e03.trans e4
          have hp4 := e04 _ _ hp
          have l24 := e4 _ _ l23
          k_all
          refine w_mkS fun x dx H5 nx e5 l5 => ?_
          refine q _ _ (e04.trans e5) ?_
          rw [ht]
          exact ⟨x, dx, _, rfl, l5, st_at ((e4.trans e5) _ _ l3)⟩
        · k_all
          refine ⟨_, _, _, _, rfl, e.trans e2, find_no hno hg (if_neg fun z => h2 z.2)⟩
      · k_all
        refine ⟨_, _, _, _, rfl, e.trans e2, find_no hno hg (if_neg fun z => h1 z.1)⟩
    · obtain ⟨z1, z2, z3, z4, rfl, e, hno⟩ := h
      have hl : (vi (leaving t.face t.dir)).length = (leaving t.face t.dir).length := by unfold vi; rw [List.length_map]
      rw [hl, List.take_length] at hno
      exact absurd (ho.symm.trans hno) (by intro z; cases z)
end TP

/-! W9 -/
set_option Elab.async false
set_option linter.all false
set_option maxRecDepth 100000
set_option maxHeartbeats 4000000
-- k_mem: a fact of the heap as it is now, from an older one; k_upd: one step of a reading; k_all: as many as go

namespace TP
open PySem PySem.Spec PyProof.Rows L2
open PySem.W (minOf maxOf Tup)
variable {P : Program} {w : World} {K : PySem.W.Frag} {mg : Str → Option Value} {base : Heap}
/-! ### values item by item -/
def Al {β : Type} (R : V → β → Prop) (vs : List V) (xs : List β) : Prop := vs.length = xs.length ∧ ∀ (i : Nat) v x, vs[i]? = some v → xs[i]? = some x → R v x
theorem Al.imp {β : Type} {R S : V → β → Prop} {vs : List V} {xs : List β} (h : Al R vs xs) (m : ∀ v x, R v x → S v x) : Al S vs xs := ⟨h.1, fun i v x h1 h2 => m v x (h.2 i v x h1 h2)⟩
theorem Al.nil {β : Type} {R : V → β → Prop} : Al R [] ([] : List β) := ⟨rfl, fun i v x h => by simp at h⟩
theorem Al.snoc {β : Type} {R : V → β → Prop} {vs : List V} {xs : List β} {v : V} {x : β} (h : Al R vs xs) (r : R v x) : Al R (vs ++ [v]) (xs ++ [x]) := by
  refine ⟨by rw [List.length_append, List.length_append, h.1] <;> rfl, fun i u y h1 h2 => ?_⟩
  by_cases hi : i < vs.length
  · rw [List.getElem?_append_left hi] at h1
    rw [List.getElem?_append_left (by rw [← h.1]; exact hi)] at h2
    exact h.2 i u y h1 h2
  · rw [List.getElem?_append_right (Nat.le_of_not_lt hi)] at h1
    rw [List.getElem?_append_right (by rw [← h.1]; exact Nat.le_of_not_lt hi)] at h2
    rw [← h.1] at h2
    cases q : i - vs.length with
    | zero =>
      rw [q] at h1 h2
      cases h1
      cases h2
      exact r
    | succ k => rw [q] at h1; simp at h1
theorem Al.at {β : Type} {R : V → β → Prop} {vs : List V} {xs : List β} (h : Al R vs xs) {i : Nat} {x : β} (hx : xs[i]? = some x) : ∃ v, vs[i]? = some v ∧ R v x := by
  have hi := (List.getElem?_eq_some_iff.mp hx).1
  have hv : i < vs.length := by rw [h.1]; exact hi
  exact ⟨vs[i], List.getElem?_eq_getElem hv, h.2 i _ _ (List.getElem?_eq_getElem hv) hx⟩
theorem Al.atv {β : Type} {R : V → β → Prop} {vs : List V} {xs : List β} (h : Al R vs xs) {i : Nat} {v : V} (hv : vs[i]? = some v) : ∃ x, xs[i]? = some x ∧ R v x := by
  have hi := (List.getElem?_eq_some_iff.mp hv).1
  have hx : i < xs.length := by rw [← h.1]; exact hi
  exact ⟨xs[i], List.getElem?_eq_getElem hx, h.2 i _ _ hv (List.getElem?_eq_getElem hx)⟩
theorem StAt.mu {H : Hp} {l : Addr} {o : HO} {ys : List V} {v : V} {t : StV} (h : StAt K H v t) (hl : H l = some (.lst ys)) : StAt K (upd H l o) v t := by
  obtain ⟨p, dx, a, e, h1, h2⟩ := h
  exact ⟨p, dx, a, e, mu_i h1 hl, mu_t h2 hl⟩
theorem BoxAt.mu {H : Hp} {l : Addr} {o : HO} {ys : List V} {v : V} {s : T3} (h : BoxAt K H v s) (hl : H l = some (.lst ys)) : BoxAt K (upd H l o) v s := by
  obtain ⟨p, dx, a, e, h1, h2⟩ := h
  exact ⟨p, dx, a, e, mu_i h1 hl, mu_t h2 hl⟩
theorem StAt.ref {H : Hp} {v : V} {t : StV} (h : StAt K H v t) : ∃ p dx a, v = .ref p ∧ H p = some (.ins (He.ga K "Strip") dx (stF (.int t.face) (.ref a) (.int t.low) (.int t.high))) ∧ SqT K H a (vi (T3.l t.dir)) := h
/-! ### strips_round -/
/-- a strip that the code can be asked about -/
def StOk (t : StV) : Prop := FaceOk t.face ∧ T3.Le t.dir 10000
/-- the strips from ts 0 on, back after n -/
def Orb (s : T3) (n : Nat) (ts : Nat → StV) : Prop := 0 < n ∧ n ≤ 400 ∧ (∀ i, i < n → onward s (ts i) = some (ts (i + 1))) ∧ ts n = ts 0 ∧ (∀ i, 0 < i → i < n → ts i ≠ ts 0) ∧ ∀ i, i ≤ n → StOk (ts i)
def orbL (n : Nat) (ts : Nat → StV) : List StV := (List.range n).map ts
theorem orbL_succ (n : Nat) (ts : Nat → StV) : orbL (n + 1) ts = orbL n ts ++ [ts n] := by
  unfold orbL
  rw [List.range_succ, List.map_append]
  rfl
def spRound (K : PySem.W.Frag) : Sp := fun vs H Q _ => ∃ v u s n ts, vs = [v, u] ∧ BoxAt K H v s ∧ StAt K H u (ts 0) ∧ Orb s n ts ∧ ∀ p H' ys, Ex H H' → H p = none → H' p = some (.lst ys) → Al (StAt K H') ys (orbL n ts) → Q (.ref p) H'
theorem C_strips_round (E : Env K mg) : FnC P w K mg base "strips_round" 7 ["box", "strip"] [] (spRound K) := by
  have C_onward := C_onward (P := P) (w := w) (base := base) E
  have O_Strip_eq := O_Strip_eq (P := P) (w := w) (base := base) E
  obtain ⟨N1, N2⟩ := isoB_ne E.iso_Strip
  refine .of E.d_strips_round E.g_strips_round sc_strips_round (fun vs H Q E h => ?_) (fun _ _ _ _ _ _ us hl => match us, hl with | [_, _], _ => rfl) (fun cdv A outer s0 H vs Q E' hr h => ?_)
  · obtain ⟨v, u, s, n, ts, rfl, _⟩ := h
    rfl
  · obtain ⟨v, u, s, n, ts, rfl, hb, hu, ⟨n0, n4, step, back, ne, ok⟩, q⟩ := h
    refine ⟨_, (pss_cons (ps_set (i := 2) sc_strips_round.nd rfl (by first | exact Or.inl rfl | exact Or.inr rfl) (pe_lst (pa_cons (pv 1) pa_nil)))
      (pss_cons (ps_set (i := 3) sc_strips_round.nd rfl (by first | exact Or.inl rfl | exact Or.inr rfl) (pe_c C_onward (hr.mono (by decide)) rfl (pa_cons (pv 0) (pa_cons (pv 1) pa_nil))))
      (pss_cons (ps_while PassesOwn.never (pt_cmpR (op_neC O_Strip_eq (hr.mono (by decide)) N1 N2) (pv 3) (pv 1) (nomark _)) (pss_cons (ps_if (pt_cmpR op_eq (pe_callB call_len_seq (by rfl) E.b_len PySem.boot_len (pa_cons (pv 2) pa_nil)) (pe_cst rfl E.v_MOST_FACES) (nomark _)) (pss_one ps_never) pss_nil)
      (pss_cons (ps_expr (pe_bm PySem.F.plainAttrs_list PySem.F.slot_list_append PySem.F.type_list_append mt_append (pv 2) (pa_cons (pv 3) pa_nil)))
      (pss_one (ps_set (i := 3) sc_strips_round.nd rfl (by first | exact Or.inl rfl | exact Or.inr rfl) (pe_c C_onward (hr.mono (by decide)) rfl (pa_cons (pv 0) (pa_cons (pv 3) pa_nil))))))))
      (pss_one (ps_ret (pv 2)))))), ?_⟩
    k_all
    rename_i l nl H1 e1 l1
    refine ⟨_, _, s, ts 0, ts 1, rfl, hb.mono e1, hu.mono e1, (ok 0 (by omega)).1, (ok 0 (by omega)).2, step 0 n0, fun f H2 e2 hf => ?_⟩
    k_all
    refine ⟨fun m σ H' => ∃ i ys f, m + i = n ∧ 0 < i ∧ σ = [some v, some u, some (.ref l), some f] ∧ Ex H H' ∧ H' l = some (.lst ys) ∧ Al (StAt K H') ys (orbL i ts) ∧ StAt K H' f (ts i), ⟨n - 1, 1, _, f, by omega, by omega, rfl, e1.trans e2, e2 _ _ l1, ?_, hf⟩, ?_⟩
    · show Al _ ([] ++ [u]) (orbL 1 ts)
      rw [orbL_succ]
      exact Al.snoc Al.nil (hu.mono (e1.trans e2))
    · rintro m σ H' ⟨i, ys, f, hm, hi, rfl, e, hl, al, hfi⟩
      have hu' := hu.mono e
      obtain ⟨pf, dxf, af, rfl, hf1, hf2⟩ := hfi.ref
      obtain ⟨pu, dxu, au, rfl, hu1, hu2⟩ := hu'.ref
      k_all
      refine ⟨_, _, _, _, _, _, rfl, rfl, hf1, hu1, ⟨_, _, ts i, ts 0, rfl, hfi, hu', _, rfl, ?_⟩⟩
      refine ⟨_, rfl, ?_⟩
      refine if_ndec (fun h1 => ?_) (fun h1 => ?_)
      · have hin : i < n := by
          rcases Nat.lt_or_ge i n with h | h
          · exact h
          · have : i = n := by omega
            rw [this] at h1
            exact absurd back h1
        refine ⟨fun σ' H'' => ∃ m', m' < m ∧ ∃ i ys f, m' + i = n ∧ 0 < i ∧ σ' = [some v, some (.ref pu), some (.ref l), some f] ∧ Ex H H'' ∧ H'' l = some (.lst ys) ∧ Al (StAt K H'') ys (orbL i ts) ∧ StAt K H'' f (ts i), fun _ _ h => h, ?_⟩
        have hlen : ys.length = i := by rw [al.1]; unfold orbL; rw [List.length_map, List.length_range]
        k_all
        refine w_lenL (sl_at hl) ?_
        k_all
        refine if_int (fun h2 => ?_) (fun h2 => ?_)
        · omega
        · k_all
          refine w_app hl (by omega) ?_
          generalize hG : upd _ _ _ = H3
          have e3 : Ex H H3 := ex_mut hG e nl
          have l3 := at_of hG
          have mu : ∀ v t, StAt K H' v t → StAt K H3 v t := fun v t h => hG ▸ h.mu hl
          k_all
          refine ⟨_, _, s, ts i, ts (i + 1), rfl, hb.mono e3, mu _ _ hfi, (ok i (by omega)).1, (ok i (by omega)).2, step i hin, fun f4 H4 e4 hf4 => ?_⟩
          k_all
          refine ⟨m - 1, by omega, i + 1, _, f4, by omega, by omega, rfl, e3.trans e4, e4 _ _ l3, ?_, hf4⟩
          rw [orbL_succ]
          exact (Al.snoc (al.imp mu) (mu _ _ hfi)).imp fun _ _ h => h.mono e4
      · have hin : i = n := by
          rcases Nat.lt_or_ge i n with h | h
          · exact absurd h1 (ne i hi h)
          · omega
        rw [hin] at al
        k_all
        exact q l H' ys e nl hl al
end TP

/-! W10 -/
set_option Elab.async false
set_option linter.all false
set_option maxRecDepth 100000
set_option maxHeartbeats 4000000
-- k_mem: a fact of the heap as it is now, from an older one; k_upd: one step of a reading; k_all: as many as go

namespace TP
open PySem PySem.Spec PyProof.Rows L2
open PySem.W (minOf maxOf Tup)
variable {P : Program} {w : World} {K : PySem.W.Frag} {mg : Str → Option Value} {base : Heap}
/-! ### widened -/
/-- the i-th of a ring, around -/
def rAt (L : List StV) (i : Nat) : StV := L.getD (i % L.length) ⟨0, (0, 0, 0), 0, 0⟩
def slackR (s : T3) (L : List StV) (i : Nat) : Int := (rAt L i).low - minOf (edgeEnds s (rAt L i).face (rAt L (i + 1)).face (rAt L i).dir).1 [(edgeEnds s (rAt L i).face (rAt L (i + 1)).face (rAt L i).dir).2]
def slackL (s : T3) (L : List StV) (i : Nat) : Int := maxOf (edgeEnds s (rAt L i).face (rAt L (i + 1)).face (rAt L i).dir).1 [(edgeEnds s (rAt L i).face (rAt L (i + 1)).face (rAt L i).dir).2] - (rAt L i).high
def minL : List Int → Int
  | [] => 0
  | n :: ns => minOf n ns
def widen (s : T3) (L : List StV) : List StV :=
  L.map fun t => ⟨t.face, t.dir, t.low - minL ((List.range L.length).map (slackR s L)), t.high + minL ((List.range L.length).map (slackL s L))⟩
/-- faces and directions as the code may be asked about, each face beside the next -/
def RingOk (L : List StV) : Prop := 0 < L.length ∧ L.length ≤ 400 ∧ ∀ i, StOk (rAt L i) ∧ (rAt L i).face / 2 ≠ (rAt L (i + 1)).face / 2
def LstOf (K : PySem.W.Frag) (H : Hp) (p : Addr) (L : List StV) : Prop := ∃ ys, H p = some (.lst ys) ∧ Al (StAt K H) ys L
theorem rAt_at {L : List StV} {i : Nat} {t : StV} (h : L[i]? = some t) : rAt L i = t := by
  have hi := (List.getElem?_eq_some_iff.mp h).1
  unfold rAt
  rw [Nat.mod_eq_of_lt hi, List.getD_eq_getElem?_getD, h]
  rfl
theorem rAt_mod {L : List StV} (h : 0 < L.length) (i : Nat) : L[i % L.length]? = some (rAt L i) := by
  have hi := Nat.mod_lt i h
  unfold rAt
  rw [List.getD_eq_getElem?_getD, List.getElem?_eq_getElem hi]
  rfl
theorem atI_nat {xs : List V} {i : Nat} {v : V} (h : xs[i]? = some v) : atI xs (i : Int) = some v := by
  have hi := (List.getElem?_eq_some_iff.mp h).1
  unfold atI ixN
  rw [if_pos (by omega), if_pos (by omega)]
  simpa using h
theorem emod_nat (i n : Nat) : ((i : Int) + 1) % (n : Int) = (((i + 1) % n : Nat) : Int) := by
  rw [Int.natCast_emod, Int.natCast_add]
  rfl
def spWiden (K : PySem.W.Frag) : Sp := fun vs H Q _ => ∃ v s a L, vs = [v, .ref a] ∧ BoxAt K H v s ∧ LstOf K H a L ∧ RingOk L ∧ ∀ p H', Ex H H' → H p = none → LstOf K H' p (widen s L) → Q (.ref p) H'
theorem C_widened (E : Env K mg) : FnC P w K mg base "widened" 6 ["box", "found"] [] (spWiden K) := by
  have C_edge_ends := C_edge_ends (P := P) (w := w) (base := base) E
  have M_Strip := M_Strip (P := P) (w := w) (base := base) E
  refine .of E.d_widened E.g_widened sc_widened (fun vs H Q E h => ?_) (fun _ _ _ _ _ _ us hl => match us, hl with | [_, _], _ => rfl) (fun cdv A outer s0 H vs Q E' hr h => ?_)
  · obtain ⟨v, s, a, L, rfl, _⟩ := h
    rfl
  · obtain ⟨v, s, a, L, rfl, hb, ⟨ys, ha, al⟩, ⟨n0, n4, ok⟩, q⟩ := h
    refine ⟨_, (pss_cons (ps_set (i := 2) sc_widened.nd rfl (by first | exact Or.inl rfl | exact Or.inr rfl) (pe_lst pa_nil))
      (pss_cons (ps_set (i := 3) sc_widened.nd rfl (by first | exact Or.inl rfl | exact Or.inr rfl) (pe_lst pa_nil))
      (pss_cons (ps_for PassesOwn.never rfl (pi_enum (by rfl) E.b_enumerate (pa_cons (pv 1) pa_nil)) (pg_tup rfl (pgs_cons (pg_name (i := 4) sc_widened.nd rfl (by first | exact Or.inl rfl | exact Or.inr rfl)) (pgs_cons (pg_name (i := 5) sc_widened.nd rfl (by first | exact Or.inl rfl | exact Or.inr rfl)) pgs_nil))) (pss_cons (ps_set (i := 6) sc_widened.nd rfl (by first | exact Or.inl rfl | exact Or.inr rfl) (pe_c C_edge_ends (hr.mono (by decide)) rfl (pa_cons (pv 0) (pa_cons (pe_fld (pv 5) (by rfl)) (pa_cons (pe_fld (pe_ix ix_list (pv 1) (pe_op op_mod (pe_op op_add (pv 4) pe_int) (pe_callB call_len_seq (by rfl) E.b_len PySem.boot_len (pa_cons (pv 1) pa_nil))) (fun _ _ => rfl)) (by rfl)) (pa_cons (pe_fld (pv 5) (by rfl)) pa_nil))))))
      (pss_cons (ps_expr (pe_bm PySem.F.plainAttrs_list PySem.F.slot_list_append PySem.F.type_list_append mt_append (pv 2) (pa_cons (pe_op op_sub (pe_fld (pv 5) (by rfl)) (pe_callB (cr_minT rfl hr.units) (by rfl) E.b_min (by decide +kernel) (pa_cons (pv 6) pa_nil))) pa_nil)))
      (pss_one (ps_expr (pe_bm PySem.F.plainAttrs_list PySem.F.slot_list_append PySem.F.type_list_append mt_append (pv 3) (pa_cons (pe_op op_sub (pe_callB (cr_maxT rfl hr.units) (by rfl) E.b_max (by decide +kernel) (pa_cons (pv 6) pa_nil)) (pe_fld (pv 5) (by rfl))) pa_nil)))))))
      (pss_cons (ps_set (i := 7) sc_widened.nd rfl (by first | exact Or.inl rfl | exact Or.inr rfl) (pe_callB (cr_minL rfl hr.units) (by rfl) E.b_min (by decide +kernel) (pa_cons (pv 2) pa_nil)))
      (pss_cons (ps_set (i := 8) sc_widened.nd rfl (by first | exact Or.inl rfl | exact Or.inr rfl) (pe_callB (cr_minL rfl hr.units) (by rfl) E.b_min (by decide +kernel) (pa_cons (pv 3) pa_nil)))
      (pss_one (ps_ret (pe_lc (own := [("strip", 5)]) rfl sc_widened.nd (pi_list (pv 1)) (blkOk_by (own := [("strip", 5)]) (N := ["box", "found", "rights", "lefts", "index", "strip", "ends", "right", "left"]) (sc := defScope s_widened) (by decide +kernel)) (fun _ _ _ _ _ => by exact (pg_cast (pg_name (i := 5) sc_widened.nd rfl (by first | exact Or.inl rfl | exact Or.inr rfl)) (by (try simp only [blk_K]); rfl))) (fun _ _ _ _ _ => by exact (pts_cast pts_nil (by (try simp only [blk_K]); rfl))) (fun _ _ _ _ _ => by exact (pe_cast (pe_mk M_Strip (hr.mono (by decide)) rfl (pa_cons (pe_fld (pv 5) (by rfl)) (pa_cons (pe_fld (pv 5) (by rfl)) (pa_cons (pe_op op_sub (pe_fld (pv 5) (by rfl)) (pv 7)) (pa_cons (pe_op op_add (pe_fld (pv 5) (by rfl)) (pv 8)) pa_nil))))) (by (try simp only [blk_K]); rfl))))))))))), ?_⟩
    k_all
    rename_i r np0 H1 e1 l1 l nl H2 e2 l2
    have e02 := e1.trans e2
    have nl0 := Evl.fresh_back e1 nl
    have lr2 := e2 _ _ l1
    have hrl : r ≠ l := fun h => by rw [h] at l1; rw [nl] at l1; cases l1
    have hle : ys.length = L.length := al.1
    refine ⟨a, ys, rfl, sl_at (e02 _ _ ha), for_enumL (xs := ys) (fun i σ H' => ∃ z1 z2 z3, σ = [some v, some (.ref a), some (.ref r), some (.ref l), z1, z2, z3, none, none] ∧ Ex H H' ∧ H' r = some (.lst (vi ((List.range i).map (slackR s L)))) ∧ H' l = some (.lst (vi ((List.range i).map (slackL s L))))) ⟨_, _, _, rfl, e02, lr2, l2⟩ (fun i σ H' _ h => ?_) (fun i x T σ H' H3 hi h nT e3 hT => ?_) (fun σ H' h => ?_)⟩
    · obtain ⟨_, _, _, _, e, _⟩ := h
      exact sl_at (e _ _ ha)
    · obtain ⟨z1, z2, z3, rfl, e, hR, hL⟩ := h
      have e03 := e.trans e3
      obtain ⟨t, hti, hx⟩ := al.atv hi
      have hil := (List.getElem?_eq_some_iff.mp hti).1
      have ht := rAt_at hti
      obtain ⟨p, dx, b, rfl, hp, hpb⟩ := (hx.mono e03).ref
      obtain ⟨u, hu, hxu⟩ := al.at (rAt_mod n0 (i + 1))
      obtain ⟨p2, dx2, b2, rfl, hp2, hpb2⟩ := (hxu.mono e03).ref
      obtain ⟨⟨okf, okd⟩, okn⟩ := ok i
      obtain ⟨⟨okf2, okd2⟩, _⟩ := ok (i + 1)
      rw [ht] at okf okd okn
      have ha3 := e03 _ _ ha
      k_all
      refine w_lenL (sl_at ha3) ?_
      k_all
      refine w_ixL (sl_at ha3) (atI_nat (i := (i + 1) % L.length) hu |> (fun h => by rw [emod_nat, hle]; exact h)) ?_
      k_all
      refine ⟨_, _, _, _, _, t.dir, rfl, hb.mono e03, okf, okf2, okn, hpb, okd, fun p4 H4 e4 np4 l4 => ?_⟩
      have e04 := e03.trans e4
      have hp4 := e4 _ _ hp
      have hR4 := (e3.trans e4) _ _ hR
      have hL4 := (e3.trans e4) _ _ hL
      have hlen : ∀ (F : Nat → Int), (vi ((List.range i).map F)).length = i := fun F => by unfold vi; rw [List.length_map, List.length_map, List.length_range]
      have hsn : ∀ (F : Nat → Int), vi ((List.range i).map F) ++ [V.int (F i)] = vi ((List.range (i + 1)).map F) := fun F => by unfold vi; rw [List.range_succ, List.map_append, List.map_append]; rfl
      k_all
      refine ⟨_, _, _, rfl, st_at l4, ?_⟩
      k_all
      refine w_app hR4 (by rw [hlen]; omega) ?_
      generalize hG : upd _ _ _ = H5
      have e5 : Ex H H5 := ex_mut hG e04 np0
      have l5 := at_of hG
      have f5 : ∀ (b : Addr) (o : HO), b ≠ r → H4 b = some o → H5 b = some o := fun b o h1 h2 => by rw [← hG, upd_ne h1]; exact h2
      have nr : ∀ (b : Addr) (o : HO), H b = some o → b ≠ r := fun b o h1 h2 => by rw [h2] at h1; rw [np0] at h1; cases h1
      have hp5 := f5 _ _ (fun h => by rw [h] at hp4; rw [hR4] at hp4; cases hp4) hp4
      have l45 := f5 _ _ (fun h => by rw [h] at l4; rw [hR4] at l4; cases l4) l4
      have hL5 := f5 _ _ (fun h => hrl h.symm) hL4
      k_all
      refine ⟨_, _, _, rfl, st_at l45, ?_⟩
      k_all
      refine w_app hL5 (by rw [hlen]; omega) ?_
      generalize hG2 : upd _ _ _ = H6
      have e6 : Ex H H6 := ex_mut hG2 e5 nl0
      have l6 := at_of hG2
      have l56 : H6 r = _ := (by rw [← hG2, upd_ne hrl]; exact l5 : H6 r = some (.lst _))
      k_all
      refine ⟨_, _, _, rfl, e6, ?_, ?_⟩
      · rw [l56, ← hsn]
        unfold slackR
        rw [ht]
      · rw [l6, ← hsn]
        unfold slackL
        rw [ht]
    · obtain ⟨z1, z2, z3, rfl, e, hR, hL⟩ := h
      rw [hle] at hR hL
      obtain ⟨m, hm⟩ : ∃ m, L.length = m + 1 := ⟨L.length - 1, by omega⟩
      have hcons : ∀ F : Nat → Int, ∃ n ns, (List.range L.length).map F = n :: ns := fun F => by rw [hm, List.range_succ_eq_map]; exact ⟨_, _, rfl⟩
      obtain ⟨a1, b1, c1⟩ := hcons (slackR s L)
      obtain ⟨a2, b2, c2⟩ := hcons (slackL s L)
      rw [c1] at hR
      rw [c2] at hL
      k_all
      refine ⟨_, _, _, rfl, sl_at hR, ?_⟩
      k_all
      refine ⟨_, _, _, rfl, sl_at hL, ?_⟩
      k_all
      refine w_lcL (K := K) (H1 := H') (a := a) (xs := ys) (G := fun i y H => ∃ t, (widen s L)[i]? = some t ∧ StAt K H y t) (fun i y H1 H2 e h => ?_) (fun i y H1 D acc acc' hD h => ?_) (by omega) (sl_at (e _ _ ha)) (fun R r => ?_) (fun i x H2 hi e2 => ?_) mg_name (fun p H2 ys2 np e2 l2 told => ?_)
      · obtain ⟨t, h1, h2⟩ := h
        exact ⟨t, h1, h2.mono e⟩
      · obtain ⟨t, h1, h2⟩ := h
        exact ⟨t, h1, h2.mu hD⟩
      · k_all
        refine ⟨_, rfl, ⟨_, sl_at (e _ _ ha)⟩, r⟩
      · refine ⟨rfl, rfl, fun QV qv => ?_⟩
        obtain ⟨t, hti, hx⟩ := al.atv hi
        have e2' := e.trans e2
        obtain ⟨p, dx, b, rfl, hp, hpb⟩ := (hx.mono e2').ref
        k_all
        refine w_mkS fun x dx2 H5 nx e5 l5 => ?_
        refine qv _ H5 e5 ⟨(⟨t.face, t.dir, t.low - minOf a1 b1, t.high + minOf a2 b2⟩ : StV), ?_, x, dx2, b, rfl, l5, ex_t e5 hpb⟩
        unfold widen
        rw [List.getElem?_map, hti, c1, c2]
        rfl
      · refine q p H2 (e.trans e2) (Evl.fresh_back e np) ⟨ys2, l2, ?_, fun i v x h1 h2 => ?_⟩
        · rw [told.1]
          unfold widen
          rw [List.length_map]
          exact hle
        · obtain ⟨t, h3, h4⟩ := told.2 i v h1
          rw [h2] at h3
          rw [Option.some.inj h3]
          exact h4
end TP

/-! W11 -/
set_option Elab.async false
set_option linter.all false
set_option maxRecDepth 100000
set_option maxHeartbeats 4000000
-- k_mem: a fact of the heap as it is now, from an older one; k_upd: one step of a reading; k_all: as many as go

namespace TP
open PySem PySem.Spec PyProof.Rows L2
open PySem.W (minOf maxOf Tup)
variable {P : Program} {w : World} {K : PySem.W.Frag} {mg : Str → Option Value} {base : Heap}
/-! ### edge_number -/
def edgeNumber (s : T3) (f g : Int) (d : T3) (m : Int) : Int × Int :=
  if along f g = (axes f).2 then low (m + 2 * d.get (axes f).2 * level s g) (2 * d.get (axes f).1) else low (2 * d.get (axes f).1 * level s g - m) (2 * d.get (axes f).2)
def DirNz (f : Int) (d : T3) : Prop := d.get (axes f).1 ≠ 0 ∧ d.get (axes f).2 ≠ 0
theorem axes_of {f g : Int} (hf : FaceOk f) (hg : FaceOk g) (n : f / 2 ≠ g / 2) : g / 2 = (axes f).1 ∨ g / 2 = (axes f).2 := by
  obtain rfl | rfl | rfl | rfl | rfl | rfl := hf.cases <;> obtain rfl | rfl | rfl | rfl | rfl | rfl := hg.cases <;> first | exact absurd rfl n | exact .inl rfl | exact .inr rfl
theorem low_den {t b : Int} (hb : b ≠ 0) : 0 < (low t b).2 ∧ (low t b).2 ≤ b.natAbs := by
  unfold low
  have h1 := gcd_b (t := t) hb
  have h3 : Nat.gcd t.natAbs b.natAbs ∣ b.natAbs := Nat.gcd_dvd_right _ _
  obtain ⟨k, hk⟩ := h3
  generalize Nat.gcd t.natAbs b.natAbs = g at h1 hk
  have hk0 : 0 < k := by
    rcases Nat.eq_zero_or_pos k with h | h
    · rw [h, Nat.mul_zero] at hk; omega
    · exact h
  have e1 : ((g * k : Nat) : Int).fdiv (g : Int) = (k : Int) := by
    rw [Int.natCast_mul, Int.mul_fdiv_cancel_left _ (by omega)]
  have hkb : (k : Int) ≤ (b.natAbs : Int) := by
    rw [hk]
    have := Nat.le_mul_of_pos_left k h1
    omega
  by_cases hneg : b < 0
  · simp only [hneg, if_true]
    have eb : b = -((g * k : Nat) : Int) := by omega
    have e2 : b.fdiv (-(g : Int)) = (k : Int) := by
      rw [eb, Int.neg_fdiv_neg]
      exact e1
    rw [e2]
    exact ⟨by omega, hkb⟩
  · simp only [hneg, if_false]
    have eb : b = ((g * k : Nat) : Int) := by omega
    have e2 : b.fdiv (g : Int) = (k : Int) := by
      rw [eb]
      exact e1
    rw [e2]
    exact ⟨by omega, hkb⟩
def BoxLe (s : T3) : Prop := ∀ i, 1 ≤ s.get i ∧ s.get i ≤ 60
theorem level_le {s : T3} (h : BoxLe s) (g : Int) : 0 ≤ level s g ∧ level s g ≤ 60 := by
  unfold level
  have := h (g / 2)
  split <;> omega
def spEdgeNo (K : PySem.W.Frag) : Sp := fun vs H Q _ => ∃ v s f g a d m, vs = [v, .int f, .int g, .ref a, .int m] ∧ BoxAt K H v s ∧ BoxLe s ∧ FaceOk f ∧ FaceOk g ∧ f / 2 ≠ g / 2 ∧ SqT K H a (vi (T3.l d)) ∧ T3.Le d 10000 ∧ DirNz f d ∧
  ∀ u H', Ex H H' → Rat2 K H' u (edgeNumber s f g d m) → Q u H'
theorem C_edge_number (E : Env K mg) : FnC P w K mg base "edge_number" 4 ["box", "face", "beside", "direction", "measure"] [] (spEdgeNo K) := by
  have C_face_level := C_face_level (P := P) (w := w) (base := base) E
  have C_face_axes := C_face_axes (P := P) (w := w) (base := base) E
  have C_in_lowest := C_in_lowest (P := P) (w := w) (base := base) E
  refine .of E.d_edge_number E.g_edge_number sc_edge_number (fun vs H Q E h => ?_) (fun _ _ _ _ _ _ us hl => match us, hl with | [_, _, _, _, _], _ => rfl) (fun cdv A outer s0 H vs Q E' hr h => ?_)
  · obtain ⟨v, s, f, g, a, d, m, rfl, _⟩ := h
    rfl
  · obtain ⟨v, s, f, g, a, d, m, rfl, hb, hs, hf, hg, hn, hd, hl, ⟨z1, z2⟩, q⟩ := h
    refine ⟨_, (pss_cons (ps_set (i := 5) sc_edge_number.nd rfl (by first | exact Or.inl rfl | exact Or.inr rfl) (pe_op op_sub (pe_op op_sub pe_int (pe_op op_fdiv (pv 1) pe_int)) (pe_op op_fdiv (pv 2) pe_int)))
      (pss_cons (ps_set (i := 6) sc_edge_number.nd rfl (by first | exact Or.inl rfl | exact Or.inr rfl) (pe_c C_face_level (hr.mono (by decide)) rfl (pa_cons (pv 0) (pa_cons (pv 2) pa_nil))))
      (pss_cons (ps_asg (pe_c C_face_axes (hr.mono (by decide)) rfl (pa_cons (pv 1) pa_nil)) (pg_tup rfl (pgs_cons (pg_name (i := 7) sc_edge_number.nd rfl (by first | exact Or.inl rfl | exact Or.inr rfl)) (pgs_cons (pg_name (i := 8) sc_edge_number.nd rfl (by first | exact Or.inl rfl | exact Or.inr rfl)) pgs_nil))))
      (pss_cons (ps_if (pt_cmpR op_eq (pv 5) (pv 8) (nomark _)) (pss_one (ps_ret (pe_c C_in_lowest (hr.mono (by decide)) rfl (pa_cons (pe_op op_add (pv 4) (pe_op op_mul (pe_op op_mul pe_int (pe_ix ix_tup (pv 3) (pv 8) (fun _ _ => rfl))) (pv 6))) (pa_cons (pe_op op_mul pe_int (pe_ix ix_tup (pv 3) (pv 7) (fun _ _ => rfl))) pa_nil))))) pss_nil)
      (pss_one (ps_ret (pe_c C_in_lowest (hr.mono (by decide)) rfl (pa_cons (pe_op op_sub (pe_op op_mul (pe_op op_mul pe_int (pe_ix ix_tup (pv 3) (pv 7) (fun _ _ => rfl))) (pv 6)) (pv 4)) (pa_cons (pe_op op_mul pe_int (pe_ix ix_tup (pv 3) (pv 8) (fun _ _ => rfl))) pa_nil))))))))), ?_⟩
    obtain ⟨h1, h2, h3, h4⟩ := ax_ok hf
    have l1 := hl (axes f).1
    have l2 := hl (axes f).2
    have lv := level_le hs g
    k_all
    refine ⟨_, _, _, rfl, hb, hg, ?_⟩
    k_all
    refine ⟨_, rfl, hf, fun x hx => ?_⟩
    have hx0 := hx H
    k_all
    refine if_int (fun h5 => ?_) (fun h5 => ?_)
    · k_all
      refine w_ixT hd (at3 d h3 h4) ?_
      k_all
      refine w_ixT hd (at3 d h1 h2) ?_
      k_all
      refine ⟨_, _, rfl, by omega, by omega, fun u H' e r => ?_⟩
      refine q _ _ e ?_
      have e0 : edgeNumber s f g d m = low (m + 2 * d.get (axes f).2 * level s g) (2 * d.get (axes f).1) := if_pos h5
      rw [e0]
      exact r
    · k_all
      refine w_ixT hd (at3 d h1 h2) ?_
      k_all
      refine w_ixT hd (at3 d h3 h4) ?_
      k_all
      refine ⟨_, _, rfl, by omega, by omega, fun u H' e r => ?_⟩
      refine q _ _ e ?_
      have e0 : edgeNumber s f g d m = low (2 * d.get (axes f).1 * level s g - m) (2 * d.get (axes f).2) := if_neg h5
      rw [e0]
      exact r
/-! ### middle_length -/
def midBegun (s : T3) (t : StV) (ge gl : Int) : Int × Int := if ge / 2 = gl / 2 then (level s ge, 1) else edgeNumber s t.face ge t.dir (t.low + t.high)
def midLen (s : T3) (t : StV) (ge gl : Int) : Int × Int := low (level s gl * (midBegun s t ge gl).2 - (midBegun s t ge gl).1) ((midBegun s t ge gl).2 * t.dir.get (gl / 2))
theorem edgeNo_den {s : T3} {f g : Int} {d : T3} {m : Int} (hl : T3.Le d 10000) (hz : DirNz f d) : 0 < (edgeNumber s f g d m).2 ∧ (edgeNumber s f g d m).2 ≤ 20000 := by
  have l1 := hl (axes f).1
  have l2 := hl (axes f).2
  obtain ⟨z1, z2⟩ := hz
  unfold edgeNumber
  split
  · have := low_den (t := m + 2 * d.get (axes f).2 * level s g) (b := 2 * d.get (axes f).1) (by omega)
    omega
  · have := low_den (t := 2 * d.get (axes f).1 * level s g - m) (b := 2 * d.get (axes f).2) (by omega)
    omega
theorem mid_den {s : T3} {t : StV} {ge gl : Int} (hl : T3.Le t.dir 10000) (hz : DirNz t.face t.dir) : 0 < (midBegun s t ge gl).2 ∧ (midBegun s t ge gl).2 ≤ 20000 := by
  unfold midBegun
  split
  · exact ⟨by show (0 : Int) < 1; decide, by show (1 : Int) ≤ 20000; decide⟩
  · exact edgeNo_den hl hz
def spMid (K : PySem.W.Frag) : Sp := fun vs H Q _ => ∃ v s u t ge gl, vs = [v, u, .int ge, .int gl] ∧ BoxAt K H v s ∧ BoxLe s ∧ StAt K H u t ∧ StOk t ∧ DirNz t.face t.dir ∧ FaceOk ge ∧ FaceOk gl ∧ t.face / 2 ≠ ge / 2 ∧ t.face / 2 ≠ gl / 2 ∧
  ∀ u H', Ex H H' → Rat2 K H' u (midLen s t ge gl) → Q u H'
theorem C_middle_length (E : Env K mg) : FnC P w K mg base "middle_length" 5 ["box", "strip", "enter", "leave"] [] (spMid K) := by
  have C_face_level := C_face_level (P := P) (w := w) (base := base) E
  have C_edge_number := C_edge_number (P := P) (w := w) (base := base) E
  have C_in_lowest := C_in_lowest (P := P) (w := w) (base := base) E
  refine .of E.d_middle_length E.g_middle_length sc_middle_length (fun vs H Q E h => ?_) (fun _ _ _ _ _ _ us hl => match us, hl with | [_, _, _, _], _ => rfl) (fun cdv A outer s0 H vs Q E' hr h => ?_)
  · obtain ⟨v, s, u, t, ge, gl, rfl, _⟩ := h
    rfl
  · obtain ⟨v, s, u, t, ge, gl, rfl, hb, hs, ⟨p, dx, a, rfl, hp, ha⟩, ⟨hf, hl⟩, hz, hge, hgl, ne, nl, q⟩ := h
    refine ⟨_, (pss_cons (ps_set (i := 4) sc_middle_length.nd rfl (by first | exact Or.inl rfl | exact Or.inr rfl) (pe_op op_add (pe_fld (pv 1) (by rfl)) (pe_fld (pv 1) (by rfl))))
      (pss_cons (ps_set (i := 5) sc_middle_length.nd rfl (by first | exact Or.inl rfl | exact Or.inr rfl) (pe_op op_fdiv (pv 3) pe_int))
      (pss_cons (ps_set (i := 6) sc_middle_length.nd rfl (by first | exact Or.inl rfl | exact Or.inr rfl) (pe_tup (pa_cons (pe_c C_face_level (hr.mono (by decide)) rfl (pa_cons (pv 0) (pa_cons (pv 2) pa_nil))) (pa_cons pe_int pa_nil))))
      (pss_cons (ps_if (pt_cmpR op_ne (pe_op op_fdiv (pv 2) pe_int) (pv 5) (nomark _)) (pss_one (ps_set (i := 6) sc_middle_length.nd rfl (by first | exact Or.inl rfl | exact Or.inr rfl) (pe_c C_edge_number (hr.mono (by decide)) rfl (pa_cons (pv 0) (pa_cons (pe_fld (pv 1) (by rfl)) (pa_cons (pv 2) (pa_cons (pe_fld (pv 1) (by rfl)) (pa_cons (pv 4) pa_nil)))))))) pss_nil)
      (pss_cons (ps_set (i := 7) sc_middle_length.nd rfl (by first | exact Or.inl rfl | exact Or.inr rfl) (pe_c C_face_level (hr.mono (by decide)) rfl (pa_cons (pv 0) (pa_cons (pv 3) pa_nil))))
      (pss_one (ps_ret (pe_c C_in_lowest (hr.mono (by decide)) rfl (pa_cons (pe_op op_sub (pe_op op_mul (pv 7) (pe_ix ix_tup (pv 6) pe_int (fun _ _ => rfl))) (pe_ix ix_tup (pv 6) pe_int (fun _ _ => rfl))) (pa_cons (pe_op op_mul (pe_ix ix_tup (pv 6) pe_int (fun _ _ => rfl)) (pe_ix ix_tup (pe_fld (pv 1) (by rfl)) (pv 5) (fun _ _ => rfl))) pa_nil)))))))))), ?_⟩
    obtain ⟨x1, x2⟩ := half_ok hgl
    have lv := level_le hs gl
    have ld := hl (gl / 2)
    have nz : t.dir.get (gl / 2) ≠ 0 := by
      rcases axes_of hf hgl nl with h | h
      · rw [h]; exact hz.1
      · rw [h]; exact hz.2
    have md := mid_den (s := s) (ge := ge) (gl := gl) hl hz
    k_all
    refine ⟨_, _, _, rfl, hb, hge, ?_⟩
    k_all
    rename_i b nb H1 e1 l1
    have hp1 := e1 _ _ hp
    refine if_nint (fun h5 => ?_) (fun h5 => ?_)
    · have em : midBegun s t ge gl = edgeNumber s t.face ge t.dir (t.low + t.high) := if_neg h5
      k_all
      refine ⟨_, _, _, _, _, _, _, rfl, hb.mono e1, hs, hf, hge, ne, ex_t e1 ha, hl, hz, fun u2 H2 e2 ⟨b2, eu, hb2⟩ => ?_⟩
      subst eu
      have e02 := e1.trans e2
      have hp2 := e02 _ _ hp
      rw [← em] at hb2
      k_all
      refine ⟨_, _, _, rfl, hb.mono e02, hgl, ?_⟩
      k_all
      refine w_ixT (ex_t e02 ha) (at3 t.dir x1 x2) ?_
      k_all
      have hm : -200000000 ≤ (midBegun s t ge gl).2 * t.dir.get (gl / 2) ∧ (midBegun s t ge gl).2 * t.dir.get (gl / 2) ≤ 200000000 := by
        constructor
        · have h1 : (midBegun s t ge gl).2 * (-10000) ≤ (midBegun s t ge gl).2 * t.dir.get (gl / 2) := Int.mul_le_mul_of_nonneg_left ld.1 (by omega)
          omega
        · have h1 : (midBegun s t ge gl).2 * t.dir.get (gl / 2) ≤ (midBegun s t ge gl).2 * 10000 := Int.mul_le_mul_of_nonneg_left ld.2 (by omega)
          omega
      refine ⟨_, _, rfl, Int.mul_ne_zero (by omega) nz, by omega, fun u3 H3 e3 r => q _ _ (e02.trans e3) r⟩
    · have em : midBegun s t ge gl = (level s ge, 1) := if_pos h5
      k_all
      refine ⟨_, _, _, rfl, hb.mono e1, hgl, ?_⟩
      k_all
      refine w_ixT (ex_t e1 ha) (at3 t.dir x1 x2) ?_
      k_all
      refine ⟨_, _, rfl, by omega, by omega, fun u3 H3 e3 r => q _ _ (e1.trans e3) ?_⟩
      unfold midLen
      rw [em]
      exact r
/-! ### ring_lengths, ring_length -/
def ringLens (s : T3) (L : List StV) : List (Int × Int) := (List.range L.length).map fun i => midLen s (rAt L i) (rAt L (i + L.length - 1)).face (rAt L (i + 1)).face
def NzOk (L : List StV) : Prop := ∀ i, DirNz (rAt L i).face (rAt L i).dir
theorem atI_back {xs : List V} {i n : Nat} {v : V} (hn : xs.length = n) (h0 : i < n) (h : xs[(i + n - 1) % n]? = some v) : atI xs ((i : Int) - 1) = some v := by
  unfold atI ixN
  rw [hn]
  by_cases hi : 0 < i
  · rw [if_pos (by omega), if_pos (by omega)]
    have e : ((i : Int) - 1).toNat = (i + n - 1) % n := by
      have : (i + n - 1) = (i - 1) + n := by omega
      rw [this, Nat.add_mod_right, Nat.mod_eq_of_lt (by omega)]
      omega
    show xs[((i : Int) - 1).toNat]? = some v
    rw [e]
    exact h
  · have e0 : i = 0 := by omega
    subst e0
    rw [if_neg (by omega), if_pos (by omega)]
    have e : ((((0 : Nat) : Int) - 1) + (n : Int)).toNat = (0 + n - 1) % n := by
      rw [Nat.mod_eq_of_lt (by omega)]
      omega
    show xs[((((0 : Nat) : Int) - 1) + (n : Int)).toNat]? = some v
    rw [e]
    exact h
def RatsAt (K : PySem.W.Frag) (H : Hp) (p : Addr) (rs : List (Int × Int)) : Prop := ∃ ys, H p = some (.lst ys) ∧ Al (Rat2 K H) ys rs
theorem Rat2.mu {H : Hp} {l : Addr} {o : HO} {ys : List V} {v : V} {r : Int × Int} (h : Rat2 K H v r) (hl : H l = some (.lst ys)) : Rat2 K (upd H l o) v r := by
  obtain ⟨a, e, h1⟩ := h
  exact ⟨a, e, mu_t h1 hl⟩
def spLens (K : PySem.W.Frag) : Sp := fun vs H Q _ => ∃ v s a L, vs = [v, .ref a] ∧ BoxAt K H v s ∧ BoxLe s ∧ LstOf K H a L ∧ RingOk L ∧ NzOk L ∧ ∀ p H', Ex H H' → H p = none → RatsAt K H' p (ringLens s L) → Q (.ref p) H'
theorem C_ring_lengths (E : Env K mg) : FnC P w K mg base "ring_lengths" 6 ["box", "found"] [] (spLens K) := by
  have C_middle_length := C_middle_length (P := P) (w := w) (base := base) E
  refine .of E.d_ring_lengths E.g_ring_lengths sc_ring_lengths (fun vs H Q E h => ?_) (fun _ _ _ _ _ _ us hl => match us, hl with | [_, _], _ => rfl) (fun cdv A outer s0 H vs Q E' hr h => ?_)
  · obtain ⟨v, s, a, L, rfl, _⟩ := h
    rfl
  · obtain ⟨v, s, a, L, rfl, hb, hs, ⟨ys, ha, al⟩, ⟨n0, n4, ok⟩, nz, q⟩ := h
    refine ⟨_, (pss_cons (ps_set (i := 2) sc_ring_lengths.nd rfl (by first | exact Or.inl rfl | exact Or.inr rfl) (pe_lst pa_nil))
      (pss_cons (ps_for PassesOwn.never rfl (pi_enum (by rfl) E.b_enumerate (pa_cons (pv 1) pa_nil)) (pg_tup rfl (pgs_cons (pg_name (i := 3) sc_ring_lengths.nd rfl (by first | exact Or.inl rfl | exact Or.inr rfl)) (pgs_cons (pg_name (i := 4) sc_ring_lengths.nd rfl (by first | exact Or.inl rfl | exact Or.inr rfl)) pgs_nil))) (pss_one (ps_expr (pe_bm PySem.F.plainAttrs_list PySem.F.slot_list_append PySem.F.type_list_append mt_append (pv 2) (pa_cons (pe_c C_middle_length (hr.mono (by decide)) rfl (pa_cons (pv 0) (pa_cons (pv 4) (pa_cons (pe_fld (pe_ix ix_list (pv 1) (pe_op op_sub (pv 3) pe_int) (fun _ _ => rfl)) (by rfl)) (pa_cons (pe_fld (pe_ix ix_list (pv 1) (pe_op op_mod (pe_op op_add (pv 3) pe_int) (pe_callB call_len_seq (by rfl) E.b_len PySem.boot_len (pa_cons (pv 1) pa_nil))) (fun _ _ => rfl)) (by rfl)) pa_nil))))) pa_nil)))))
      (pss_one (ps_ret (pv 2))))), ?_⟩
    k_all
    rename_i r np0 H1 e1 l1
    have hle : ys.length = L.length := al.1
    have hrl : (ringLens s L).length = L.length := by unfold ringLens; rw [List.length_map, List.length_range]
    refine ⟨a, ys, rfl, sl_at (e1 _ _ ha), for_enumL (xs := ys) (fun i σ H' => ∃ z1 z2, σ = [some v, some (.ref a), some (.ref r), z1, z2] ∧ Ex H H' ∧ RatsAt K H' r ((ringLens s L).take i)) ⟨_, _, rfl, e1, [], l1, Al.nil⟩ (fun i σ H' _ h => ?_) (fun i x T σ H' H3 hi h nT e3 hT => ?_) (fun σ H' h => ?_)⟩
    · obtain ⟨_, _, _, e, _⟩ := h
      exact sl_at (e _ _ ha)
    · obtain ⟨z1, z2, rfl, e, zs, hR, hA⟩ := h
      have e03 := e.trans e3
      obtain ⟨t, hti, hx⟩ := al.atv hi
      have hil := (List.getElem?_eq_some_iff.mp hti).1
      have ht := rAt_at hti
      obtain ⟨u, hu, hxu⟩ := al.at (rAt_mod n0 (i + 1))
      obtain ⟨p2, dx2, b2, rfl, hp2, hpb2⟩ := (hxu.mono e03).ref
      obtain ⟨u3, hu3, hxu3⟩ := al.at (rAt_mod n0 (i + L.length - 1))
      obtain ⟨p3, dx3, b3, rfl, hp3, hpb3⟩ := (hxu3.mono e03).ref
      obtain ⟨okt, okn⟩ := ok i
      obtain ⟨⟨okf2, okd2⟩, _⟩ := ok (i + 1)
      obtain ⟨⟨okf3, okd3⟩, okn3⟩ := ok (i + L.length - 1)
      have e33 : rAt L (i + L.length - 1 + 1) = rAt L i := by
        unfold rAt
        have : i + L.length - 1 + 1 = i + L.length := by omega
        rw [this, Nat.add_mod_right]
      rw [e33] at okn3
      rw [ht] at okt okn okn3
      have nzi := nz i
      rw [ht] at nzi
      have ha3 := e03 _ _ ha
      have hR3 := e3 _ _ hR
      k_all
      refine w_ixL (sl_at ha3) (atI_back hle hil hu3) ?_
      k_all
      refine w_lenL (sl_at ha3) ?_
      k_all
      refine w_ixL (sl_at ha3) (atI_nat (i := (i + 1) % L.length) hu |> (fun h => by rw [emod_nat, hle]; exact h)) ?_
      k_all
      refine ⟨_, s, _, t, _, _, rfl, hb.mono e03, hs, hx.mono e03, okt, nzi, okf3, okf2, fun h => okn3 h.symm, okn, fun u4 H4 e4 hr4 => ?_⟩
      have hR4 := (e3.trans e4) _ _ hR
      have hzl : zs.length = i := by rw [hA.1, List.length_take, hrl]; omega
      k_all
      refine w_app hR4 (by omega) ?_
      generalize hG : upd _ _ _ = H5
      have e5 : Ex H H5 := ex_mut hG (e03.trans e4) np0
      have l5 := at_of hG
      k_all
      refine ⟨_, _, rfl, e5, _, l5, ?_⟩
      have hg : (ringLens s L)[i]? = some (midLen s t (rAt L (i + L.length - 1)).face (rAt L (i + 1)).face) := by
        unfold ringLens
        rw [List.getElem?_map, List.getElem?_range hil]
        show some (midLen s (rAt L i) _ _) = _
        rw [ht]
      rw [List.take_add_one, hg]
      exact Al.snoc ((hA.imp fun _ _ h => h.mono (e3.trans e4)).imp fun _ _ h => hG ▸ h.mu hR4) (hG ▸ hr4.mu hR4)
    · obtain ⟨z1, z2, rfl, e, hR⟩ := h
      rw [hle, ← hrl, List.take_length] at hR
      k_all
      exact q _ _ e np0 hR
/-- the length of a ring, whole -/
def ringLen (s : T3) (L : List StV) : Int := (sumM (ringLens s L)).1
def LenOk (s : T3) (L : List StV) : Prop := (∀ r ∈ ringLens s L, 0 < r.2 ∧ r.2 ≤ 10000) ∧ ∀ i, 0 < (sumM ((ringLens s L).take i)).2 ∧ (sumM ((ringLens s L).take i)).2 ≤ 10000
def spLen (K : PySem.W.Frag) : Sp := fun vs H Q _ => ∃ v s a L, vs = [v, .ref a] ∧ BoxAt K H v s ∧ BoxLe s ∧ LstOf K H a L ∧ RingOk L ∧ NzOk L ∧ LenOk s L ∧ ∀ H', Ex H H' → Q (.int (ringLen s L)) H'
theorem C_ring_length (E : Env K mg) : FnC P w K mg base "ring_length" 7 ["box", "found"] [] (spLen K) := by
  have C_ring_lengths := C_ring_lengths (P := P) (w := w) (base := base) E
  have C_sum_of := C_sum_of (P := P) (w := w) (base := base) E
  refine .of E.d_ring_length E.g_ring_length sc_ring_length (fun vs H Q E h => ?_) (fun _ _ _ _ _ _ us hl => match us, hl with | [_, _], _ => rfl) (fun cdv A outer s0 H vs Q E' hr h => ?_)
  · obtain ⟨v, s, a, L, rfl, _⟩ := h
    rfl
  · obtain ⟨v, s, a, L, rfl, hb, hs, hL, ok, nz, ⟨r1, r2⟩, q⟩ := h
    refine ⟨_, (pss_one (ps_ret (pe_ix ix_tup (pe_c C_sum_of (hr.mono (by decide)) rfl (pa_cons (pe_c C_ring_lengths (hr.mono (by decide)) rfl (pa_cons (pv 0) (pa_cons (pv 1) pa_nil))) pa_nil)) pe_int (fun _ _ => rfl)))), ?_⟩
    k_all
    refine ⟨_, s, a, L, rfl, hb, hs, hL, ok, nz, fun p H1 e1 np ⟨ys, hp, al⟩ => ?_⟩
    k_all
    refine ⟨p, ys, _, rfl, sl_at hp, al, r1, r2, fun u H2 e2 ⟨b, eu, hb2⟩ => ?_⟩
    subst eu
    k_all
    exact q _ (e1.trans e2)
end TP

/-! W12 -/
set_option Elab.async false
set_option linter.all false
set_option maxRecDepth 100000
set_option maxHeartbeats 4000000
-- k_mem: a fact of the heap as it is now, from an older one; k_upd: one step of a reading; k_all: as many as go

namespace TP
open PySem PySem.Spec PyProof.Rows L2
open PySem.W (minOf maxOf Tup DatumOrd Datum)
variable {P : Program} {w : World} {K : PySem.W.Frag} {mg : Str → Option Value} {base : Heap}
/-! ### lists cut and joined -/
section
variable {H : Hp} {Q : VK} {a b : Addr} {xs ys : List V}
theorem w_slL {lo hi : Option Int} (h : SqL K H a xs) (q : ∀ p H', H p = none → Ex H H' → H' p = some (.lst (cutV xs lo hi)) → Q (.ref p) H') : rSlL K (.ref a) lo hi H Q := ⟨a, xs, rfl, h, fun p hp => q p _ hp (Evl.Ex.new hp) upd_same⟩
theorem w_cat (h : H a = some (.lst xs)) (h2 : H b = some (.lst ys)) (z : xs.length + ys.length ≤ 100000) (q : ∀ p H', H p = none → Ex H H' → H' p = some (.lst (xs ++ ys)) → Q (.ref p) H') : rCat (.ref a) (.ref b) H Q := ⟨a, b, xs, ys, rfl, rfl, h, h2, Evl.sz_of z, fun p hp => q p _ hp (Evl.Ex.new hp) upd_same⟩
end
theorem w_chain {r r' : R2} {ta tb tc : TE} {σ : L2.St} {H : Hp} {Q : VK} (h : ta σ H fun x H1 => tb σ H1 fun y H2 => r x y H2 fun z H3 => ∃ k, z = .bl k ∧ (if k = true then tc σ H3 fun w' H4 => r' y w' H4 Q else Q (.bl false) H3)) : tChain r r' ta tb tc σ H Q := h
theorem w_back {K : PySem.W.Frag} {te : TE} {σ : L2.St} {H : Hp} {Q : VK} (h : te σ H fun x H1 => ∃ a xs, x = .ref a ∧ SqT K H1 a xs ∧ 0 < xs.length ∧ ∀ p, H1 p = none → Q (.ref p) (upd H1 p (.tup (xs.drop 1).reverse))) : tBackT K te σ H Q := h
/-- begun at the k-th -/
def rotL {α : Type} (L : List α) (k : Nat) : List α := L.drop k ++ L.take k
theorem rotL_vi (L : List Int) (k : Nat) : vi (rotL L k) = (vi L).drop k ++ (vi L).take k := by
  unfold vi rotL
  rw [List.map_append, List.map_drop, List.map_take]
theorem rotL_len {α : Type} (L : List α) (k : Nat) : (rotL L k).length = L.length := by
  unfold rotL
  rw [List.length_append, List.length_drop, List.length_take]
  omega
/-! ### least_turn -/
def bestT (L : List Int) : Nat → Nat
  | 0 => 0
  | i + 1 => if DatumOrd.lt (rotL L (i + 1)) (rotL L (bestT L i)) = true then i + 1 else bestT L i
theorem bestT_le (L : List Int) : ∀ i, bestT L i ≤ i
  | 0 => Nat.le_refl _
  | i + 1 => by
    unfold bestT
    split
    · exact Nat.le_refl _
    · exact Nat.le_succ_of_le (bestT_le L i)
def leastTurn (L : List Int) : Nat := bestT L (L.length - 1)
def spTurn (K : PySem.W.Frag) : Sp := fun vs H Q _ => ∃ a L, vs = [.ref a] ∧ SqL K H a (vi L) ∧ 0 < L.length ∧ L.length ≤ 400 ∧ ∀ H', Ex H H' → Q (.int (leastTurn L : Nat)) H'
theorem C_least_turn (E : Env K mg) : FnC P w K mg base "least_turn" 1 ["row"] [] (spTurn K) := by
  refine .of E.d_least_turn E.g_least_turn sc_least_turn (fun vs H Q E h => ?_) (fun _ _ _ _ _ _ us hl => match us, hl with | [_], _ => rfl) (fun cdv A outer s0 H vs Q E' hr h => ?_)
  · obtain ⟨a, L, rfl, _⟩ := h
    rfl
  · obtain ⟨a, L, rfl, ha, n0, n4, q⟩ := h
    refine ⟨_, (pss_cons (ps_set (i := 1) sc_least_turn.nd rfl (by first | exact Or.inl rfl | exact Or.inr rfl) pe_int)
      (pss_cons (ps_for PassesOwn.never rfl (pi_range2 rfl E.b_range (pa_cons pe_int (pa_cons (pe_callB call_len_seq (by rfl) E.b_len PySem.boot_len (pa_cons (pv 0) pa_nil)) pa_nil))) (pg_name (i := 2) sc_least_turn.nd rfl (by first | exact Or.inl rfl | exact Or.inr rfl)) (pss_one (ps_if (pt_cmpR (op_ltX (α := List Int) hr.units) (pe_op op_cat (pe_slice sl_list (pv 0) (po_some (pv 2)) po_none) (pe_slice sl_list (pv 0) po_none (po_some (pv 2)))) (pe_op op_cat (pe_slice sl_list (pv 0) (po_some (pv 1)) po_none) (pe_slice sl_list (pv 0) po_none (po_some (pv 1)))) (nomark _)) (pss_one (ps_set (i := 1) sc_least_turn.nd rfl (by first | exact Or.inl rfl | exact Or.inr rfl) (pv 2))) pss_nil)))
      (pss_one (ps_ret (pv 1))))), ?_⟩
    have hl : (vi L).length = L.length := by unfold vi; rw [List.length_map]
    k_all
    refine w_lenL ha ?_
    rw [hl]
    refine w_itR2 (by omega) ?_
    have hn : ((L.length : Int) - 1).toNat = L.length - 1 := by omega
    rw [hn]
    refine for_range (n := L.length - 1) (fun i σ H' => ∃ z, σ = [some (.ref a), some (.int (bestT L i : Nat)), z] ∧ Ex H H') ⟨_, rfl, Evl.Ex.refl _⟩ (fun i σ H' hi h => ?_) (fun σ H' h => ?_)
    · obtain ⟨z, rfl, e⟩ := h
      have hb := bestT_le L i
      k_all
      refine w_slL (ex_l e ha) fun p1 H1 n1 e1 l1 => ?_
      k_all
      refine w_slL (ex_l (e.trans e1) ha) fun p2 H2 n2 e2 l2 => ?_
      rw [cut_from (by omega)] at l1
      rw [cut_to (by omega)] at l2
      refine w_cat (e2 _ _ l1) l2 (by rw [List.length_drop, List.length_take, hl]; omega) fun p3 H3 n3 e3 l3 => ?_
      have e03 := ((e.trans e1).trans e2).trans e3
      k_all
      refine w_slL (ex_l e03 ha) fun p4 H4 n4' e4 l4 => ?_
      k_all
      refine w_slL (ex_l (e03.trans e4) ha) fun p5 H5 n5 e5 l5 => ?_
      rw [cut_from (by omega)] at l4
      rw [cut_to (by omega)] at l5
      refine w_cat (e5 _ _ l4) l5 (by rw [List.length_drop, List.length_take, hl]; omega) fun p6 H6 n6 e6 l6 => ?_
      have hi1 : ((1 : Int) + (i : Int)).toNat = i + 1 := by omega
      rw [hi1] at l3
      rw [Int.toNat_natCast] at l6
      have d3 : DAt K H6 (.ref p3) (rotL L (i + 1)) := d_lst (sl_at (((e4.trans e5).trans e6) _ _ l3)) (by rw [← rotL_vi]; exact DAll.ints _)
      have d6 : DAt K H6 (.ref p6) (rotL L (bestT L i)) := d_lst (sl_at l6) (by rw [← rotL_vi]; exact DAll.ints _)
      refine w_ltX _ _ d3 d6 ?_
      have ee := (((e03.trans e4).trans e5).trans e6)
      cases hlt : DatumOrd.lt (rotL L (i + 1)) (rotL L (bestT L i)) with
      | true =>
        k_all
        refine ⟨some (.int ((1 : Int) + (i : Int))), ?_, ee⟩
        have e1 : bestT L (i + 1) = i + 1 := by
          show (if DatumOrd.lt (rotL L (i + 1)) (rotL L (bestT L i)) = true then i + 1 else bestT L i) = i + 1
          rw [if_pos hlt]
        rw [e1]
        have e2 : (1 : Int) + (i : Int) = ((i + 1 : Nat) : Int) := by omega
        rw [e2]
        rfl
      | false =>
        k_all
        refine ⟨some (.int ((1 : Int) + (i : Int))), ?_, ee⟩
        have e1 : bestT L (i + 1) = bestT L i := by
          show (if DatumOrd.lt (rotL L (i + 1)) (rotL L (bestT L i)) = true then i + 1 else bestT L i) = bestT L i
          rw [if_neg (by rw [hlt]; decide)]
        rw [e1]
        rfl
    · obtain ⟨z, rfl, e⟩ := h
      k_all
      exact q _ e
/-! ### turn_couple, slope_to: any answer serves -/
def spCouple (K : PySem.W.Frag) : Sp := fun vs H Q _ => ∃ a x y t, vs = [.ref a, .int t] ∧ SqT K H a (vi [x, y]) ∧ ∀ x' y' p H', Ex H H' → H' p = some (.tup (vi [x', y'])) → Q (.ref p) H'
theorem C_turn_couple (E : Env K mg) : FnC P w K mg base "turn_couple" 1 ["couple", "turn"] [] (spCouple K) := by
  refine .of E.d_turn_couple E.g_turn_couple sc_turn_couple (fun vs H Q E h => ?_) (fun _ _ _ _ _ _ us hl => match us, hl with | [_, _], _ => rfl) (fun cdv A outer s0 H vs Q E' hr h => ?_)
  · obtain ⟨a, x, y, t, rfl, _⟩ := h
    rfl
  · obtain ⟨a, x, y, t, rfl, ha, q⟩ := h
    refine ⟨_, (pss_cons (ps_asg (pv 0) (pg_tup rfl (pgs_cons (pg_name (i := 2) sc_turn_couple.nd rfl (by first | exact Or.inl rfl | exact Or.inr rfl)) (pgs_cons (pg_name (i := 3) sc_turn_couple.nd rfl (by first | exact Or.inl rfl | exact Or.inr rfl)) pgs_nil))))
      (pss_cons (ps_if (pt_cmpR op_eq (pv 1) pe_int (nomark _)) (pss_one (ps_ret (pe_tup (pa_cons (pe_un un_neg (pv 3)) (pa_cons (pv 2) pa_nil))))) pss_nil)
      (pss_cons (ps_if (pt_cmpR op_eq (pv 1) pe_int (nomark _)) (pss_one (ps_ret (pe_tup (pa_cons (pe_un un_neg (pv 2)) (pa_cons (pe_un un_neg (pv 3)) pa_nil))))) pss_nil)
      (pss_cons (ps_if (pt_cmpR op_eq (pv 1) pe_int (nomark _)) (pss_one (ps_ret (pe_tup (pa_cons (pv 3) (pa_cons (pe_un un_neg (pv 2)) pa_nil))))) pss_nil)
      (pss_one (ps_ret (pe_tup (pa_cons (pv 2) (pa_cons (pv 3) pa_nil))))))))), ?_⟩
    k_all
    refine if_int (fun h1 => ?_) (fun h1 => ?_)
    · k_all
      exact q _ _ _ _ (by assumption) (by assumption)
    · k_all
      refine if_int (fun h1 => ?_) (fun h1 => ?_)
      · k_all
        exact q _ _ _ _ (by assumption) (by assumption)
      · k_all
        refine if_int (fun h1 => ?_) (fun h1 => ?_)
        · k_all
          exact q _ _ _ _ (by assumption) (by assumption)
        · k_all
          exact q _ _ _ _ (by assumption) (by assumption)
def spSlopeTo (K : PySem.W.Frag) : Sp := fun vs H Q _ => ∃ f a d, vs = [.int f, .ref a] ∧ FaceOk f ∧ SqT K H a (vi (T3.l d)) ∧ ∀ v H', Ex H H' → Q v H'
theorem C_slope_to (E : Env K mg) : FnC P w K mg base "slope_to" 4 ["face", "direction"] [] (spSlopeTo K) := by
  have C_face_axes := C_face_axes (P := P) (w := w) (base := base) E
  have C_turn_couple := C_turn_couple (P := P) (w := w) (base := base) E
  refine .of E.d_slope_to E.g_slope_to sc_slope_to (fun vs H Q E h => ?_) (fun _ _ _ _ _ _ us hl => match us, hl with | [_, _], _ => rfl) (fun cdv A outer s0 H vs Q E' hr h => ?_)
  · obtain ⟨f, a, d, rfl, _⟩ := h
    rfl
  · obtain ⟨f, a, d, rfl, hf, hd, q⟩ := h
    refine ⟨_, (pss_cons (ps_asg (pe_c C_face_axes (hr.mono (by decide)) rfl (pa_cons (pv 0) pa_nil)) (pg_tup rfl (pgs_cons (pg_name (i := 2) sc_slope_to.nd rfl (by first | exact Or.inl rfl | exact Or.inr rfl)) (pgs_cons (pg_name (i := 3) sc_slope_to.nd rfl (by first | exact Or.inl rfl | exact Or.inr rfl)) pgs_nil))))
      (pss_cons (ps_set (i := 4) sc_slope_to.nd rfl (by first | exact Or.inl rfl | exact Or.inr rfl) (pe_tup (pa_cons (pe_ix ix_tup (pv 1) (pv 2) (fun _ _ => rfl)) (pa_cons (pe_ix ix_tup (pv 1) (pv 3) (fun _ _ => rfl)) pa_nil))))
      (pss_cons (ps_for PassesOwn.never rfl (pi_range1 rfl E.b_range (pa_cons pe_int pa_nil)) (pg_name (i := 5) sc_slope_to.nd rfl (by first | exact Or.inl rfl | exact Or.inr rfl)) (pss_cons (ps_asg (pe_c C_turn_couple (hr.mono (by decide)) rfl (pa_cons (pv 4) (pa_cons (pv 5) pa_nil))) (pg_tup rfl (pgs_cons (pg_name (i := 6) sc_slope_to.nd rfl (by first | exact Or.inl rfl | exact Or.inr rfl)) (pgs_cons (pg_name (i := 7) sc_slope_to.nd rfl (by first | exact Or.inl rfl | exact Or.inr rfl)) pgs_nil))))
      (pss_one (ps_if (PW.pt (pw_and (pt_cmpR op_gt (pv 6) pe_int (nomark _)) (pw_and1 (pt_cmpR op_ge (pv 7) pe_int (nomark _))))) (pss_one (ps_ret (pe_tup (pa_cons (pv 6) (pa_cons (pv 7) pa_nil))))) pss_nil))))
      (pss_one (ps_ret (pv 4)))))), ?_⟩
    obtain ⟨h1, h2, h3, h4⟩ := ax_ok hf
    k_all
    refine ⟨_, rfl, hf, fun x hx => ?_⟩
    have hx0 := hx H
    k_all
    refine w_ixT hd (at3 d h1 h2) ?_
    k_all
    refine w_ixT hd (at3 d h3 h4) ?_
    k_all
    rename_i c nc H1 e1 l1
    refine for_range (n := 4) (fun i σ H' => ∃ z1 z2 z3, σ = [some (.int f), some (.ref a), some (.int (axes f).1), some (.int (axes f).2), some (.ref c), z1, z2, z3] ∧ Ex H1 H') ⟨_, _, _, rfl, Evl.Ex.refl _⟩ (fun i σ H' hi h => ?_) (fun σ H' h => ?_)
    · obtain ⟨z1, z2, z3, rfl, e⟩ := h
      k_all
      refine ⟨c, _, _, _, rfl, st_at (e _ _ l1), fun x' y' p H2 e2 l2 => ?_⟩
      k_all
      refine if_dec (fun h5 => ?_) (fun h5 => ?_)
      · k_all
        refine if_dec (fun h6 => ?_) (fun h6 => ?_)
        · k_all
          exact q _ _ (e1.trans (e.trans (e2.trans (by assumption))))
        · k_all
          exact ⟨_, _, _, rfl, e.trans e2⟩
      · k_all
        exact ⟨_, _, _, rfl, e.trans e2⟩
    · obtain ⟨z1, z2, z3, rfl, e⟩ := h
      k_all
      exact q _ _ (e1.trans e)
/-! ### check_facerow, back_row, least_begun, least_row -/
def fAt (L : List Int) (i : Nat) : Int := L.getD (i % L.length) 0
def RowOk (L : List Int) : Prop := 3 ≤ L.length ∧ L.length ≤ 400 ∧ ∀ i, FaceOk (fAt L i) ∧ fAt L i / 2 ≠ fAt L (i + 1) / 2 ∧ fAt L i ≠ fAt L (i + 2)
theorem fAt_at {L : List Int} {i : Nat} {n : Int} (h : L[i]? = some n) : fAt L i = n := by
  have hi := (List.getElem?_eq_some_iff.mp h).1
  unfold fAt
  rw [Nat.mod_eq_of_lt hi, List.getD_eq_getElem?_getD, h]
  rfl
theorem fAt_mod {L : List Int} (h : 0 < L.length) (i : Nat) : L[i % L.length]? = some (fAt L i) := by
  have hi := Nat.mod_lt i h
  unfold fAt
  rw [List.getD_eq_getElem?_getD, List.getElem?_eq_getElem hi]
  rfl
theorem vi_of {ns : List Int} {i : Nat} {n : Int} (h : ns[i]? = some n) : (vi ns)[i]? = some (.int n) := by
  unfold vi
  rw [List.getElem?_map, h]
  rfl
theorem emod_nat2 (i n : Nat) : ((i : Int) + 2) % (n : Int) = (((i + 2) % n : Nat) : Int) := by
  rw [Int.natCast_emod, Int.natCast_add]
  rfl
def spRow (K : PySem.W.Frag) : Sp := fun vs H Q _ => ∃ a L, vs = [.ref a] ∧ SqT K H a (vi L) ∧ RowOk L ∧ ∀ H', Ex H H' → Q (.ref a) H'
theorem C_check_facerow (E : Env K mg) : FnC P w K mg base "check_facerow" 2 ["row"] [] (spRow K) := by
  have C_is_whole := C_whole3 (P := P) (w := w) (base := base) E
  refine .of E.d_check_facerow E.g_check_facerow sc_check_facerow (fun vs H Q E h => ?_) (fun _ _ _ _ _ _ us hl => match us, hl with | [_], _ => rfl) (fun cdv A outer s0 H vs Q E' hr h => ?_)
  · obtain ⟨a, L, rfl, _⟩ := h
    rfl
  · obtain ⟨a, L, rfl, ha, ⟨n3, n4, ok⟩, q⟩ := h
    refine ⟨_, (pss_cons (ps_if (PW.pt (pw_or (pt_not (pt_val (pe_callB call_isiT (by rfl) E.b_isinstance (by decide +kernel) (pa_cons (pv 0) (pa_cons (pe_tup (pa_cons (pe_bltn (v := .ty "list") (by rfl) E.b_list (by decide +kernel) rfl) (pa_cons (pe_bltn (v := .ty "tuple") (by rfl) E.b_tuple (by decide +kernel) rfl) pa_nil))) pa_nil))))) (pw_or1 (pt_not (pt_chain op_le op_le pe_int (pe_callB call_len_seq (by rfl) E.b_len PySem.boot_len (pa_cons (pv 0) pa_nil)) pe_int))))) (pss_one ps_never) pss_nil)
      (pss_cons (ps_for PassesOwn.never rfl (pi_enumT (by rfl) E.b_enumerate (pa_cons (pv 0) pa_nil)) (pg_tup rfl (pgs_cons (pg_name (i := 1) sc_check_facerow.nd rfl (by first | exact Or.inl rfl | exact Or.inr rfl)) (pgs_cons (pg_name (i := 2) sc_check_facerow.nd rfl (by first | exact Or.inl rfl | exact Or.inr rfl)) pgs_nil))) (pss_one (ps_if (pt_not (pt_val (pe_c C_is_whole (hr.mono (by decide)) rfl (pa_cons (pv 2) (pa_cons pe_int (pa_cons pe_int pa_nil)))))) (pss_one ps_never) pss_nil)))
      (pss_cons (ps_set (i := 3) sc_check_facerow.nd rfl (by first | exact Or.inl rfl | exact Or.inr rfl) (pe_callB call_len_seq (by rfl) E.b_len PySem.boot_len (pa_cons (pv 0) pa_nil)))
      (pss_cons (ps_for PassesOwn.never rfl (pi_enumT (by rfl) E.b_enumerate (pa_cons (pv 0) pa_nil)) (pg_tup rfl (pgs_cons (pg_name (i := 1) sc_check_facerow.nd rfl (by first | exact Or.inl rfl | exact Or.inr rfl)) (pgs_cons (pg_name (i := 2) sc_check_facerow.nd rfl (by first | exact Or.inl rfl | exact Or.inr rfl)) pgs_nil))) (pss_one (ps_if (PW.pt (pw_or (pt_cmpR op_eq (pe_op op_fdiv (pv 2) pe_int) (pe_op op_fdiv (pe_ix ix_tup (pv 0) (pe_op op_mod (pe_op op_add (pv 1) pe_int) (pv 3)) (fun _ _ => rfl)) pe_int) (nomark _)) (pw_or1 (pt_cmpR op_eq (pv 2) (pe_ix ix_tup (pv 0) (pe_op op_mod (pe_op op_add (pv 1) pe_int) (pv 3)) (fun _ _ => rfl)) (nomark _))))) (pss_one ps_never) pss_nil)))
      (pss_one (ps_ret (pe_callTy call_tuple_of (by rfl) E.b_tuple (by decide +kernel) (pa_cons (pv 0) pa_nil)))))))), ?_⟩
    have hl : (vi L).length = L.length := by unfold vi; rw [List.length_map]
    k_all
    rename_i t nt H1 e1 l1
    refine isi_tupT (ex_t e1 ha) l1 ?_
    k_all
    refine w_chain ?_
    k_all
    refine w_lenT (ex_t e1 ha) ?_
    rw [hl]
    k_all
    refine if_dec (fun _ => ?_) (fun h => (h (by omega)).elim)
    k_all
    refine if_ndec (fun h => (h (by omega)).elim) (fun _ => ?_)
    k_all
    refine ⟨a, vi L, rfl, ex_t e1 ha, for_enumT (xs := vi L) (fun i σ H' => ∃ z1 z2 z3, σ = [some (.ref a), z1, z2, z3] ∧ Ex H H') ⟨_, _, _, rfl, e1⟩ (fun i σ H' _ h => ?_) (fun i x T σ H' H3 hi h nT e3 hT => ?_) (fun σ H' h => ?_)⟩
    · obtain ⟨_, _, _, _, e⟩ := h
      exact ex_t e ha
    · obtain ⟨z1, z2, z3, rfl, e⟩ := h
      obtain ⟨n, rfl, hn⟩ := vi_at hi
      have ok1 := (ok i).1
      rw [fAt_at hn] at ok1
      k_all
      refine ⟨_, _, _, rfl, ?_⟩
      rw [decide_eq_true ok1.1, decide_eq_true ok1.2]
      refine w_bl (b := true) ?_
      k_all
      exact ⟨_, _, _, rfl, e.trans e3⟩
    · obtain ⟨z1, z2, z3, rfl, e⟩ := h
      k_all
      refine w_lenT (ex_t e ha) ?_
      rw [hl]
      k_all
      refine ⟨a, vi L, rfl, ex_t e ha, for_enumT (xs := vi L) (fun i σ H' => ∃ z1 z2, σ = [some (.ref a), z1, z2, some (.int (L.length : Nat))] ∧ Ex H H') ⟨_, _, rfl, e⟩ (fun i σ H' _ h => ?_) (fun i x T σ H' H3 hi h nT e3 hT => ?_) (fun σ H' h => ?_)⟩
      · obtain ⟨_, _, _, e⟩ := h
        exact ex_t e ha
      · obtain ⟨z1, z2, rfl, e⟩ := h
        obtain ⟨n, rfl, hn⟩ := vi_at hi
        obtain ⟨ok1, ok2, ok3⟩ := ok i
        rw [fAt_at hn] at ok1 ok2 ok3
        have h1 := vi_of (fAt_mod (L := L) (by omega) (i + 1))
        have h2 := vi_of (fAt_mod (L := L) (by omega) (i + 2))
        have ha3 := ex_t (e.trans e3) ha
        k_all
        refine w_ixT ha3 (atI_nat h1 |> (fun h => by rw [emod_nat]; exact h)) ?_
        k_all
        refine if_int (fun h => (ok2 h).elim) (fun _ => ?_)
        k_all
        refine w_ixT ha3 (atI_nat h2 |> (fun h => by rw [emod_nat2]; exact h)) ?_
        k_all
        refine if_int (fun h => (ok3 h).elim) (fun _ => ?_)
        k_all
        exact ⟨_, _, rfl, e.trans e3⟩
      · obtain ⟨z1, z2, rfl, e⟩ := h
        k_all
        refine w_tupT (ex_t e ha) ?_
        exact q _ e
def backR (L : List Int) : List Int := L.take 1 ++ (L.drop 1).reverse
theorem backR_vi (L : List Int) : vi (backR L) = (vi L).take 1 ++ ((vi L).drop 1).reverse := by
  unfold vi backR
  rw [List.map_append, List.map_take, List.map_reverse, List.map_drop]
def spBack (K : PySem.W.Frag) : Sp := fun vs H Q _ => ∃ a L, vs = [.ref a] ∧ SqT K H a (vi L) ∧ RowOk L ∧ ∀ p H', Ex H H' → SqT K H' p (vi (backR L)) → Q (.ref p) H'
theorem C_back_row (E : Env K mg) : FnC P w K mg base "back_row" 3 ["row"] [] (spBack K) := by
  have C_check_facerow := C_check_facerow (P := P) (w := w) (base := base) E
  refine .of E.d_back_row E.g_back_row sc_back_row (fun vs H Q E h => ?_) (fun _ _ _ _ _ _ us hl => match us, hl with | [_], _ => rfl) (fun cdv A outer s0 H vs Q E' hr h => ?_)
  · obtain ⟨a, L, rfl, _⟩ := h
    rfl
  · obtain ⟨a, L, rfl, ha, ok, q⟩ := h
    refine ⟨_, (pss_cons (ps_set (i := 0) sc_back_row.nd rfl (by first | exact Or.inl rfl | exact Or.inr rfl) (pe_c C_check_facerow (hr.mono (by decide)) rfl (pa_cons (pv 0) pa_nil)))
      (pss_one (ps_ret (pe_op op_catA (pe_slice sl_tupA (pv 0) po_none (po_some pe_int)) (pe_backT (pv 0)))))), ?_⟩
    have hl : (vi L).length = L.length := by unfold vi; rw [List.length_map]
    have h3 := ok.1
    have h4 := ok.2.1
    k_all
    refine ⟨a, L, rfl, ha, ok, fun H1 e1 => ?_⟩
    k_all
    refine w_slA (ex_t e1 ha) fun p H2 e2 h2 => ?_
    rw [cut_to (by omega)] at h2
    refine w_back ?_
    k_all
    refine ⟨a, vi L, rfl, ex_t (e1.trans e2) ha, by omega, fun p3 n3 => ?_⟩
    generalize hG : upd _ _ _ = H3
    have e3 : Ex H2 H3 := ex_of hG n3
    have l3 := at_of hG
    refine w_catA (ex_t e3 h2) (st_at l3) (by rw [List.length_take, List.length_reverse, List.length_drop, hl]; omega) fun p4 H4 e4 h4 => ?_
    refine q p4 H4 (((e1.trans e2).trans e3).trans e4) ?_
    rw [backR_vi]
    exact h4
def minTup : List (Tup Int) → Tup Int
  | [] => ⟨[]⟩
  | x :: xs => minOf x xs
def rotsOf (L : List Int) : List (Tup Int) := (List.range L.length).map fun i => Tup.mk (rotL L i)
def leastBegun (L : List Int) : List Int := (minTup (rotsOf L)).items
theorem minOf_mem {α : Type} [DecidableEq α] [DatumOrd α] : ∀ (x : α) (xs : List α), minOf x xs = x ∨ minOf x xs ∈ xs := by
  intro x xs
  unfold minOf
  induction xs generalizing x with
  | nil => exact .inl rfl
  | cons y ys ih =>
    simp only [List.foldl_cons]
    split
    · rcases ih y with h | h
      · exact .inr (by rw [h]; exact List.mem_cons_self)
      · exact .inr (List.mem_cons_of_mem _ h)
    · rcases ih x with h | h
      · exact .inl h
      · exact .inr (List.mem_cons_of_mem _ h)
theorem leastBegun_rot (L : List Int) (h : 0 < L.length) : ∃ k, k < L.length ∧ leastBegun L = rotL L k := by
  unfold leastBegun
  obtain ⟨m, hm⟩ : ∃ m, L.length = m + 1 := ⟨L.length - 1, by omega⟩
  have e : ∃ x xs, rotsOf L = x :: xs := by
    unfold rotsOf
    rw [hm, List.range_succ_eq_map]
    exact ⟨_, _, rfl⟩
  obtain ⟨x, xs, e⟩ := e
  have hmem : minTup (rotsOf L) ∈ rotsOf L := by
    rw [e]
    show minOf x xs ∈ x :: xs
    rcases minOf_mem x xs with h | h
    · rw [h]; exact List.mem_cons_self
    · exact List.mem_cons_of_mem _ h
  unfold rotsOf at hmem
  obtain ⟨k, hk, ek⟩ := List.mem_map.mp hmem
  refine ⟨k, by simpa using hk, ?_⟩
  unfold rotsOf
  rw [← ek]
def spBegun (K : PySem.W.Frag) : Sp := fun vs H Q _ => ∃ a L, vs = [.ref a] ∧ SqT K H a (vi L) ∧ RowOk L ∧ ∀ p H', Ex H H' → SqT K H' p (vi (leastBegun L)) → Q (.ref p) H'
theorem C_least_begun (E : Env K mg) : FnC P w K mg base "least_begun" 3 ["row"] [] (spBegun K) := by
  have C_check_facerow := C_check_facerow (P := P) (w := w) (base := base) E
  refine .of E.d_least_begun E.g_least_begun sc_least_begun (fun vs H Q E h => ?_) (fun _ _ _ _ _ _ us hl => match us, hl with | [_], _ => rfl) (fun cdv A outer s0 H vs Q E' hr h => ?_)
  · obtain ⟨a, L, rfl, _⟩ := h
    rfl
  · obtain ⟨a, L, rfl, ha, ok, q⟩ := h
    refine ⟨_, (pss_cons (ps_set (i := 0) sc_least_begun.nd rfl (by first | exact Or.inl rfl | exact Or.inr rfl) (pe_c C_check_facerow (hr.mono (by decide)) rfl (pa_cons (pv 0) pa_nil)))
      (pss_one (ps_ret (pe_callB (cr_minX (α := PySem.W.Tup Int) rfl hr.units) (by rfl) E.b_min (by decide +kernel) (pa_cons (pe_lc (own := [("index", 1)]) rfl sc_least_begun.nd (pi_range1 rfl E.b_range (pa_cons (pe_callB call_len_seq (by rfl) E.b_len PySem.boot_len (pa_cons (pv 0) pa_nil)) pa_nil)) (blkOk_by (own := [("index", 1)]) (N := ["row", "index"]) (sc := defScope s_least_begun) (by decide +kernel)) (fun _ _ _ _ _ => by exact (pg_cast (pg_name (i := 1) sc_least_begun.nd rfl (by first | exact Or.inl rfl | exact Or.inr rfl)) (by (try simp only [blk_K]); rfl))) (fun _ _ _ _ _ => by exact (pts_cast pts_nil (by (try simp only [blk_K]); rfl))) (fun _ _ _ _ _ => by exact (pe_cast (pe_op op_catA (pe_slice sl_tupA (pv 0) (po_some (pv 1)) po_none) (pe_slice sl_tupA (pv 0) po_none (po_some (pv 1)))) (by (try simp only [blk_K]); rfl)))) pa_nil))))), ?_⟩
    have hl : (vi L).length = L.length := by unfold vi; rw [List.length_map]
    have h3 := ok.1
    have h4 := ok.2.1
    k_all
    refine ⟨a, L, rfl, ha, ok, fun H1 e1 => ?_⟩
    k_all
    refine w_lcR (n := L.length) (H1 := H1) (G := fun i y H => ∃ p, y = .ref p ∧ SqT K H p (vi (rotL L i))) (fun i y H1 H2 e h => ?_) (fun i y H1 D acc acc' hD h => ?_) (by omega) (fun R r => ?_) (fun i H2 hi e2 => ?_) mg_name (fun p H2 ys np e2 l2 told => ?_)
    · obtain ⟨p, h1, h2⟩ := h
      exact ⟨p, h1, ex_t e h2⟩
    · obtain ⟨p, h1, h2⟩ := h
      exact ⟨p, h1, mu_t h2 hD⟩
    · k_all
      refine w_lenT (ex_t e1 ha) ?_
      rw [hl]
      refine w_itR (by omega) ?_
      rw [Int.toNat_natCast]
      exact r
    · refine ⟨rfl, rfl, fun QV qv => ?_⟩
      have ha2 := ex_t (e1.trans e2) ha
      k_all
      refine w_slA ha2 fun p3 H3 e3 h3 => ?_
      k_all
      refine w_slA (ex_t e3 ha2) fun p4 H4 e4 h4 => ?_
      rw [cut_from (by omega)] at h3
      rw [cut_to (by omega)] at h4
      refine w_catA (ex_t e4 h3) h4 (by rw [List.length_drop, List.length_take, hl]; omega) fun p5 H5 e5 h5 => ?_
      refine qv _ _ ((e3.trans e4).trans e5) ⟨p5, rfl, ?_⟩
      rw [rotL_vi]
      have ei : ((0 : Int) + (i : Int)).toNat = i := by omega
      rw [ei] at h5
      exact h5
    · obtain ⟨m, hm⟩ : ∃ m, L.length = m + 1 := ⟨L.length - 1, by omega⟩
      obtain ⟨x, xs, ex⟩ : ∃ x xs, rotsOf L = x :: xs := by
        unfold rotsOf
        rw [hm, List.range_succ_eq_map]
        exact ⟨_, _, rfl⟩
      have hrl : (rotsOf L).length = L.length := by unfold rotsOf; rw [List.length_map, List.length_range]
      have hall : DAll K H2 ys (x :: xs) := by
        rw [← ex]
        refine DAll.of (by rw [told.1, hrl]) fun i v y h1 h2 => ?_
        obtain ⟨p5, rfl, h5⟩ := told.2 i v h1
        unfold rotsOf at h2
        rw [List.getElem?_map] at h2
        have hi : i < L.length := by
          have := (List.getElem?_eq_some_iff.mp h1).1
          rw [told.1] at this
          exact this
        rw [List.getElem?_range hi] at h2
        rw [← Option.some.inj h2]
        exact d_ints h5
      k_all
      refine ⟨p, ys, x, xs, rfl, sl_at l2, hall, fun i y h1 h2 => ?_⟩
      obtain ⟨p5, rfl, h5⟩ := told.2 i y h1
      refine q p5 H2 (e1.trans e2) ?_
      unfold leastBegun
      rw [ex]
      show SqT K H2 p5 (vi (minOf x xs).items)
      rw [← ex] at h2
      unfold rotsOf at h2
      rw [List.getElem?_map] at h2
      have hi : i < L.length := by
        have := (List.getElem?_eq_some_iff.mp h1).1
        rw [told.1] at this
        exact this
      rw [List.getElem?_range hi] at h2
      rw [← Option.some.inj h2]
      exact h5
end TP

/-! W13 -/
set_option Elab.async false
set_option linter.all false
set_option maxRecDepth 100000
set_option maxHeartbeats 4000000
-- k_mem: a fact of the heap as it is now, from an older one; k_upd: one step of a reading; k_all: as many as go

namespace TP
open PySem PySem.Spec PyProof.Rows L2
open PySem.W (minOf maxOf Tup DatumOrd Datum)
variable {P : Program} {w : World} {K : PySem.W.Frag} {mg : Str → Option Value} {base : Heap}
/-! ### a comprehension once its iterable is there -/
section
variable {K : PySem.W.Frag} {σ : L2.St} {H : Hp} {Q : VK} {te : TE} {tt : TT} {wi : TI} {g : TG} {vs : List Nat}
def LcG (g : TG) (tt : TT) (te : TE) (vs : List Nat) (σ : L2.St) (Q : VK) (J : It) (H : Hp) : Prop := tLc (fun _ H R => R J H) g tt te vs σ H Q
theorem w_lc (h : wi σ H (LcG g tt te vs σ Q)) : tLc wi g tt te vs σ H Q := h
theorem lcT {G : Nat → V → Hp → Prop} {a : Addr} {xs : List V} (m : ∀ i y H1 H2, Ex H1 H2 → G i y H1 → G i y H2) (mu : ∀ i y H1 D acc acc', H1 D = some (.lst acc) → G i y H1 → G i y (upd H1 D (.lst acc'))) (hn : xs.length ≤ 100000) (hx : SqT K H a xs)
    (turn : ∀ i x H', xs[i]? = some x → Ex H H' → g x (wipe σ vs) H' fun σ2 H2 => H2 = H' ∧ wipe σ2 vs = wipe σ vs ∧ ∀ QV : VK, (∀ y H3, Ex H' H3 → G i y H3 → QV y H3) → te σ2 H' QV)
    (mg : ∀ x σ H Q Q', (∀ σ' H', Q σ' H' → Q' σ' H') → g x σ H Q → g x σ H Q')
    (k : ∀ p H2 ys, H p = none → Ex H H2 → H2 p = some (.lst ys) → Told G xs.length ys H2 → Q (.ref p) H2) : LcG g tYes te vs σ Q (Itt K a) H :=
  w_lcT m mu hn hx (fun _ r => r) turn mg k
theorem lcL {G : Nat → V → Hp → Prop} {a : Addr} {xs : List V} (m : ∀ i y H1 H2, Ex H1 H2 → G i y H1 → G i y H2) (mu : ∀ i y H1 D acc acc', H1 D = some (.lst acc) → G i y H1 → G i y (upd H1 D (.lst acc'))) (hn : xs.length ≤ 100000) (hx : SqL K H a xs)
    (turn : ∀ i x H', xs[i]? = some x → Ex H H' → g x (wipe σ vs) H' fun σ2 H2 => H2 = H' ∧ wipe σ2 vs = wipe σ vs ∧ ∀ QV : VK, (∀ y H3, Ex H' H3 → G i y H3 → QV y H3) → te σ2 H' QV)
    (mg : ∀ x σ H Q Q', (∀ σ' H', Q σ' H' → Q' σ' H') → g x σ H Q → g x σ H Q')
    (k : ∀ p H2 ys, H p = none → Ex H H2 → H2 p = some (.lst ys) → Told G xs.length ys H2 → Q (.ref p) H2) : LcG g tYes te vs σ Q (Itl K a) H :=
  w_lcL m mu hn hx (fun _ r => r) turn mg k
theorem lcR {G : Nat → V → Hp → Prop} {n : Nat} (m : ∀ i y H1 H2, Ex H1 H2 → G i y H1 → G i y H2) (mu : ∀ i y H1 D acc acc', H1 D = some (.lst acc) → G i y H1 → G i y (upd H1 D (.lst acc'))) (hn : n ≤ 100000)
    (turn : ∀ i H', i < n → Ex H H' → g (.int ((0 : Int) + (i : Nat))) (wipe σ vs) H' fun σ2 H2 => H2 = H' ∧ wipe σ2 vs = wipe σ vs ∧ ∀ QV : VK, (∀ y H3, Ex H' H3 → G i y H3 → QV y H3) → te σ2 H' QV)
    (mg : ∀ x σ H Q Q', (∀ σ' H', Q σ' H' → Q' σ' H') → g x σ H Q → g x σ H Q')
    (k : ∀ p H2 ys, H p = none → Ex H H2 → H2 p = some (.lst ys) → Told G n ys H2 → Q (.ref p) H2) : LcG g tYes te vs σ Q (Itr 0 n) H :=
  w_lcR m mu hn (fun _ r => r) turn mg k
end
/-! ### least_row -/
def leastRow (L : List Int) : List Int := (minOf (Tup.mk (leastBegun L)) [Tup.mk (leastBegun (backR L))]).items
theorem d_tup_inv {H : Hp} {v : V} {ns : List Int} (h : DAt K H v (Tup.mk ns)) : ∃ a, v = .ref a ∧ SqT K H a (vi ns) := by
  unfold DAt at h
  have h' : Dp K H v (.tuple (ns.map Datum.toD)) := h
  cases h' with
  | tup hs ha =>
    refine ⟨_, rfl, ?_⟩
    have e : ∀ (ns : List Int) (xs : List V), DpAll K H xs (ns.map Datum.toD) → xs = vi ns := by
      intro ns
      induction ns with
      | nil => intro xs h; cases h; rfl
      | cons n ns ih =>
        intro xs h
        cases h with
        | cons h1 h2 =>
          have h1' : Dp K H _ (.int n) := h1
          cases h1'
          rw [ih _ h2]
          rfl
    rw [← e _ _ ha]
    exact hs
theorem minL_at {α : Type} [DecidableEq α] [DatumOrd α] {H : Hp} {xs : List V} {b : α} {bs : List α} {y : V} {i : Nat} (h : DAll K H xs (b :: bs)) (h1 : xs[i]? = some y) (h2 : (b :: bs)[i]? = some (minOf b bs)) : DAt K H y (minOf b bs) := h.at h1 h2
def spLRow (K : PySem.W.Frag) : Sp := fun vs H Q _ => ∃ a L, vs = [.ref a] ∧ SqT K H a (vi L) ∧ RowOk L ∧ RowOk (backR L) ∧ ∀ p H', Ex H H' → SqT K H' p (vi (leastRow L)) → Q (.ref p) H'
theorem C_least_row (E : Env K mg) : FnC P w K mg base "least_row" 4 ["row"] [] (spLRow K) := by
  have C_least_begun := C_least_begun (P := P) (w := w) (base := base) E
  have C_back_row := C_back_row (P := P) (w := w) (base := base) E
  refine .of E.d_least_row E.g_least_row sc_least_row (fun vs H Q E h => ?_) (fun _ _ _ _ _ _ us hl => match us, hl with | [_], _ => rfl) (fun cdv A outer s0 H vs Q E' hr h => ?_)
  · obtain ⟨a, L, rfl, _⟩ := h
    rfl
  · obtain ⟨a, L, rfl, ha, ok, ok2, q⟩ := h
    refine ⟨_, (pss_one (ps_ret (pe_callB (cr_minX (α := PySem.W.Tup Int) rfl hr.units) (by rfl) E.b_min (by decide +kernel) (pa_cons (pe_lst (pa_cons (pe_c C_least_begun (hr.mono (by decide)) rfl (pa_cons (pv 0) pa_nil)) (pa_cons (pe_c C_least_begun (hr.mono (by decide)) rfl (pa_cons (pe_c C_back_row (hr.mono (by decide)) rfl (pa_cons (pv 0) pa_nil)) pa_nil)) pa_nil))) pa_nil)))), ?_⟩
    k_all
    refine ⟨a, L, rfl, ha, ok, fun p1 H1 e1 h1 => ?_⟩
    k_all
    refine ⟨a, L, rfl, ex_t e1 ha, ok, fun p2 H2 e2 h2 => ?_⟩
    refine ⟨p2, backR L, rfl, h2, ok2, fun p3 H3 e3 h3 => ?_⟩
    k_all
    rename_i p4 n4 H4 e4 l4
    have hall : DAll K H4 [.ref p1, .ref p3] [Tup.mk (leastBegun L), Tup.mk (leastBegun (backR L))] := DAll.cons (d_ints (ex_t ((e2.trans e3).trans e4) h1)) (DAll.cons (d_ints (ex_t e4 h3)) DAll.nil)
    refine ⟨p4, _, _, _, rfl, sl_at l4, hall, fun i y q1 q2 => ?_⟩
    obtain ⟨p5, rfl, h5⟩ := d_tup_inv (minL_at hall q1 q2)
    exact q p5 H4 (((e1.trans e2).trans e3).trans e4) h5
/-! ### check_slope, mirrored_slope -/
def SlopeOk (p q : Int) : Prop := 1 ≤ p ∧ p ≤ 9 ∧ 0 ≤ q ∧ q ≤ 9 ∧ Nat.gcd p.natAbs q.natAbs = 1
def spSlope (K : PySem.W.Frag) : Sp := fun vs H Q _ => ∃ a p q, vs = [.ref a, .bl true] ∧ SqT K H a (vi [p, q]) ∧ SlopeOk p q ∧ ∀ b H', Ex H H' → SqT K H' b (vi [p, q]) → Q (.ref b) H'
theorem C_check_slope (E : Env K mg) : FnC P w K mg base "check_slope" 2 ["slope", "band"] [] (spSlope K) := by
  have C_is_whole := C_whole3 (P := P) (w := w) (base := base) E
  obtain ⟨fd, F⟩ := E.d_check_slope
  have ok : FnOk P w K mg base CX0 2 (He.ga K "check_slope") fd ["slope", "band"] (spSlope K) := by
    refine F.ok sc_check_slope (fun vs H Q E h => ?_) (fun cdv A outer s0 H vs Q E' hr h => ?_)
    · obtain ⟨a, p, q, rfl, _⟩ := h
      rfl
    · obtain ⟨a, p, q, rfl, ha, ⟨p1, p2, q1, q2, g⟩, k⟩ := h
      refine ⟨_, PSs.nox (pss_cons (ps_if (PW.pt (pw_or (pt_not (pt_val (pe_callB call_isiT (by rfl) E.b_isinstance (by decide +kernel) (pa_cons (pv 0) (pa_cons (pe_tup (pa_cons (pe_bltn (v := .ty "list") (by rfl) E.b_list (by decide +kernel) rfl) (pa_cons (pe_bltn (v := .ty "tuple") (by rfl) E.b_tuple (by decide +kernel) rfl) pa_nil))) pa_nil))))) (pw_or1 (pt_cmpR op_ne (pe_callB call_len_seq (by rfl) E.b_len PySem.boot_len (pa_cons (pv 0) pa_nil)) pe_int (nomark _))))) (pss_one ps_never) pss_nil)
      (pss_cons (ps_if (PW.pt (pw_or (pt_not (pt_val (pe_c C_is_whole (hr.mono (by decide)) rfl (pa_cons (pe_ix ix_tup (pv 0) pe_int (fun _ _ => rfl)) (pa_cons pe_int (pa_cons (pe_cst rfl E.v_MOST_SLOPE) pa_nil)))))) (pw_or1 (pt_not (pt_val (pe_c C_is_whole (hr.mono (by decide)) rfl (pa_cons (pe_ix ix_tup (pv 0) pe_int (fun _ _ => rfl)) (pa_cons pe_int (pa_cons (pe_cst rfl E.v_MOST_SLOPE) pa_nil))))))))) (pss_one ps_never) pss_nil)
      (pss_cons (ps_if (PW.pt (pw_or (pt_cmpR op_ne (pe_callBfun cr_gcd (by rfl) E.gcd (pa_cons (pe_ix ix_tup (pv 0) pe_int (fun _ _ => rfl)) (pa_cons (pe_ix ix_tup (pv 0) pe_int (fun _ _ => rfl)) pa_nil))) pe_int (nomark _)) (pw_or1 (PW.pt (pw_and (pt_cmpR op_eq (pe_ix ix_tup (pv 0) pe_int (fun _ _ => rfl)) pe_int (nomark _)) (pw_and1 (pt_not (pt_val (pv 1))))))))) (pss_one ps_never) pss_nil)
      (pss_one (ps_ret (pe_tup (pa_cons (pe_ix ix_tup (pv 0) pe_int (fun _ _ => rfl)) (pa_cons (pe_ix ix_tup (pv 0) pe_int (fun _ _ => rfl)) pa_nil)))))))), ?_⟩
      k_all
      rename_i t nt H1 e1 l1
      have ha1 := ex_t e1 ha
      refine isi_tupT ha1 l1 ?_
      k_all
      refine w_lenT ha1 ?_
      k_all
      refine if_nint (fun h => (h rfl).elim) (fun _ => ?_)
      k_all
      refine ⟨_, _, _, rfl, ?_⟩
      rw [decide_eq_true p1, decide_eq_true p2]
      refine w_bl (b := true) ?_
      k_all
      refine ⟨_, _, _, rfl, ?_⟩
      rw [decide_eq_true q1, decide_eq_true q2]
      refine w_bl (b := true) ?_
      k_all
      refine ⟨_, _, rfl, ?_⟩
      k_all
      refine if_nint (fun h => (h (congrArg Int.ofNat g)).elim) (fun _ => ?_)
      k_all
      refine if_int (fun h => ?_) (fun h => ?_)
      · k_all
        exact k _ _ (e1.trans (by assumption)) (st_at (by assumption))
      · k_all
        exact k _ _ (e1.trans (by assumption)) (st_at (by assumption))
  obtain ⟨ds, r, b⟩ := F.binds1 (ps := ["slope", "band"]) 2 1 (by decide) rfl fun T kV doc pm an cdv ct us its h1 h2 => by
    obtain ⟨a, b, rfl⟩ : ∃ a b, us = [a, b] := by
      match us, h1 with
      | [a, b], _ => exact ⟨a, b, rfl⟩
    obtain ⟨d, rfl⟩ : ∃ d, its = [d] := by
      match its, h2 with
      | [d], _ => exact ⟨d, rfl⟩
    exact ⟨_, rfl, rfl⟩
  exact ⟨_, fd, ds, ok, E.g_check_slope, F.kp, b, r⟩
theorem slope_flip {p q : Int} (h : SlopeOk p q) (hq : q ≠ 0) : SlopeOk q p := by
  obtain ⟨p1, p2, q1, q2, g⟩ := h
  exact ⟨by omega, q2, by omega, p2, by rw [Nat.gcd_comm]; exact g⟩
def spMirr (K : PySem.W.Frag) : Sp := fun vs H Q _ => ∃ a p q, vs = [.ref a] ∧ SqT K H a (vi [p, q]) ∧ SlopeOk p q ∧ q ≠ 0 ∧ ∀ b H', Ex H H' → SqT K H' b (vi [q, p]) → Q (.ref b) H'
theorem C_mirrored_slope (E : Env K mg) : FnC P w K mg base "mirrored_slope" 3 ["slope"] [] (spMirr K) := by
  have C_check_slope := C_check_slope (P := P) (w := w) (base := base) E
  refine .of E.d_mirrored_slope E.g_mirrored_slope sc_mirrored_slope (fun vs H Q E h => ?_) (fun _ _ _ _ _ _ us hl => match us, hl with | [_], _ => rfl) (fun cdv A outer s0 H vs Q E' hr h => ?_)
  · obtain ⟨a, p, q, rfl, _⟩ := h
    rfl
  · obtain ⟨a, p, q, rfl, ha, ok, nz, k⟩ := h
    refine ⟨_, (pss_cons (ps_asg (pe_c C_check_slope (hr.mono (by decide)) rfl (pa_cons (pv 0) (pa_cons pe_bl pa_nil))) (pg_tup (n := 2) rfl (pgs_cons (pg_name (i := 1) sc_mirrored_slope.nd rfl (by first | exact Or.inl rfl | exact Or.inr rfl)) (pgs_cons (pg_name (i := 2) sc_mirrored_slope.nd rfl (by first | exact Or.inl rfl | exact Or.inr rfl)) pgs_nil))))
      (pss_one (ps_ret (pe_ifExp (pt_cmpR op_eq (pv 2) pe_int (nomark _)) (pe_tup (pa_cons (pv 1) (pa_cons (pv 2) pa_nil))) (pe_tup (pa_cons (pv 2) (pa_cons (pv 1) pa_nil))))))), ?_⟩
    k_all
    refine ⟨a, p, q, rfl, ha, ok, fun b H1 e1 h1 => ?_⟩
    k_all
    refine if_int (fun h => (nz h).elim) (fun _ => ?_)
    k_all
    exact k _ _ (e1.trans (by assumption)) (st_at (by assumption))
/-! ### unframed, directions_on -/
def unfr (f a b : Int) : T3 := T3.set (T3.set (0, 0, 0) (axes f).1 a) (axes f).2 b
def spUnfr (K : PySem.W.Frag) : Sp := fun vs H Q _ => ∃ f a b, vs = [.int f, .int a, .int b] ∧ FaceOk f ∧ ∀ p H', Ex H H' → SqT K H' p (vi (T3.l (unfr f a b))) → Q (.ref p) H'
theorem C_unframed (E : Env K mg) : FnC P w K mg base "unframed" 4 ["face", "first", "second"] [] (spUnfr K) := by
  have C_face_axes := C_face_axes (P := P) (w := w) (base := base) E
  refine .of E.d_unframed E.g_unframed sc_unframed (fun vs H Q E h => ?_) (fun _ _ _ _ _ _ us hl => match us, hl with | [_, _, _], _ => rfl) (fun cdv A outer s0 H vs Q E' hr h => ?_)
  · obtain ⟨f, a, b, rfl, _⟩ := h
    rfl
  · obtain ⟨f, a, b, rfl, hf, q⟩ := h
    refine ⟨_, (pss_cons (ps_set (i := 3) sc_unframed.nd rfl (by first | exact Or.inl rfl | exact Or.inr rfl) (pe_c C_face_axes (hr.mono (by decide)) rfl (pa_cons (pv 0) pa_nil)))
      (pss_cons (ps_set (i := 4) sc_unframed.nd rfl (by first | exact Or.inl rfl | exact Or.inr rfl) (pe_lst (pa_cons pe_int (pa_cons pe_int (pa_cons pe_int pa_nil)))))
      (pss_cons (ps_asg (pv 1) (pg_sub (pv 4) (pe_ix ix_tup (pv 3) pe_int (fun _ _ => rfl)) set_list))
      (pss_cons (ps_asg (pv 2) (pg_sub (pv 4) (pe_ix ix_tup (pv 3) pe_int (fun _ _ => rfl)) set_list))
      (pss_one (ps_ret (pe_callTy call_tuple_of (by rfl) E.b_tuple (by decide +kernel) (pa_cons (pv 4) pa_nil)))))))), ?_⟩
    obtain ⟨h1, h2, h3, h4⟩ := ax_ok hf
    k_all
    refine ⟨_, rfl, hf, fun x hx => ?_⟩
    have hx0 := hx H
    k_all
    rename_i l nl H1 e1 l1
    have hx1 := hx H1
    k_all
    refine w_s3 (t := (0, 0, 0)) l1 h1 h2 ?_
    generalize hG : upd _ _ _ = H2
    have e2 : Ex H H2 := ex_mut hG e1 nl
    have l2 := at_of hG
    have hx2 := hx H2
    k_all
    refine w_s3 l2 h3 h4 ?_
    generalize hG2 : upd _ _ _ = H3
    have e3 : Ex H H3 := ex_mut hG2 e2 nl
    have l3 := at_of hG2
    k_all
    refine w_tupL (sl_at l3) fun t nt => ?_
    generalize hG4 : upd _ _ _ = H4
    have e4 : Ex H H4 := e3.trans (ex_of hG4 nt)
    have l4 := at_of hG4
    exact q _ _ e4 (st_at l4)
def dirs4 (f p q : Int) : List T3 := [unfr f p q, unfr f (-q) p, unfr f (-p) (-q), unfr f q (-p)]
def leT3 (a b : T3) : Bool := leX (Tup.mk (T3.l a)) (Tup.mk (T3.l b))
def dirsOn (f p q : Int) : List T3 := (dirs4 f p q).mergeSort leT3
/-- sorted of a list of data -/
theorem w_sortX {α : Type} [DecidableEq α] [DatumOrd α] {H : Hp} {a : Addr} {xs : List V} {bs : List α} {Q : VK} (h : SqL K H a xs) (d : DAll K H xs bs) (z : xs.length ≤ 50000) (sk : PySem.W.Sortable (bs.map Datum.toD))
    (q : ∀ p H' ys, H p = none → Ex H H' → H' p = some (.lst ys) → DAll K H' ys (bs.mergeSort leX) → Q (.ref p) H') : rSortX α K [.ref a] H Q := by
  have hz1 : (xs.zip bs).map (·.1) = xs := List.map_fst_zip (by rw [d.len]; exact Nat.le_refl _)
  have hz2 : (xs.zip bs).map (·.2) = bs := List.map_snd_zip (by rw [d.len]; exact Nat.le_refl _)
  have hmem : ∀ z ∈ xs.zip bs, DAt K H z.1 z.2 := fun z hz => by
    obtain ⟨i, hi⟩ := List.mem_iff_getElem?.mp hz
    rw [List.getElem?_zip_eq_some] at hi
    exact d.at hi.1 hi.2
  refine ⟨a, xs.zip bs, rfl, by rw [hz1]; exact h, hmem, by rw [List.length_zip]; omega, by
    have e : ((xs.zip bs).map fun z => Datum.toD z.2) = bs.map Datum.toD := by rw [← hz2, List.map_map, hz2]; rfl
    rw [e]; exact sk, fun p hp => ?_⟩
  generalize hG : upd _ _ _ = H'
  have e := ex_of hG hp
  have l := at_of hG
  refine q p H' _ hp e l ?_
  have e2 : bs.mergeSort leX = ((xs.zip bs).mergeSort fun a b => leX a.2 b.2).map (·.2) := by
    rw [List.map_mergeSort (s := leX) (fun _ _ _ _ => rfl), hz2]
  rw [e2]
  refine DAll.of (by rw [List.length_map, List.length_map]) fun i v x h1 h2 => ?_
  rw [List.getElem?_map] at h1 h2
  cases hi : ((xs.zip bs).mergeSort fun a b => leX a.2 b.2)[i]? with
  | none => rw [hi] at h1; cases h1
  | some z =>
    rw [hi] at h1 h2
    cases h1
    cases h2
    exact (hmem z ((List.mergeSort_perm _ _).mem_iff.mp (List.mem_of_getElem? hi))).ex e
theorem dall_map {α β : Type} [DecidableEq α] [Datum α] [DecidableEq β] [Datum β] {H : Hp} {vs : List V} {xs : List α} {f : α → β} (h : DAll K H vs xs) (e : ∀ v x, DAt K H v x → DAt K H v (f x)) : DAll K H vs (xs.map f) := by
  refine DAll.of (by rw [List.length_map]; exact h.len) fun i v y h1 h2 => ?_
  rw [List.getElem?_map] at h2
  cases hi : xs[i]? with
  | none => rw [hi] at h2; cases h2
  | some x =>
    rw [hi] at h2
    cases h2
    exact e v x (h.at h1 hi)
def T3.tup (d : T3) : Tup Int := Tup.mk (T3.l d)
theorem sort_T3 (ds : List T3) : (ds.mergeSort leT3).map T3.tup = (ds.map T3.tup).mergeSort leX := List.map_mergeSort fun _ _ _ _ => rfl
theorem sk_T3 (ds : List T3) : PySem.W.Sortable ((ds.map T3.tup).map Datum.toD) := .inl fun d hd => by
  rw [List.map_map] at hd
  obtain ⟨t, _, rfl⟩ := List.mem_map.mp hd
  exact ⟨.int t.1, _, rfl⟩
/-- a tuple of triples -/
def DirsAt (K : PySem.W.Frag) (H : Hp) (p : Addr) (ds : List T3) : Prop := ∃ ys, SqT K H p ys ∧ DAll K H ys (ds.map T3.tup)
def spDirs (K : PySem.W.Frag) : Sp := fun vs H Q _ => ∃ f a p q, vs = [.int f, .ref a] ∧ FaceOk f ∧ SqT K H a (vi [p, q]) ∧ SlopeOk p q ∧ ∀ b H', Ex H H' → DirsAt K H' b (dirsOn f p q) → Q (.ref b) H'
theorem C_directions_on (E : Env K mg) : FnC P w K mg base "directions_on" 5 ["face", "slope"] [] (spDirs K) := by
  have C_check_face := C_check_face (P := P) (w := w) (base := base) E
  have C_check_slope := C_check_slope (P := P) (w := w) (base := base) E
  have C_unframed := C_unframed (P := P) (w := w) (base := base) E
  refine .of E.d_directions_on E.g_directions_on sc_directions_on (fun vs H Q E h => ?_) (fun _ _ _ _ _ _ us hl => match us, hl with | [_, _], _ => rfl) (fun cdv A outer s0 H vs Q E' hr h => ?_)
  · obtain ⟨f, a, p, q, rfl, _⟩ := h
    rfl
  · obtain ⟨f, a, p, q, rfl, hf, ha, ok, k⟩ := h
    have hsr : ∀ {A : Around}, Room 4 A → A.units + 100 < cLine := fun r => by have := r.un; omega
    refine ⟨_, (pss_cons (ps_expr (pe_c C_check_face (hr.mono (by decide)) rfl (pa_cons (pv 0) pa_nil)))
      (pss_cons (ps_asg (pe_c C_check_slope (hr.mono (by decide)) rfl (pa_cons (pv 1) (pa_cons pe_bl pa_nil))) (pg_tup (n := 2) rfl (pgs_cons (pg_name (i := 2) sc_directions_on.nd rfl (by first | exact Or.inl rfl | exact Or.inr rfl)) (pgs_cons (pg_name (i := 3) sc_directions_on.nd rfl (by first | exact Or.inl rfl | exact Or.inr rfl)) pgs_nil))))
      (pss_one (ps_ret (pe_callTy call_tuple_of (by rfl) E.b_tuple (by decide +kernel) (pa_cons (pe_callB (cr_sortX (α := Tup Int) (hsr hr)) (by rfl) E.b_sorted (by decide +kernel) (pa_cons (pe_lc (own := [("a", 4), ("b", 5)]) rfl sc_directions_on.nd (pi_tup (pe_tup (pa_cons (pe_tup (pa_cons (pv 2) (pa_cons (pv 3) pa_nil))) (pa_cons (pe_tup (pa_cons (pe_un un_neg (pv 3)) (pa_cons (pv 2) pa_nil))) (pa_cons (pe_tup (pa_cons (pe_un un_neg (pv 2)) (pa_cons (pe_un un_neg (pv 3)) pa_nil))) (pa_cons (pe_tup (pa_cons (pv 3) (pa_cons (pe_un un_neg (pv 2)) pa_nil))) pa_nil)))))) (blkOk_by (own := [("a", 4), ("b", 5)]) (N := ["face", "slope", "p", "q", "a", "b"]) (sc := defScope s_directions_on) (by decide +kernel)) (fun _ _ _ _ _ => by exact (pg_cast (pg_tup (n := 2) rfl (pgs_cons (pg_name (i := 4) sc_directions_on.nd rfl (by first | exact Or.inl rfl | exact Or.inr rfl)) (pgs_cons (pg_name (i := 5) sc_directions_on.nd rfl (by first | exact Or.inl rfl | exact Or.inr rfl)) pgs_nil))) (by (try simp only [blk_K]); rfl))) (fun _ _ _ _ _ => by exact (pts_cast pts_nil (by (try simp only [blk_K]); rfl))) (fun _ _ _ _ _ => by exact (pe_cast (pe_c C_unframed (hr.mono (by decide)) rfl (pa_cons (pv 0) (pa_cons (pv 4) (pa_cons (pv 5) pa_nil)))) (by (try simp only [blk_K]); rfl)))) pa_nil)) pa_nil)))))), ?_⟩
    k_all
    refine ⟨_, rfl, hf, ?_⟩
    k_all
    refine ⟨a, p, q, rfl, ha, ok, fun b H1 e1 h1 => ?_⟩
    k_all
    refine w_lc ?_
    k_all
    rename_i pa na Ha ea la pb nb Hb eb lb pc nc Hc ec lc pd nd Hd ed ld pe ne He' ee le
    refine w_itT (st_at le) ?_
    have fa := ((eb.trans ec).trans ed).trans ee
    have fb := (ec.trans ed).trans ee
    have fc := ed.trans ee
    have e0 : Ex H1 He' := ea.trans fa
    have hat : ∀ (i : Nat) (x : V), [V.ref pa, V.ref pb, V.ref pc, V.ref pd][i]? = some x → ∃ c u v, x = .ref c ∧ He' c = some (.tup [.int u, .int v]) ∧ ((dirs4 f p q).map T3.tup)[i]? = some (T3.tup (unfr f u v)) := fun i x hi => by
      match i, hi with
      | 0, hi => exact ⟨pa, _, _, (Option.some.inj hi).symm, fa _ _ la, rfl⟩
      | 1, hi => exact ⟨pb, _, _, (Option.some.inj hi).symm, fb _ _ lb, rfl⟩
      | 2, hi => exact ⟨pc, _, _, (Option.some.inj hi).symm, fc _ _ lc, rfl⟩
      | 3, hi => exact ⟨pd, _, _, (Option.some.inj hi).symm, ee _ _ ld, rfl⟩
    refine lcT (K := K) (G := fun i y H => ∃ t, ((dirs4 f p q).map T3.tup)[i]? = some t ∧ DAt K H y t) (fun i y H1 H2 e h => ?_) (fun i y H1 D acc acc' hD h => ?_) (Nat.le_of_ble_eq_true rfl) (st_at le) (fun i x H2 hi e2 => ?_) mg_two (fun r H2 ys nr e2 l2 told => ?_)
    · obtain ⟨t, h1, h2⟩ := h
      exact ⟨t, h1, h2.ex e⟩
    · obtain ⟨t, h1, h2⟩ := h
      refine ⟨t, h1, h2.mu ?_ hD⟩
      rw [List.getElem?_map] at h1
      cases hi : (dirs4 f p q)[i]? with
      | none => rw [hi] at h1; cases h1
      | some d => rw [hi] at h1; cases h1; rfl
    · obtain ⟨c, u, v, rfl, hc, ht⟩ := hat i x hi
      have hc2 := e2 _ _ hc
      k_all
      refine ⟨rfl, rfl, fun QV qv => ?_⟩
      k_all
      refine ⟨_, _, _, rfl, hf, fun t H3 e3 h3 => ?_⟩
      exact qv _ H3 e3 ⟨_, ht, d_ints h3⟩
    · have hall : DAll K H2 ys ((dirs4 f p q).map T3.tup) := DAll.of (by rw [told.1]; rfl) fun i v x h1 h2 => by
        obtain ⟨t, h3, h4⟩ := told.2 i v h1
        rw [h2] at h3
        rw [Option.some.inj h3]
        exact h4
      k_all
      refine w_sortX (sl_at l2) hall (by rw [told.1]; exact Nat.le_of_ble_eq_true rfl) (sk_T3 _) fun p3 H3 ys3 np3 e3 l3 d3 => ?_
      rw [← sort_T3] at d3
      k_all
      refine w_tupL (sl_at l3) fun t nt => ?_
      generalize hG4 : upd _ _ _ = H4
      have e4 := ex_of hG4 nt
      have l4 := at_of hG4
      exact k t H4 ((((e1.trans e0).trans e2).trans e3).trans e4) ⟨_, st_at l4, d3.ex e4⟩
end TP

/-! W14 -/
set_option Elab.async false
set_option linter.all false
set_option maxRecDepth 100000
set_option maxHeartbeats 4000000
-- k_mem: a fact of the heap as it is now, from an older one; k_upd: one step of a reading; k_all: as many as go

namespace TP
open PySem PySem.Spec PyProof.Rows L2
open PySem.W (minOf maxOf Tup DatumOrd Datum)
variable {P : Program} {w : World} {K : PySem.W.Frag} {mg : Str → Option Value} {base : Heap}
/-! ### Lane -/
def lnF0 (b fa da lo len br : V) : List (Str × V) := putF "breadth" br (putF "length" len (putF "low" lo (putF "direction" da (putF "faces" fa (putF "box" b [])))))
def lnF (b fa da lo len br sl rp : V) : List (Str × V) := putF "row" rp (putF "slope" sl (lnF0 b fa da lo len br))
section
variable {b fa da lo len br sl rp : V}
theorem lnF_row : (lnF b fa da lo len br sl rp).lookup ("row" : Str) = some rp := by
  unfold lnF
  rw [lookup_putF, if_pos rfl]
theorem lnF_breadth : (lnF b fa da lo len br sl rp).lookup ("breadth" : Str) = some br := by
  unfold lnF lnF0
  rw [lookup_putF, if_neg (by decide), lookup_putF, if_neg (by decide), lookup_putF, if_pos rfl]
theorem lnF_length : (lnF b fa da lo len br sl rp).lookup ("length" : Str) = some len := by
  unfold lnF lnF0
  rw [lookup_putF, if_neg (by decide), lookup_putF, if_neg (by decide), lookup_putF, if_neg (by decide), lookup_putF, if_pos rfl]
theorem lnF_faces : (lnF b fa da lo len br sl rp).lookup ("faces" : Str) = some fa := by
  unfold lnF lnF0
  rw [lookup_putF, if_neg (by decide), lookup_putF, if_neg (by decide), lookup_putF, if_neg (by decide), lookup_putF, if_neg (by decide), lookup_putF, if_neg (by decide), lookup_putF, if_neg (by decide), lookup_putF, if_pos rfl]
end
theorem len_putF {f : Str} {v : V} {fs : List (Str × V)} {n : Nat} (h : fs.length ≤ n) : (putF f v fs).length ≤ n + 1 := Nat.le_trans (length_putF f v fs) (by omega)
theorem w_fS2 {C dx x : Addr} {f : Str} {fs : List (Str × V)} {H : Hp} {B : Addr → Addr → Addr → List (Str × V) → Prop} (n : Nat) (hx : H x = some (.ins C dx fs)) (c : Cls K C) (na : NoAttr K C f) (l : fs.length ≤ n) (z : n < 1000) (q : B x C dx fs) :
    ∃ a C dx fs, V.ref x = .ref a ∧ H a = some (.ins C dx fs) ∧ Cls K C ∧ NoAttr K C f ∧ fs.length < 1000 ∧ B a C dx fs := ⟨x, C, dx, fs, rfl, hx, c, na, by omega, q⟩
def spMkLane (K : PySem.W.Frag) : Sp := fun vs H Q _ => ∃ Hr x dx b fa L da d lo len br, vs = [.ref x, b, .ref fa, .ref da, lo, len, br] ∧ Ex Hr H ∧ Hr x = none ∧ H x = some (.ins (He.ga K "Lane") dx []) ∧ SqT K Hr fa (vi L) ∧ RowOk L ∧ RowOk (backR L) ∧ SqT K Hr da (vi (T3.l d)) ∧
  ∀ H' sl rp, Ex Hr H' → H' x = some (.ins (He.ga K "Lane") dx (lnF b (.ref fa) (.ref da) lo len br sl (.ref rp))) → SqT K H' rp (vi (leastRow L)) → Q .non H'
theorem M_Lane (E : Env K mg) : MkC P w K mg base "Lane" (He.ga K "Lane") 5 ["self", "box", "faces", "direction", "low", "length", "breadth"] (spMkLane K) := by
  have C_slope_to := C_slope_to (P := P) (w := w) (base := base) E
  have C_least_row := C_least_row (P := P) (w := w) (base := base) E
  refine .of E.d_Lane_init E.m_Lane E.g_Lane sc_Lane_init (fun vs H Q E h => ?_) (fun _ _ _ _ _ _ us hl => match us, hl with | [_, _, _, _, _, _, _], _ => rfl) (fun cdv A outer s0 H vs Q E' hr h => ?_)
  · obtain ⟨Hr, x, dx, b, fa, L, da, d, lo, len, br, rfl, _⟩ := h
    rfl
  · obtain ⟨Hr, x, dx, b, fa, L, da, d, lo, len, br, rfl, er, nx, hx, hL, ok, ok2, hd, q⟩ := h
    refine ⟨_, (pss_cons (ps_fld (pv 0) (pv 1) rfl)
      (pss_cons (ps_fld (pv 0) (pv 2) rfl)
      (pss_cons (ps_fld (pv 0) (pv 3) rfl)
      (pss_cons (ps_fld (pv 0) (pv 4) rfl)
      (pss_cons (ps_fld (pv 0) (pv 5) rfl)
      (pss_cons (ps_fld (pv 0) (pv 6) rfl)
      (pss_cons (ps_fld (pv 0) (pe_c C_slope_to (hr.mono (by decide)) rfl (pa_cons (pe_ix ix_tup (pv 2) pe_int (fun _ _ => rfl)) (pa_cons (pv 3) pa_nil))) rfl)
      (pss_one (ps_fld (pv 0) (pe_c C_least_row (hr.mono (by decide)) rfl (pa_cons (pv 2) pa_nil)) rfl))))))))), ?_⟩
    have hf := (ok.2.2 0).1
    have hf0 : (vi L)[0]? = some (.int (fAt L 0)) := vi_of (by have := fAt_mod (L := L) (by have := ok.1; omega) 0; rw [Nat.zero_mod] at this; exact this)
    k_all
    refine w_fS ?_
    k_all
    refine w_fS2 0 hx E.c_Lane E.n_Lane_box (Nat.le_refl _) (by omega) ?_
    k_all
    refine w_fS ?_
    k_all
    refine w_fS2 1 upd_same E.c_Lane E.n_Lane_faces (len_putF (Nat.le_refl _)) (by omega) ?_
    rw [upd_upd]
    k_all
    refine w_fS ?_
    k_all
    refine w_fS2 2 upd_same E.c_Lane E.n_Lane_direction (len_putF (len_putF (Nat.le_refl _))) (by omega) ?_
    rw [upd_upd]
    k_all
    refine w_fS ?_
    k_all
    refine w_fS2 3 upd_same E.c_Lane E.n_Lane_low (len_putF (len_putF (len_putF (Nat.le_refl _)))) (by omega) ?_
    rw [upd_upd]
    k_all
    refine w_fS ?_
    k_all
    refine w_fS2 4 upd_same E.c_Lane E.n_Lane_length (len_putF (len_putF (len_putF (len_putF (Nat.le_refl _))))) (by omega) ?_
    rw [upd_upd]
    k_all
    refine w_fS ?_
    k_all
    refine w_fS2 5 upd_same E.c_Lane E.n_Lane_breadth (len_putF (len_putF (len_putF (len_putF (len_putF (Nat.le_refl _)))))) (by omega) ?_
    rw [upd_upd]
    generalize hG : upd _ _ _ = H1
    have e1 : Ex Hr H1 := ex_mut hG er nx
    have l1 := at_of hG
    k_all
    refine w_fS ?_
    k_all
    refine w_ixT (ex_t e1 hL) (atI_nat (i := 0) hf0) ?_
    k_all
    refine ⟨_, _, d, rfl, hf, ex_t e1 hd, fun sl H2 e2 => ?_⟩
    have l2 := e2 _ _ l1
    k_all
    refine w_fS2 6 l2 E.c_Lane E.n_Lane_slope (len_putF (len_putF (len_putF (len_putF (len_putF (len_putF (Nat.le_refl _))))))) (by omega) ?_
    generalize hG3 : upd _ _ _ = H3
    have e3 : Ex Hr H3 := ex_mut hG3 (e1.trans e2) nx
    have l3 := at_of hG3
    dsimp only
    refine w_fS ?_
    k_all
    refine ⟨fa, L, rfl, ex_t e3 hL, ok, ok2, fun rp H4 e4 h4 => ?_⟩
    have l4 := e4 _ _ l3
    k_all
    refine w_fS2 7 l4 E.c_Lane E.n_Lane_row (len_putF (len_putF (len_putF (len_putF (len_putF (len_putF (len_putF (Nat.le_refl _)))))))) (by omega) ?_
    generalize hG5 : upd _ _ _ = H5
    have e5 : Ex Hr H5 := ex_mut hG5 (e3.trans e4) nx
    have l5 := at_of hG5
    refine q H5 sl rp e5 l5 ?_
    rcases h4 with (h | ⟨o, h⟩) | h
    · exact .inl (.inl (by rw [← hG5, upd_ne (ne_of h l4 (by intro z; cases z))]; exact h))
    · exact .inl (.inr ⟨o, by rw [← hG5, upd_ne (ne_of h l4 (by intro z; cases z))]; exact h⟩)
    · exact .inr h
/-- a lane as the law reads it -/
def LaneAt (K : PySem.W.Frag) (H : Hp) (v : V) (l : List Int × Int × Int) : Prop := ∃ p dx b fa da lo sl rp, v = .ref p ∧ H p = some (.ins (He.ga K "Lane") dx (lnF b (.ref fa) da lo (.int l.2.1) (.int l.2.2) sl (.ref rp))) ∧ SqT K H fa (vi l.1) ∧ SqT K H rp (vi (leastRow l.1))
theorem LaneAt.mono {H H' : Hp} {v : V} {l : List Int × Int × Int} (h : LaneAt K H v l) (e : Ex H H') : LaneAt K H' v l := by
  obtain ⟨p, dx, b, fa, da, lo, sl, rp, e1, h1, h2, h3⟩ := h
  exact ⟨p, dx, b, fa, da, lo, sl, rp, e1, e p _ h1, ex_t e h2, ex_t e h3⟩
theorem LaneAt.mu {H : Hp} {l : Addr} {o : HO} {ys : List V} {v : V} {t : List Int × Int × Int} (h : LaneAt K H v t) (hl : H l = some (.lst ys)) : LaneAt K (upd H l o) v t := by
  obtain ⟨p, dx, b, fa, da, lo, sl, rp, e1, h1, h2, h3⟩ := h
  exact ⟨p, dx, b, fa, da, lo, sl, rp, e1, mu_i h1 hl, mu_t h2 hl, mu_t h3 hl⟩
/-! ### lane_of_ring -/
def facesOf (L : List StV) : List Int := L.map (·.face)
def begunAt (L : List StV) : StV := (rotL L (leastTurn (facesOf L))).headD ⟨0, (0, 0, 0), 0, 0⟩
def laneOf (L : List StV) (len : Int) : List Int × Int × Int := (facesOf (rotL L (leastTurn (facesOf L))), len, (begunAt L).high - (begunAt L).low)
theorem told_faces {H : Hp} {ys : List V} {L : List StV} (h : Told (fun i y _ => ∃ t, L[i]? = some t ∧ y = .int t.face) L.length ys H) : ys = vi (facesOf L) := by
  apply List.ext_getElem?
  intro i
  unfold vi facesOf
  rw [List.getElem?_map, List.getElem?_map]
  by_cases hi : i < L.length
  · have hy : i < ys.length := by rw [h.1]; exact hi
    obtain ⟨t, h1, h2⟩ := h.2 i ys[i] (List.getElem?_eq_getElem hy)
    rw [List.getElem?_eq_getElem hy, h1, h2]
    rfl
  · rw [List.getElem?_eq_none (by rw [h.1]; omega), List.getElem?_eq_none (by omega)]
    rfl
theorem rotL_map {α β : Type} (f : α → β) (L : List α) (k : Nat) : rotL (L.map f) k = (rotL L k).map f := by
  unfold rotL
  rw [List.map_append, List.map_drop, List.map_take]
theorem Al.rot {β : Type} {R : V → β → Prop} {vs : List V} {xs : List β} (h : Al R vs xs) (k : Nat) (hk : k ≤ xs.length) : Al R (vs.drop k ++ vs.take k) (rotL xs k) := by
  refine ⟨by rw [rotL_len, List.length_append, List.length_drop, List.length_take, h.1]; omega, fun i v x h1 h2 => ?_⟩
  unfold rotL at h2
  by_cases hi : i < xs.length - k
  · rw [List.getElem?_append_left (by rw [List.length_drop, h.1]; exact hi), List.getElem?_drop] at h1
    rw [List.getElem?_append_left (by rw [List.length_drop]; exact hi), List.getElem?_drop] at h2
    exact h.2 _ v x h1 h2
  · rw [List.getElem?_append_right (by rw [List.length_drop, h.1]; omega), List.length_drop, h.1, List.getElem?_take] at h1
    rw [List.getElem?_append_right (by rw [List.length_drop]; omega), List.length_drop, List.getElem?_take] at h2
    by_cases h3 : i - (xs.length - k) < k
    · rw [if_pos h3] at h1 h2
      exact h.2 _ v x h1 h2
    · rw [if_neg h3] at h1
      cases h1
def spLaneOf (K : PySem.W.Frag) : Sp := fun vs H Q _ => ∃ v a L len, vs = [v, .ref a, .int len] ∧ LstOf K H a L ∧ 0 < L.length ∧ L.length ≤ 400 ∧ RowOk (facesOf (rotL L (leastTurn (facesOf L)))) ∧ RowOk (backR (facesOf (rotL L (leastTurn (facesOf L))))) ∧
  ∀ u H', Ex H H' → LaneAt K H' u (laneOf L len) → Q u H'
theorem C_lane_of_ring (E : Env K mg) : FnC P w K mg base "lane_of_ring" 7 ["box", "found", "length"] [] (spLaneOf K) := by
  have C_least_turn := C_least_turn (P := P) (w := w) (base := base) E
  have M_Lane := M_Lane (P := P) (w := w) (base := base) E
  refine .of E.d_lane_of_ring E.g_lane_of_ring sc_lane_of_ring (fun vs H Q E h => ?_) (fun _ _ _ _ _ _ us hl => match us, hl with | [_, _, _], _ => rfl) (fun cdv A outer s0 H vs Q E' hr h => ?_)
  · obtain ⟨v, a, L, len, rfl, _⟩ := h
    rfl
  · obtain ⟨v, a, L, len, rfl, ⟨ys, ha, al⟩, n0, n4, ok, ok2, q⟩ := h
    refine ⟨_, (pss_cons (ps_set (i := 3) sc_lane_of_ring.nd rfl (by first | exact Or.inl rfl | exact Or.inr rfl) (pe_c C_least_turn (hr.mono (by decide)) rfl (pa_cons (pe_lc (own := [("strip", 7)]) rfl sc_lane_of_ring.nd (pi_list (pv 1)) (blkOk_by (own := [("strip", 7)]) (N := ["box", "found", "length", "at", "ring", "begun", "faces", "strip"]) (sc := defScope s_lane_of_ring) (by decide +kernel)) (fun _ _ _ _ _ => by exact (pg_cast (pg_name (i := 7) sc_lane_of_ring.nd rfl (by first | exact Or.inl rfl | exact Or.inr rfl)) (by (try simp only [blk_K]); rfl))) (fun _ _ _ _ _ => by exact (pts_cast pts_nil (by (try simp only [blk_K]); rfl))) (fun _ _ _ _ _ => by exact (pe_cast (pe_fld (pv 7) (by rfl)) (by (try simp only [blk_K]); rfl)))) pa_nil)))
      (pss_cons (ps_set (i := 4) sc_lane_of_ring.nd rfl (by first | exact Or.inl rfl | exact Or.inr rfl) (pe_op op_cat (pe_slice sl_list (pv 1) (po_some (pv 3)) po_none) (pe_slice sl_list (pv 1) po_none (po_some (pv 3)))))
      (pss_cons (ps_set (i := 5) sc_lane_of_ring.nd rfl (by first | exact Or.inl rfl | exact Or.inr rfl) (pe_ix ix_list (pv 4) pe_int (fun _ _ => rfl)))
      (pss_cons (ps_set (i := 6) sc_lane_of_ring.nd rfl (by first | exact Or.inl rfl | exact Or.inr rfl) (pe_callTy call_tuple_of (by rfl) E.b_tuple (by decide +kernel) (pa_cons (pe_lc (own := [("strip", 7)]) rfl sc_lane_of_ring.nd (pi_list (pv 4)) (blkOk_by (own := [("strip", 7)]) (N := ["box", "found", "length", "at", "ring", "begun", "faces", "strip"]) (sc := defScope s_lane_of_ring) (by decide +kernel)) (fun _ _ _ _ _ => by exact (pg_cast (pg_name (i := 7) sc_lane_of_ring.nd rfl (by first | exact Or.inl rfl | exact Or.inr rfl)) (by (try simp only [blk_K]); rfl))) (fun _ _ _ _ _ => by exact (pts_cast pts_nil (by (try simp only [blk_K]); rfl))) (fun _ _ _ _ _ => by exact (pe_cast (pe_fld (pv 7) (by rfl)) (by (try simp only [blk_K]); rfl)))) pa_nil)))
      (pss_one (ps_ret (pe_mk M_Lane (hr.mono (by decide)) rfl (pa_cons (pv 0) (pa_cons (pv 6) (pa_cons (pe_fld (pv 5) (by rfl)) (pa_cons (pe_fld (pv 5) (by rfl)) (pa_cons (pv 2) (pa_cons (pe_op op_sub (pe_fld (pv 5) (by rfl)) (pe_fld (pv 5) (by rfl))) pa_nil))))))))))))), ?_⟩
    have hle : ys.length = L.length := al.1
    k_all
    refine w_lc ?_
    k_all
    refine w_itL (sl_at ha) ?_
    refine lcL (K := K) (xs := ys) (G := fun i y _ => ∃ t, L[i]? = some t ∧ y = .int t.face) (fun i y H1 H2 e h => h) (fun i y H1 D acc acc' hD h => h) (by omega) (sl_at ha) (fun i x H2 hi e2 => ?_) mg_name (fun r1 H1 zs nr1 e1 l1 told => ?_)
    · refine ⟨rfl, rfl, fun QV qv => ?_⟩
      obtain ⟨t, hti, hx⟩ := al.atv hi
      obtain ⟨p, dx, b, rfl, hp, hpb⟩ := (hx.mono e2).ref
      k_all
      exact qv _ H2 (Evl.Ex.refl _) ⟨t, hti, rfl⟩
    · rw [hle] at told
      have hz := told_faces told
      subst hz
      have hfl : (facesOf L).length = L.length := by unfold facesOf; rw [List.length_map]
      k_all
      refine ⟨r1, facesOf L, rfl, sl_at l1, by omega, by omega, fun H2 e2 => ?_⟩
      have hk : leastTurn (facesOf L) < L.length := by
        have := bestT_le (facesOf L) ((facesOf L).length - 1)
        unfold leastTurn
        omega
      have e02 := e1.trans e2
      k_all
      refine w_slL (sl_at (e02 _ _ ha)) fun p3 H3 n3 e3 l3 => ?_
      k_all
      refine w_slL (sl_at (e3 _ _ (e02 _ _ ha))) fun p4 H4 n4' e4 l4 => ?_
      rw [cut_from (by omega), Int.toNat_natCast] at l3
      rw [cut_to (by omega), Int.toNat_natCast] at l4
      refine w_cat (e4 _ _ l3) l4 (by rw [List.length_drop, List.length_take, hle]; omega) fun p5 H5 n5 e5 l5 => ?_
      have e05 := ((e02.trans e3).trans e4).trans e5
      have alr := (al.imp fun _ _ h => h.mono e05).rot (leastTurn (facesOf L)) (by omega)
      have hrl := rotL_len L (leastTurn (facesOf L))
      have hb0 : (rotL L (leastTurn (facesOf L)))[0]? = some (begunAt L) := by
        unfold begunAt
        cases hc : rotL L (leastTurn (facesOf L)) with
        | nil => rw [hc] at hrl; simp at hrl; omega
        | cons x xs => rfl
      obtain ⟨u, hu, hbu⟩ := alr.at hb0
      obtain ⟨pb, dxb, ab, rfl, hpb, hab⟩ := hbu.ref
      have hll : (List.drop (leastTurn (facesOf L)) ys ++ List.take (leastTurn (facesOf L)) ys).length = L.length := by rw [alr.1, hrl]
      k_all
      refine w_ixL (sl_at l5) (atI_nat (i := 0) hu) ?_
      k_all
      refine w_lc ?_
      k_all
      refine w_itL (sl_at l5) ?_
      refine lcL (K := K) (xs := List.drop (leastTurn (facesOf L)) ys ++ List.take (leastTurn (facesOf L)) ys) (G := fun i y _ => ∃ t, (rotL L (leastTurn (facesOf L)))[i]? = some t ∧ y = .int t.face) (fun i y H1 H2 e h => h) (fun i y H1 D acc acc' hD h => h) (by omega) (sl_at l5) (fun i x H2 hi e2 => ?_) mg_name (fun r6 H6 zs6 nr6 e6 l6 told6 => ?_)
      · refine ⟨rfl, rfl, fun QV qv => ?_⟩
        obtain ⟨t, hti, hx⟩ := alr.atv hi
        obtain ⟨p, dx, b, rfl, hp, hpb⟩ := (hx.mono e2).ref
        k_all
        exact qv _ H2 (Evl.Ex.refl _) ⟨t, hti, rfl⟩
      · rw [hll, ← hrl] at told6
        have hz := told_faces told6
        subst hz
        k_all
        refine w_tupL (sl_at l6) fun t nt => ?_
        generalize hG7 : upd _ _ _ = H7
        have e7 := ex_of hG7 nt
        have l7 := at_of hG7
        have e57 := e6.trans e7
        have hpb7 := e57 _ _ hpb
        k_all
        intro x dx nx ndx nxx
        have ex1 : Ex H7 (upd H7 dx (.own x)) := Evl.Ex.new ndx
        have nx2 : (upd H7 dx (.own x)) x = none := by rw [upd_ne (fun e => nxx e.symm)]; exact nx
        refine ⟨H7, x, dx, _, t, _, ab, (begunAt L).dir, _, _, _, rfl, ex1.trans (Evl.Ex.new nx2), nx, upd_same, st_at l7, ok, ok2, ex_t e57 hab, fun H8 sl rp e8 l8 h8 => ⟨rfl, ?_⟩⟩
        exact q _ _ ((e05.trans e57).trans e8) ⟨x, dx, _, t, _, _, sl, rp, rfl, l8, ex_t e8 (st_at l7), h8⟩
end TP

/-! G -/
set_option Elab.async false
set_option linter.all false
set_option maxRecDepth 100000
set_option maxHeartbeats 4000000
namespace TP
open PySem PySem.Spec PyProof.Rows L2
open PySem.W (Datum DatumOrd Holds HoldAll minOf maxOf Tup EachIs)
/-! ### dicts whose keys are nested tuples: the keys alone are told -/
def DObj (P : Program) (w : World) (d : Addr) (xs : List (NestedKey × Addr × Value)) (h : Heap) : Prop := ∃ o es ep, h.get? d = some o ∧ o.ExactDict ∧ o.data = .dict es ep ∧ es.toList = xs.map (entryOfKey (nestedKind P w))
theorem DObj.dep {P : Program} {w : World} {d : Addr} {xs : List (NestedKey × Addr × Value)} {h1 h2 : Heap} (x : DObj P w d xs h1) (k : ∀ o, h1.get? d = some o → h2.get? d = some o) : DObj P w d xs h2 := by
  obtain ⟨o, es, ep, e, r⟩ := x
  exact ⟨o, es, ep, k o e, r⟩
section
variable {X : Cx} {pins : List (Addr × Obj)} {σ : L2.St} {H : Hp} {s : Shared}
mutual
theorem dp_nested (I : Inv X pins σ H s) : ∀ (k : NestedKey) (v : V) (u : Value), Dp X.K H v k.data → RelV v u → NestedIs s.heap k u
  | .none, _, _, h, r => by
    unfold NestedKey.data at h
    cases h
    cases r
    exact .none
  | .num i, _, _, h, r => by
    unfold NestedKey.data at h
    cases h
    obtain ⟨t, rfl⟩ := r
    exact .int i t
  | .text x, _, _, h, r => by
    unfold NestedKey.data at h
    cases h
    obtain ⟨t, rfl⟩ := r
    exact .text x t
  | .tup ks, _, _, h, r => by
    unfold NestedKey.data at h
    cases h with
    | tup hs ha =>
      cases r
      obtain ⟨its, rv, ⟨o, ho, hc, n, hd⟩, _⟩ := I.tuple hs
      exact .tup ho hc hd (by simpa using dp_nestedAll I ks _ its ha rv)
theorem dp_nestedAll (I : Inv X pins σ H s) : ∀ (ks : List NestedKey) (vs : List V) (us : List Value), DpAll X.K H vs (NestedKey.datas ks) → Vals vs us → NestedAll s.heap ks us
  | [], _, _, h, r => by
    unfold NestedKey.datas at h
    cases h
    cases r
    exact .nil
  | k :: ks, _, _, h, r => by
    unfold NestedKey.datas at h
    cases h with
    | cons h1 h2 =>
      cases r with
      | cons r1 r2 => exact .cons (dp_nested I k _ _ h1 r1) (dp_nestedAll I ks _ _ h2 r2)
end
end
/-- the tuple at a is the key k -/
def NAt (K : PySem.W.Frag) (H : Hp) (a : Addr) (k : NestedKey) : Prop := Dp K H (.ref a) k.data ∧ k.depth ≤ 8
def NDict (P : Program) (w : World) (K : PySem.W.Frag) (H : Hp) (d : Addr) (ks : List NestedKey) : Prop :=
  ∃ xs : List (NestedKey × Addr × Value), (H d = some (.ext fun h => DObj P w d xs h ∧ (d == sysModules) = false) ∨ (xs = [] ∧ H d = some (.dK []))) ∧ (∀ x ∈ xs, NAt K H x.2.1 x.1) ∧ (xs.map (·.1)).Nodup ∧ xs.map (·.1) = ks
theorem NDict.mono {P : Program} {w : World} {K : PySem.W.Frag} {H H' : Hp} {d : Addr} {ks : List NestedKey} (h : NDict P w K H d ks) (e : Ex H H') : NDict P w K H' d ks := by
  obtain ⟨xs, h1, h2, h3, h4⟩ := h
  refine ⟨xs, ?_, fun x hx => ⟨dp_ex e _ _ (h2 x hx).1, (h2 x hx).2⟩, h3, h4⟩
  rcases h1 with h | ⟨h, h'⟩
  · exact .inl (e _ _ h)
  · exact .inr ⟨h, e _ _ h'⟩
theorem mu_tg {K : PySem.W.Frag} {H : Hp} {l a : Addr} {o u : HO} {xs : List V} (h : SqT K H a xs) (hl : H l = some u) (h1 : ∀ xs, u ≠ .tup xs) (h2 : ∀ ob xs, u ≠ .frz ob (.tup xs)) : SqT K (upd H l o) a xs := by
  rcases h with (h | ⟨ob, h⟩) | h
  · exact .inl (.inl (by rw [upd_ne (ne_of h hl (fun z => h1 _ z.symm))]; exact h))
  · exact .inl (.inr ⟨ob, by rw [upd_ne (ne_of h hl (fun z => h2 _ _ z.symm))]; exact h⟩)
  · exact .inr h
mutual
theorem dp_mug {K : PySem.W.Frag} {H : Hp} {l : Addr} {o u : HO} (hl : H l = some u) (h1 : ∀ xs, u ≠ .tup xs) (h2 : ∀ ob xs, u ≠ .frz ob (.tup xs)) : ∀ (d : PyData) (v : V), noL d = true → Dp K H v d → Dp K (upd H l o) v d
  | .none, _, _, h => by cases h; exact .non
  | .bool b, _, _, h => by cases h; exact .bl b
  | .int i, _, _, h => by cases h; exact .int i
  | .str x, _, _, h => by cases h; exact .str x
  | .list ds, _, n, h => by
    unfold noL at n
    cases n
  | .tuple ds, _, n, h => by
    cases h with
    | tup hs ha =>
      unfold noL at n
      exact .tup (mu_tg hs hl h1 h2) (dpAll_mug hl h1 h2 ds _ n ha)
  | .dict _, _, _, h => by cases h
theorem dpAll_mug {K : PySem.W.Frag} {H : Hp} {l : Addr} {o u : HO} (hl : H l = some u) (h1 : ∀ xs, u ≠ .tup xs) (h2 : ∀ ob xs, u ≠ .frz ob (.tup xs)) : ∀ (ds : List PyData) (vs : List V), noLs ds = true → DpAll K H vs ds → DpAll K (upd H l o) vs ds
  | [], _, _, h => by cases h; exact .nil
  | d :: ds, _, n, h => by
    cases h with
    | cons a b =>
      unfold noLs at n
      obtain ⟨n1, n2⟩ := Bool.and_eq_true_iff.mp n
      exact .cons (dp_mug hl h1 h2 d _ n1 a) (dpAll_mug hl h1 h2 ds _ n2 b)
end
mutual
theorem noL_data : ∀ k : NestedKey, noL k.data = true
  | .none => by unfold NestedKey.data; rfl
  | .num _ => by unfold NestedKey.data; rfl
  | .text _ => by unfold NestedKey.data; rfl
  | .tup ks => by unfold NestedKey.data noL; exact noL_datas ks
theorem noL_datas : ∀ ks : List NestedKey, noLs (NestedKey.datas ks) = true
  | [] => by unfold NestedKey.datas; rfl
  | k :: ks => by unfold NestedKey.datas noLs; rw [noL_data k, noL_datas ks]; rfl
end
/-- what is no tuple, and is written -/
def NoTup (u : HO) : Prop := (∀ xs, u ≠ .tup xs) ∧ ∀ ob xs, u ≠ .frz ob (.tup xs)
theorem noTup_lst {xs : List V} : NoTup (.lst xs) := ⟨fun _ z => (by cases z), fun _ _ z => (by cases z)⟩
theorem noTup_ext {φ : Heap → Prop} : NoTup (.ext φ) := ⟨fun _ z => (by cases z), fun _ _ z => (by cases z)⟩
theorem noTup_dK {kvs : List (Key × V)} : NoTup (.dK kvs) := ⟨fun _ z => (by cases z), fun _ _ z => (by cases z)⟩
/-- another thing is written -/
theorem NDict.other {P : Program} {w : World} {K : PySem.W.Frag} {H : Hp} {d l : Addr} {o u : HO} {ks : List NestedKey} (h : NDict P w K H d ks) (hl : H l = some u) (nt : NoTup u) (ne : d ≠ l) : NDict P w K (upd H l o) d ks := by
  obtain ⟨xs, h1, h2, h3, h4⟩ := h
  refine ⟨xs, ?_, fun x hx => ⟨dp_mug hl nt.1 nt.2 _ _ (noL_data _) (h2 x hx).1, (h2 x hx).2⟩, h3, h4⟩
  rw [upd_ne ne]
  exact h1
theorem NDict.obj {P : Program} {w : World} {K : PySem.W.Frag} {H : Hp} {d : Addr} {ks : List NestedKey} (h : NDict P w K H d ks) : ∃ u, H d = some u ∧ NoTup u ∧ Mut (H d) := by
  obtain ⟨xs, h1, _⟩ := h
  rcases h1 with h | ⟨_, h⟩
  · exact ⟨_, h, noTup_ext, by rw [h]; trivial⟩
  · exact ⟨_, h, noTup_dK, by rw [h]; trivial⟩
theorem atKey_mem {α : Type} [DecidableEq α] (xs : List (α × Addr × Value)) (k : α) : (atKey xs k).isSome = decide (k ∈ xs.map (·.1)) := by
  induction xs with
  | nil => simp [atKey]
  | cons x xs ih =>
    by_cases h : x.1 = k
    · simp [atKey, h]
    · have h' : ¬ k = x.1 := fun e => h e.symm
      have h1 : atKey (x :: xs) k = atKey xs k := by simp [atKey, h]
      rw [h1, ih]
      exact decide_eq_decide.mpr ⟨fun m => List.mem_cons_of_mem _ m, fun m => (List.mem_cons.mp m).resolve_left h'⟩
theorem storedH_keys {α : Type} [DecidableEq α] (xs : List (α × Addr × Value)) (k : α) (a : Addr) (v : Value) : (storedH xs k a v).map (·.1) = (if k ∈ xs.map (·.1) then xs.map (·.1) else xs.map (·.1) ++ [k]) := by
  unfold storedH
  have hs : (atKey xs k).isSome = decide (k ∈ xs.map (·.1)) := atKey_mem xs k
  by_cases h : k ∈ xs.map (·.1)
  · rw [if_pos h]
    rw [decide_eq_true h] at hs
    split
    · rw [List.map_map]
      refine List.map_congr_left fun x _ => ?_
      by_cases hx : x.1 = k <;> simp [putAt, hx]
    · rename_i hn
      exact absurd hs (by simpa using hn)
  · rw [if_neg h]
    rw [decide_eq_false h] at hs
    split
    · rename_i hn
      rw [hs] at hn
      cases hn
    · simp
theorem storedH_mem {α : Type} [DecidableEq α] {xs : List (α × Addr × Value)} {k : α} {a : Addr} {v : Value} {x : α × Addr × Value} (h : x ∈ storedH xs k a v) : (∃ y ∈ xs, x.1 = y.1 ∧ x.2.1 = y.2.1) ∨ (x.1 = k ∧ x.2.1 = a) := by
  unfold storedH at h
  split at h
  · obtain ⟨y, hy, rfl⟩ := List.mem_map.mp h
    refine .inl ⟨y, hy, ?_⟩
    by_cases hx : y.1 = k <;> simp [putAt, hx]
  · rcases List.mem_append.mp h with h | h
    · exact .inl ⟨x, h, rfl, rfl⟩
    · rw [List.mem_singleton] at h
      subst h
      exact .inr ⟨rfl, rfl⟩
section
variable {X : Cx} {pins : List (Addr × Obj)} {σ : L2.St} {H : Hp} {s : Shared}
theorem NDict.dictOf (I : Inv X pins σ H s) {d : Addr} {xs : List (NestedKey × Addr × Value)} (h1 : H d = some (.ext fun h => DObj X.prog X.w d xs h ∧ (d == sysModules) = false) ∨ (xs = [] ∧ H d = some (.dK []))) (h2 : ∀ x ∈ xs, NAt X.K H x.2.1 x.1) (h3 : (xs.map (·.1)).Nodup) :
    s.heap.DictOfH (nestedKind X.prog X.w) d xs ∧ (d == sysModules) = false := by
  rcases h1 with h | ⟨rfl, h⟩
  · obtain ⟨⟨⟨o, es, ep, e1, e2, e3, e4⟩, e5⟩, _, _⟩ := (show ObjOk X.prog X.w H s.heap d (.ext _) from I.hok d _ h)
    exact ⟨⟨o, es, ep, e1, e2, e3, e4, fun x hx => ⟨dp_nested I _ _ _ (h2 x hx).1 rfl, (h2 x hx).2⟩, h3⟩, e5⟩
  · obtain ⟨_, hs, vs, kv, o, es, ep, e1, e2, e3, e4⟩ := (show ObjOk X.prog X.w H s.heap d (.dK []) from I.hok d _ h)
    cases kv
    have e0 : es.toList = [] := by
      generalize es.toList = l at e4
      obtain ⟨_, e4, _⟩ := e4
      cases e4
      rfl
    exact ⟨⟨o, es, ep, e1, e2, e3, e0, (fun x hx => (by cases hx)), List.nodup_nil⟩, hs⟩
end
section
variable {X : Cx}
def rInN (P : Program) (w : World) (K : PySem.W.Frag) : R2 := fun x y H Q => ∃ a d k ks, x = .ref a ∧ y = .ref d ∧ NAt K H a k ∧ NDict P w K H d ks ∧ Q (.bl (decide (k ∈ ks))) H
def rNotInN (P : Program) (w : World) (K : PySem.W.Frag) : R2 := fun x y H Q => ∃ a d k ks, x = .ref a ∧ y = .ref d ∧ NAt K H a k ∧ NDict P w K H d ks ∧ Q (.bl (!decide (k ∈ ks))) H
theorem op_inN (hu : X.A.units + 64 < cLine) : OpR X (compareOp .In) (rInN X.prog X.w X.K) := by
  intro pins s σ H x y v u Q I rx ry h
  obtain ⟨a, d, k, ks, rfl, rfl, hk, ⟨xs, h1, h2, h3, rfl⟩, q⟩ := h
  cases rx
  cases ry
  obtain ⟨D, hs⟩ := NDict.dictOf I h1 h2 h3
  refine wpAny_in_heap (knd := nestedKind X.prog X.w) (by show X.A.units + 1 + 8 < cLine; omega) ⟨dp_nested I k _ _ hk.1 rfl, hk.2⟩ hs D ?_
  rw [atKey_mem]
  exact ⟨.bl _, H, I.tok _, rfl, q⟩
theorem op_notInN (hu : X.A.units + 64 < cLine) : OpR X (compareOp .NotIn) (rNotInN X.prog X.w X.K) := by
  intro pins s σ H x y v u Q I rx ry h
  obtain ⟨a, d, k, ks, rfl, rfl, hk, ⟨xs, h1, h2, h3, rfl⟩, q⟩ := h
  cases rx
  cases ry
  obtain ⟨D, hs⟩ := NDict.dictOf I h1 h2 h3
  refine PyProof.Rows.wpAny_notIn_heap (knd := nestedKind X.prog X.w) (by show X.A.units + 1 + 8 < cLine; omega) ⟨dp_nested I k _ _ hk.1 rfl, hk.2⟩ hs D ?_
  rw [atKey_mem]
  exact ⟨.bl _, H, I.tok _, rfl, q⟩
def addK (ks : List NestedKey) (k : NestedKey) : List NestedKey := if k ∈ ks then ks else ks ++ [k]
def rSetN (P : Program) (w : World) (K : PySem.W.Frag) : TSet := fun o i v H Q => ∃ d a k ks, o = .ref d ∧ i = .ref a ∧ NAt K H a k ∧ NDict P w K H d ks ∧ ks.length ≤ 50000 ∧ ∀ φ, NDict P w K (upd H d (.ext φ)) d (addK ks k) → Q (upd H d (.ext φ))
theorem set_N (hu : X.A.units + 64 < cLine) : PSet X (rSetN X.prog X.w X.K) := by
  intro pins s σ H o i v ov iv u Q I ro ri rv h
  obtain ⟨d, a, k, ks, rfl, rfl, hk, hnd, hz, q⟩ := h
  obtain ⟨u0, hu0, nt, hmut⟩ := hnd.obj
  obtain ⟨xs, h1, h2, h3, rfl⟩ := hnd
  cases ro
  cases ri
  obtain ⟨D, hs⟩ := NDict.dictOf I h1 h2 h3
  refine wpAny_setItem_heap (knd := nestedKind X.prog X.w) (hsz := by rw [List.length_map] at hz; exact Evl.sz_of (by omega)) (by show X.A.units + 1 + 8 < cLine; omega) ⟨dp_nested I k _ _ hk.1 rfl, hk.2⟩ D fun h' D' sb => ?_
  obtain ⟨o', es', ep', e1, e2, e3, e4, e5, e6⟩ := D'
  have hnew : ObjOk X.prog X.w (upd H d (.ext fun h => DObj X.prog X.w d (storedH xs k a u) h ∧ (d == sysModules) = false)) h' d (.ext fun h => DObj X.prog X.w d (storedH xs k a u) h ∧ (d == sysModules) = false) :=
    ⟨⟨⟨o', es', ep', e1, e2, e3, e4⟩, hs⟩, ⟨o', e1⟩, fun g1 g2 hg1 hg => ⟨hg1.1.dep hg, hg1.2⟩⟩
  refine ⟨_, I.write (x := d) (e := d) hmut (.inl rfl) (fun b ob hb z => (sb.2 b hb).trans z) ⟨o', e1⟩ hnew, q _ ⟨storedH xs k a u, .inl upd_same, fun x hx => ?_, e6, storedH_keys xs k a u⟩⟩
  rcases storedH_mem hx with ⟨y, hy, g1, g2⟩ | ⟨g1, g2⟩
  · rw [g1, g2]
    exact ⟨dp_mug hu0 nt.1 nt.2 _ _ (noL_data _) (h2 y hy).1, (h2 y hy).2⟩
  · rw [g1, g2]
    exact ⟨dp_mug hu0 nt.1 nt.2 _ _ (noL_data _) hk.1, hk.2⟩
end
end TP

/-! L -/
set_option Elab.async false
set_option linter.all false
set_option maxRecDepth 100000
set_option maxHeartbeats 4000000
namespace TP
open PySem PySem.Spec PyProof.Rows L2 LamX
open PySem.W (Datum DatumOrd Holds HoldAll minOf maxOf Tup EachIs)
/-! ### sorted(lanes, key=lambda lane: (lane.row, lane.faces)) -/
abbrev RF := Tup Int × Tup Int
/-- an object with the attributes row and faces -/
def RFAt (K : PySem.W.Frag) (H : Hp) (v : V) (z : RF) : Prop := ∃ p C dx fs rp fp, v = .ref p ∧ H p = some (.ins C dx fs) ∧ Cls K C ∧ NoAttr K C "row" ∧ NoAttr K C "faces" ∧ fs.lookup ("row" : Str) = some (.ref rp) ∧ fs.lookup ("faces" : Str) = some (.ref fp) ∧ SqT K H rp (vi z.1.items) ∧ SqT K H fp (vi z.2.items)
def keyBody (p1 p2 p3 p4 p5 : Pos) (k : Nat) : Expr := .Tuple [.Attribute (.Name "lane" p1) "row" p2, .Attribute (.Name "lane" p3) "faces" p4] k p5
theorem reads_ints {h : Heap} : ∀ (ns : List Int) (us : List Value), Vals (vi ns) us → ReadsAll h us (ns.map Datum.toD) []
  | [], _, r => by cases r; exact .nil
  | n :: ns, _, r => by
    cases r with
    | cons r1 r2 =>
      obtain ⟨t, rfl⟩ := r1
      exact ReadsAll.cons (as := []) (bs := []) (Reads.int n t) (reads_ints ns _ r2)
section
variable {X : Cx} {pins : List (Addr × Obj)} {σ : L2.St} {H : Hp} {s : Shared}
theorem lam_turn {A : Around} {f c' : Addr} {q : Str} {params : Arguments} {scope : Scope} {cl : List (Str × Addr)} {pm ctv : Value} {p1 p2 p3 p4 p5 : Pos} {k : Nat} {v : V} {z : RF} {u : Value} (I : Inv X pins σ H s) (hroom : A.depth < recursionLimit)
    (hf : s.heap.get? f = some (PySem.W.kla_obj "<lambda>" q params (keyBody p1 p2 p3 p4 p5 k) scope cl pm c' ctv)) (hco : H c' = some (CodeO c' q)) (co : scope.isCoroutine = false) (gen : scope.isGenerator = false) (kd : scope.kind = .function)
    (nocell : ∀ x ∈ scope.names, x.2 ≠ .cell) (loc : scope.names.lookup ("lane" : Str) = some .local)
    (hbind : ∀ u, bindArgs (PySem.W.kla_fn "<lambda>" q params (keyBody p1 p2 p3 p4 p5 k) scope cl pm (.ref c') ctv) ⟨[u], []⟩ = pure [(("lane" : Str), u)])
    (hv : RFAt X.K H v z) (ru : RelV v u) (h : Heap) (tk : Nat) (hk : ∀ b o, s.heap.get? b = some o → h.get? b = some o) :
    wpAny (model X.prog X.w) A (call (.ref f) [u]) (PySem.W.KeyPure (Datum.toD z) { s with heap := h, toks := tk }) (fun _ _ => False) { s with heap := h, toks := tk } := by
  obtain ⟨p, C, dx, fs, rp, fp, rfl, hp, c, nr, nf, lr, lf, hr, hfp⟩ := hv
  cases ru
  have I0 : Inv X pins σ H { s with heap := h, toks := tk } := I.kept hk
  obtain ⟨⟨oc, vs, t, hoc, hdc, hvc⟩, _, _⟩ := I0.hok c' _ hco
  refine wpAny_call (PySem.W.kla_callFunE hroom (hk _ _ hf) rfl co gen rfl ⟨c', oc, vs, t, rfl, hoc, hdc, hvc⟩ ?_)
  rw [hbind]
  refine wpAny_pure (wpAny_newFunctionEnv nocell (fun y hy => ?_) (fun h₁ hns hsb => ⟨I0.nolimit.fresh _ hsb, ?_⟩) kd)
  · rw [List.mem_singleton.mp hy]
    exact loc
  · show codeAny _ _ (.expr (keyBody p1 p2 p3 p4 p5 k) (PySem.W.envX q scope h.objs.size f (.ref c') cl)) _ _
    have kp : ∀ b o, h.get? b = some o → h₁.get? b = some o := fun b o e => hsb.extBut b o (Nat.ne_of_lt (Heap.lt_size e)) (Heap.get?_push_of_some _ e)
    have I1 : ∀ tk', Inv X pins σ H { s with heap := h₁, toks := tk' } := fun tk' => I.kept fun b o e => kp b o (hk b o e)
    obtain ⟨mA, O, ra, _, _, _⟩ := ins_get (I1 0).hok hp
    obtain ⟨u1, hu1, ru1⟩ := RelO.some_of (v := .ref rp) (o := mA "row") (by rw [← lr]; exact ra _)
    obtain ⟨u2, hu2, ru2⟩ := RelO.some_of (v := .ref fp) (o := mA "faces") (by rw [← lf]; exact ra _)
    cases ru1
    cases ru2
    have ev : ∀ (pp : Pos) (Q : Value → Shared → Prop) (tk' : Nat), Q (.ref p) { s with heap := h₁, toks := tk' } → wpAny (model X.prog X.w) (A.deeper (PySem.W.envX q scope h.objs.size f (.ref c') cl)) (eval (.Name "lane" pp) (PySem.W.envX q scope h.objs.size f (.ref c') cl)) Q (fun _ _ => False) { s with heap := h₁, toks := tk' } := fun pp Q tk' hq =>
      wpAny_Name (wpAny_loadName_local kd loc hns (by rfl) hq) (by decide)
    refine PySem.W.kla_codeExpr (wpAny_mono (E := fun _ _ => False) ?_ (fun v s' hq => hq) fun _ _ hx => hx.elim)
    refine wpAny_Tuple_spliced ?_
    refine Calls.spliced_cons (attr_of rfl (ev p1 _ _ ?_))
    refine get_map (I1 _).kIn O (c.get _) c.hd nr hu1 (handed_of (v := .ref rp) rfl) ?_
    refine Calls.spliced_cons (attr_of rfl (ev p3 _ _ ?_))
    refine get_map (I1 _).kIn O (c.get _) c.hd nf hu2 (handed_of (v := .ref fp) rfl) ?_
    refine Calls.spliced_nil ⟨by show 2 ≤ sizeLine; decide, ?_⟩
    refine ⟨_, _, rfl, fun b o e => Heap.get?_push_of_some _ (kp b o e), ?_⟩
    obtain ⟨its1, r1, ⟨o1, ho1, hc1, n1, hd1⟩, _⟩ := (I1 0).tuple hr
    obtain ⟨its2, r2, ⟨o2, ho2, hc2, n2, hd2⟩, _⟩ := (I1 0).tuple hfp
    have q1 : Reads (h₁.push { cls := .type "tuple", data := .seq ([Value.ref rp, Value.ref fp]).toArray }) (.ref rp) (Datum.toD z.1) [] := Reads.tuple (Heap.get?_push_of_some _ ho1) hc1 hd1 (by simpa using reads_ints _ _ r1)
    have q2 : Reads (h₁.push { cls := .type "tuple", data := .seq ([Value.ref rp, Value.ref fp]).toArray }) (.ref fp) (Datum.toD z.2) [] := Reads.tuple (Heap.get?_push_of_some _ ho2) hc2 hd2 (by simpa using reads_ints _ _ r2)
    have q3 := ReadsAll.cons q1 (ReadsAll.cons q2 ReadsAll.nil)
    exact Reads.tuple (Heap.get?_push_size _ rfl) rfl rfl q3
end
theorem nx_t {K : PySem.W.Frag} {H H' : Hp} {a : Addr} {xs : List V} (e : ExtN H H') (h : SqT K H a xs) : SqT K H' a xs := by
  rcases h with (h | ⟨ob, h⟩) | h
  · exact .inl (.inl (e _ _ h fun _ z => by cases z))
  · exact .inl (.inr ⟨ob, e _ _ h fun _ z => by cases z⟩)
  · exact .inr h
theorem nx_l {K : PySem.W.Frag} {H H' : Hp} {a : Addr} {xs : List V} (e : ExtN H H') (h : SqL K H a xs) : SqL K H' a xs := by
  rcases h with (h | ⟨ob, h⟩) | h
  · exact .inl (.inl (e _ _ h fun _ z => by cases z))
  · exact .inl (.inr ⟨ob, e _ _ h fun _ z => by cases z⟩)
  · exact .inr h
theorem RFAt.nx {K : PySem.W.Frag} {H H' : Hp} {v : V} {z : RF} (h : RFAt K H v z) (e : ExtN H H') : RFAt K H' v z := by
  obtain ⟨p, C, dx, fs, rp, fp, ev, hp, c, nr, nf, lr, lf, hr, hfp⟩ := h
  exact ⟨p, C, dx, fs, rp, fp, ev, e _ _ hp (fun _ z => by cases z), c, nr, nf, lr, lf, nx_t e hr, nx_t e hfp⟩
def tSortLam (K : PySem.W.Frag) (P : Addr) (q : Str) (ta : TA) : TE := fun σ H Q => ta σ H fun vs H1 => ∃ (a : Addr) (zs : List (V × RF)), vs = [.ref a] ∧ SqL K H1 a (zs.map (·.1)) ∧ (∀ z ∈ zs, RFAt K H1 z.1 z.2) ∧ zs.length ≤ 50000 ∧ Tabs [(P, q)] H1 ∧
  ∀ H2 p, ExtN H1 H2 → Tabs [(P, q)] H2 → H2 p = none → Q (.ref p) (upd H2 p (.lst ((zs.mergeSort fun a b => leX a.2 b.2).map (·.1))))
section
variable {X : Cx}
theorem sk_RF (zs : List (V × RF)) : PySem.W.Sortable (zs.map fun z => Datum.toD z.2) := .inl fun d hd => by
  obtain ⟨t, _, rfl⟩ := List.mem_map.mp hd
  exact ⟨_, _, rfl⟩
theorem pe_sortLam {c P : Addr} {e : Expr} {ta : TA} {params : Arguments} {scope : Scope} {p pos lpos kpos p1 p2 p3 p4 p5 : Pos} {k : Nat} (hg : Gl X "sorted") (hm : X.mg "sorted" = none) (ha : PA X [e] ta) (TB : TabB X.base X.mg c P) (hcode : X.env.code = .ref c) (hr : Room 4 X.A)
    (hdef : defaultsOf params X.env = ([], [])) (co : scope.isCoroutine = false) (gen : scope.isGenerator = false) (kd : scope.kind = .function) (nocell : ∀ x ∈ scope.names, x.2 ≠ .cell) (nofree : ∀ x ∈ scope.names, x.2 ≠ .free) (loc : scope.names.lookup ("lane" : Str) = some .local)
    (hbind : ∀ (q : Str) (cl : List (Str × Addr)) (pm cv ctv u : Value), bindArgs (PySem.W.kla_fn "<lambda>" q params (keyBody p1 p2 p3 p4 p5 k) scope cl pm cv ctv) ⟨[u], []⟩ = pure [(("lane" : Str), u)])
    (he : backTo pos (starEach [e] X.env) = (false, eval e X.env) :: backTo pos (starEach [] X.env) := by rfl) (hpl : (backTo pos (starEach [e] X.env)).any (·.1) = false := by rfl) :
    PE X (.Call (.Name "sorted" p) [e] [⟨some "key", .Lambda params (keyBody p1 p2 p3 p4 p5 k) scope lpos, kpos⟩] pos) (tSortLam X.K P (X.env.qual ++ "<lambda>") ta) := by
  refine ⟨fun pins s σ H Q I h => ?_⟩
  refine wpAny_Call_Name_kw (ld_blt I hg hm (u := .builtin "sorted") (by decide +kernel) ?_ (by decide) (by decide))
  refine PyProof.Rows.callWith_kw (thn (ha.run pos pins s σ H _ I h) fun us s1 ⟨vs, H1, I1, r1, q1⟩ => ?_) he hpl (by rfl) (by rfl)
  · obtain ⟨a, zs, rfl, hs, hz, hl, hT, q⟩ := q1
    obtain ⟨u, rfl, ru⟩ := vals1 r1
    cases ru
    show wpAny _ _ (evalAll [do let v ← eval (.Lambda params (keyBody p1 p2 p3 p4 p5 k) scope lpos) X.env; standAt pos; pure v]) _ _ s1
    refine wpAny_evalAll_cons (wpAny_bind (lam_make2 (T := [(P, X.env.qual ++ "<lambda>")]) I1 TB hcode (List.mem_singleton.mpr rfl) (fun p hp _ => by rw [List.mem_singleton.mp hp]) hT hdef (fun y hy e => absurd e (nofree y hy)) fun f c' pm ctv H2 s2 I2 eN T2 hf hfn hfr hco => ?_))
    refine wpAny_bind (wpAny_standAt (wpAny_pure (wpAny_evalAll_nil ?_)))
    obtain ⟨its, rv, el, _⟩ := I2.list (nx_l eN hs)
    have hz2 : ∀ z ∈ zs, RFAt X.K H2 z.1 z.2 := fun z m => (hz z m).nx eN
    have hu := hr.un
    have hd := hr.dp
    refine PySem.W.sorted_key_data (R := fun u (z : V × RF) => RelV z.1 u) (k := fun z => Datum.toD z.2) (b := false) (f := .ref f) el.isList (each_rel rv) (PySem.W.AllAlike.of fun b b' => DatumOrd.alike b.2 b'.2) (sk_RF zs) (Evl.sz_of (by omega))
      (fun z _ => by have := Datum.depth_le z.2; have h2 : Datum.depth RF ≤ 10 := by decide
                     omega) (PyProof.Rows.ksk_s1 _ _) (fun x => PyProof.Rows.ksk_l1 _ _) (fun x => PyProof.Rows.ksk_t1 f x) (fun v z hR hm h tk hk => ?_) fun out cc h' tk hk n0 hD ho hs2 => ?_
    · exact lam_turn (A := X.A.in1.in1) I2 (by show X.A.depth < recursionLimit; omega) hf hco co gen kd nocell loc (hbind _ _ _ _ _) (hz2 z hm) hR h tk hk
    · rw [le_data] at hs2
      have hlen : ((zs.mergeSort fun a b => leX a.2 b.2).map (·.1)).length ≤ sizeLine := by rw [List.length_map, List.length_mergeSort]; exact Evl.sz_of (by omega)
      exact ⟨.ref _, upd H2 (s2.heap.objs.size + 1) (.lst ((zs.mergeSort fun a b => leX a.2 b.2).map (·.1))), I2.laid hk (Nat.le_succ _) ⟨hlen, out, cc, rel_each hs2, hD⟩, rfl, q H2 _ eN T2 (I2.hok.fresh (Nat.le_succ _))⟩
end
end TP

/-! W15 -/
set_option Elab.async false
set_option linter.all false
set_option maxRecDepth 100000
set_option maxHeartbeats 4000000
-- k_mem: a fact of the heap as it is now, from an older one; k_upd: one step of a reading; k_all: as many as go

namespace TP
open PySem PySem.Spec PyProof.Rows L2 LamX
open PySem.W (minOf maxOf Tup DatumOrd Datum)
variable {P : Program} {w : World} {K : PySem.W.Frag} {mg : Str → Option Value} {base : Heap}
/-! ### a def whose code object is known -/
def codeAt (K : PySem.W.Frag) (f : Addr) : Option Addr := match K.lookup f with
  | some ⟨_, _, .func fd, _⟩ => match fd.code with
    | .ref c => some c
    | _ => none
  | _ => none
theorem FnC.ofT {x : Str} {params : Arguments} {body : List Stmt} {scope : Scope} {f c : Addr} {k : Nat} {N ps : List Str} {sp : Sp}
    (hc : codeAt K f = some c) (d : ∃ fd, FunD K x x params body scope [] [] f fd) (g : mg x = some (.ref f)) (S : FnScope N ps scope) (len : ∀ vs H Q E, sp vs H Q E → vs.length = ps.length)
    (hb : ∀ (kV doc pm : Value) (an : Option Addr) (cdv ct : Value) (us : List Value), us.length = ps.length → bindArgs (PySem.W.fnOf x x params body scope .none kV doc pm an cdv ct) ⟨us, []⟩ = pure (ps.zip us))
    (hbody : ∀ (A : Around) (outer : List PySem.Env) (s : Shared) (H : Hp) (vs : List V) (Q : VK) (E : XK), Room k (A.deeper (envOfC x scope s.heap.objs.size f (.ref c))) → sp vs H Q E →
      ∃ t, PSs (cxOf CX0 P w K mg base N x scope f (.ref c) A outer s H E).nox body t ∧ t { nx := fun _ H' => Q .non H', rt := Q } (start N vs) H) : FnC P w K mg base x (k + 1) ps [] sp := by
  obtain ⟨fd, F⟩ := d
  have ok : FnOk P w K mg base CX0 (k + 1) f fd ps sp := by
    obtain ⟨oc, od, dV, kV, doc, pm, an, cdv, ct, osl, rfl, lk, hcd, _, _⟩ := F.ex
    have e : cdv = .ref c := by
      unfold codeAt at hc
      rw [lk] at hc
      cases cdv <;> first | cases hc; done | (cases hc; rfl)
    subst e
    exact fn_of lk hcd S len fun A outer s H vs Q E hr h => by
      obtain ⟨t, h1, h2⟩ := hbody A outer s H vs Q E hr h
      exact ⟨t, h1.nox, h2⟩
  exact ⟨f, fd, [], ok, g, F.kp, F.bindsN hb, .nil⟩
/-! ### Lanes -/
def lsF (b sl ln : V) : List (Str × V) := putF "lanes" ln (putF "slope" sl (putF "box" b []))
section
variable {b sl ln : V}
theorem lsF_lanes : (lsF b sl ln).lookup ("lanes" : Str) = some ln := by
  unfold lsF
  rw [lookup_putF, if_pos rfl]
theorem lsF_slope : (lsF b sl ln).lookup ("slope" : Str) = some sl := by
  unfold lsF
  rw [lookup_putF, if_neg (by decide), lookup_putF, if_pos rfl]
theorem lsF_box : (lsF b sl ln).lookup ("box" : Str) = some b := by
  unfold lsF
  rw [lookup_putF, if_neg (by decide), lookup_putF, if_neg (by decide), lookup_putF, if_pos rfl]
end
def spMkLanes (C : Addr) : Sp := fun vs H Q _ => ∃ x dx b sl ln, vs = [.ref x, b, sl, ln] ∧ H x = some (.ins C dx []) ∧ Q .non (upd H x (.ins C dx (lsF b sl ln)))
theorem M_Lanes (E : Env K mg) : MkC P w K mg base "Lanes" (He.ga K "Lanes") 1 ["self", "box", "slope", "lanes"] (spMkLanes (He.ga K "Lanes")) := by
  refine .of E.d_Lanes_init E.m_Lanes E.g_Lanes sc_Lanes_init (fun vs H Q E h => ?_) (fun _ _ _ _ _ _ us hl => match us, hl with | [_, _, _, _], _ => rfl) (fun cdv A outer s0 H vs Q E' hr h => ?_)
  · obtain ⟨x, dx, b, sl, ln, rfl, _⟩ := h
    rfl
  · obtain ⟨x, dx, b, sl, ln, rfl, hx, q⟩ := h
    refine ⟨_, (pss_cons (ps_fld (pv 0) (pv 1) rfl)
      (pss_cons (ps_fld (pv 0) (pv 2) rfl)
      (pss_one (ps_fld (pv 0) (pv 3) rfl)))), ?_⟩
    k_all
    refine w_fS ?_
    k_all
    refine w_fS2 0 hx E.c_Lanes E.n_Lanes_box (Nat.le_refl _) (by omega) ?_
    k_all
    refine w_fS ?_
    k_all
    refine w_fS2 1 upd_same E.c_Lanes E.n_Lanes_slope (len_putF (Nat.le_refl _)) (by omega) ?_
    rw [upd_upd]
    dsimp only
    refine w_fS ?_
    k_all
    refine w_fS2 2 upd_same E.c_Lanes E.n_Lanes_lanes (len_putF (len_putF (Nat.le_refl _))) (by omega) ?_
    rw [upd_upd]
    exact q
theorem w_mkLs {H : Hp} {b sl ln : V} {Q : VK} (q : ∀ x dx H', H x = none → Ex H H' → H' x = some (.ins (He.ga K "Lanes") dx (lsF b sl ln)) → Q (.ref x) H') :
    ∀ x dx, H x = none → H dx = none → dx ≠ x → spMkLanes (He.ga K "Lanes") (.ref x :: ([b, sl, ln] ++ [])) (upd (upd H dx (.own x)) x (.ins (He.ga K "Lanes") dx [])) (fun v H2 => v = .non ∧ Q (.ref x) H2) E0 := by
  intro x dx hx hdx ne
  refine ⟨x, dx, b, sl, ln, rfl, upd_same, rfl, ?_⟩
  rw [upd_upd]
  have e1 : Ex H (upd H dx (.own x)) := Evl.Ex.new hdx
  have n2 : (upd H dx (.own x)) x = none := by rw [upd_ne (fun e => ne e.symm)]; exact hx
  exact q x dx _ hx (e1.trans (Evl.Ex.new n2)) upd_same
abbrev Lane := List Int × Int × Int
def LanesAt (K : PySem.W.Frag) (H : Hp) (v : V) (b : V) (p q : Int) (ls : List Lane) : Prop :=
  ∃ x dx sp la ys, v = .ref x ∧ H x = some (.ins (He.ga K "Lanes") dx (lsF b (.ref sp) (.ref la))) ∧ SqT K H sp (vi [p, q]) ∧ SqT K H la ys ∧ Al (LaneAt K H) ys ls
/-! ### lanes_of: what it makes -/
def nk (f : Int) (d : T3) (u : Int) : NestedKey := .tup [.num f, .tup [.num d.1, .num d.2.1, .num d.2.2], .num u]
def unitsIn (t : StV) : List Int := (List.range (t.high - t.low).toNat).map fun (i : Nat) => t.low + (i : Int)
def addRing (ks : List NestedKey) (R : List StV) : List NestedKey := R.foldl (fun ks t => (unitsIn t).foldl (fun ks u => addK ks (nk t.face t.dir u)) ks) ks
abbrev Scan := List NestedKey × List Lane
def lowStep (s : T3) (rg : Int → T3 → Int → List StV) (f : Int) (d : T3) (st : Scan) (u : Int) : Scan :=
  if nk f d u ∈ st.1 then st else (addRing st.1 (rg f d u), st.2 ++ [laneOf (rg f d u) (ringLen s (rg f d u))])
def lowsOf (s : T3) (f : Int) (d : T3) : List Int := (List.range ((sideRange s f d).2 - (sideRange s f d).1).toNat).map fun (i : Nat) => (sideRange s f d).1 + (i : Int)
def dirStep (s : T3) (rg : Int → T3 → Int → List StV) (f : Int) (st : Scan) (d : T3) : Scan := (lowsOf s f d).foldl (lowStep s rg f d) st
def faceStep (s : T3) (rg : Int → T3 → Int → List StV) (p q : Int) (st : Scan) (f : Int) : Scan := (dirsOn f p q).foldl (dirStep s rg f) st
def scanAll (s : T3) (rg : Int → T3 → Int → List StV) (p q : Int) : Scan := [0, 1, 2, 3, 4, 5].foldl (faceStep s rg p q) ([], [])
def rfOf (l : Lane) : RF := (⟨leastRow l.1⟩, ⟨l.1⟩)
def lanesM (s : T3) (rg : Int → T3 → Int → List StV) (p q : Int) : List Lane := (scanAll s rg p q).2.mergeSort fun a b => leX (rfOf a) (rfOf b)
/-- the ring of a unit strip, and what the code needs to know of it -/
structure RG (s : T3) (t : StV) (R : List StV) : Prop where
  orb : ∃ n ts, ts 0 = t ∧ Orb s n ts ∧ RingOk (orbL n ts) ∧ R = widen s (orbL n ts)
  ok : RingOk R
  nz : NzOk R
  len : LenOk s R
  row : RowOk (facesOf (rotL R (leastTurn (facesOf R))))
  back : RowOk (backR (facesOf (rotL R (leastTurn (facesOf R)))))
  bnd : ∀ t ∈ R, -100000 ≤ t.low ∧ t.low ≤ 100000 ∧ -100000 ≤ t.high ∧ t.high ≤ 100000
structure LanesIn (s : T3) (rg : Int → T3 → Int → List StV) (p q : Int) : Prop where
  box : BoxLe s
  slope : SlopeOk p q
  dir : ∀ f, FaceOk f → ∀ d ∈ dirsOn f p q, DirOk f d ∧ -100000 ≤ (sideRange s f d).1 ∧ (sideRange s f d).1 ≤ 100000 ∧ -100000 ≤ (sideRange s f d).2 ∧ (sideRange s f d).2 ≤ 100000 ∧ ∀ u, (sideRange s f d).1 ≤ u → u < (sideRange s f d).2 → RG s ⟨f, d, u, u + 1⟩ (rg f d u)
  fin : (scanAll s rg p q).1.length ≤ 50000 ∧ (scanAll s rg p q).2.length ≤ 50000
/-! the sizes only grow -/
def Scan.le (a b : Scan) : Prop := a.1.length ≤ b.1.length ∧ a.2.length ≤ b.2.length
theorem Scan.le_refl (a : Scan) : Scan.le a a := ⟨Nat.le_refl _, Nat.le_refl _⟩
theorem Scan.le_trans {a b c : Scan} (h : Scan.le a b) (h2 : Scan.le b c) : Scan.le a c := ⟨Nat.le_trans h.1 h2.1, Nat.le_trans h.2 h2.2⟩
theorem fold_le {α β : Type} {μ : β → Nat} {F : β → α → β} (h : ∀ b a, μ b ≤ μ (F b a)) : ∀ (xs : List α) (b : β), μ b ≤ μ (xs.foldl F b)
  | [], b => Nat.le_refl _
  | x :: xs, b => Nat.le_trans (h b x) (fold_le h xs (F b x))
theorem fold_le2 {α : Type} {F : Scan → α → Scan} (h : ∀ b a, Scan.le b (F b a)) : ∀ (xs : List α) (b : Scan), Scan.le b (xs.foldl F b)
  | [], b => Scan.le_refl _
  | x :: xs, b => Scan.le_trans (h b x) (fold_le2 h xs (F b x))
theorem fold_take_le {α : Type} {F : Scan → α → Scan} (h : ∀ b a, Scan.le b (F b a)) (xs : List α) (i : Nat) (b : Scan) : Scan.le ((xs.take i).foldl F b) (xs.foldl F b) := by
  conv => rhs; rw [← List.take_append_drop i xs, List.foldl_append]
  exact fold_le2 h _ _
theorem addK_le (ks : List NestedKey) (k : NestedKey) : ks.length ≤ (addK ks k).length := by
  unfold addK
  split
  · exact Nat.le_refl _
  · rw [List.length_append]
    exact Nat.le_add_right _ _
theorem addRing_le (ks : List NestedKey) (R : List StV) : ks.length ≤ (addRing ks R).length := fold_le (μ := List.length) (fun b t => fold_le (μ := List.length) (fun b u => addK_le b _) _ b) R ks
theorem lowStep_le (s : T3) (rg : Int → T3 → Int → List StV) (f : Int) (d : T3) (st : Scan) (u : Int) : Scan.le st (lowStep s rg f d st u) := by
  unfold lowStep
  split
  · exact Scan.le_refl _
  · exact ⟨addRing_le _ _, by rw [List.length_append]; exact Nat.le_add_right _ _⟩
theorem dirStep_le (s : T3) (rg : Int → T3 → Int → List StV) (f : Int) (st : Scan) (d : T3) : Scan.le st (dirStep s rg f st d) := fold_le2 (lowStep_le s rg f d) _ _
theorem faceStep_le (s : T3) (rg : Int → T3 → Int → List StV) (p q : Int) (st : Scan) (f : Int) : Scan.le st (faceStep s rg p q st f) := fold_le2 (dirStep_le s rg f) _ _
theorem fold_snoc {α β : Type} {F : β → α → β} {xs : List α} {i : Nat} {x : α} {b : β} (h : xs[i]? = some x) : (xs.take (i + 1)).foldl F b = F ((xs.take i).foldl F b) x := by
  rw [List.take_add_one, h, List.foldl_append]
  rfl
end TP

/-! W16 -/
set_option Elab.async false
set_option linter.all false
set_option maxRecDepth 100000
set_option maxHeartbeats 4000000
-- k_mem: a fact of the heap as it is now, from an older one; k_upd: one step of a reading; k_all: as many as go

namespace TP
open PySem PySem.Spec PyProof.Rows L2 LamX
open PySem.W (minOf maxOf Tup DatumOrd Datum)
variable {P : Program} {w : World} {K : PySem.W.Frag} {mg : Str → Option Value} {base : Heap}
/-! ### a heap grown but for two things -/
def ExB (l m : Addr) (H H' : Hp) : Prop := ∀ a o, a ≠ l → a ≠ m → H a = some o → H' a = some o
/-- what is at l is no tuple, instance or list -/
def NoObj (u : HO) : Prop := NoTup u ∧ (∀ C dx fs, u ≠ .ins C dx fs) ∧ ∀ xs, u ≠ .lst xs
theorem ExB.refl (l m : Addr) (H : Hp) : ExB l m H H := fun _ _ _ _ h => h
theorem ExB.trans {l m : Addr} {H H1 H2 : Hp} (a : ExB l m H H1) (b : ExB l m H1 H2) : ExB l m H H2 := fun c o n n2 h => b c o n n2 (a c o n n2 h)
theorem ExB.of {l m : Addr} {H H' : Hp} (e : Ex H H') : ExB l m H H' := fun a o _ _ h => e a o h
theorem ExB.upd1 {l m : Addr} {H : Hp} {o : HO} : ExB l m H (upd H l o) := fun a o n _ h => by rw [upd_ne n]; exact h
theorem ExB.upd2 {l m : Addr} {H : Hp} {o : HO} : ExB l m H (upd H m o) := fun a o _ n h => by rw [upd_ne n]; exact h
section
variable {l m : Addr} {H H' : Hp} {u : HO} {zs : List V}
/-- the two: a dict or the like, and a list -/
structure Two (H : Hp) (l m : Addr) : Prop where
  one : ∃ u, H l = some u ∧ NoObj u
  two : ∃ zs, H m = some (.lst zs)
theorem exb_t {a : Addr} {xs : List V} (e : ExB l m H H') (t : Two H l m) (h : SqT K H a xs) : SqT K H' a xs := by
  obtain ⟨⟨u, hl, nu⟩, zs, hm⟩ := t
  rcases h with (h | ⟨ob, h⟩) | h
  · exact .inl (.inl (e _ _ (ne_of h hl (fun z => nu.1.1 _ z.symm)) (ne_of h hm (fun z => by cases z)) h))
  · exact .inl (.inr ⟨ob, e _ _ (ne_of h hl (fun z => nu.1.2 _ _ z.symm)) (ne_of h hm (fun z => by cases z)) h⟩)
  · exact .inr h
theorem exb_i {a C dx : Addr} {fs : List (Str × V)} (e : ExB l m H H') (t : Two H l m) (h : H a = some (.ins C dx fs)) : H' a = some (.ins C dx fs) := by
  obtain ⟨⟨u, hl, nu⟩, zs, hm⟩ := t
  exact e _ _ (ne_of h hl (fun z => nu.2.1 _ _ _ z.symm)) (ne_of h hm (fun z => by cases z)) h
theorem exb_li {a : Addr} {xs : List V} (e : ExB l m H H') (t : Two H l m) (n : a ≠ m) (h : H a = some (.lst xs)) : H' a = some (.lst xs) := by
  obtain ⟨⟨u, hl, nu⟩, zs, hm⟩ := t
  exact e _ _ (ne_of h hl (fun z => nu.2.2 _ z.symm)) n h
theorem StAt.exb {v : V} {t : StV} (h : StAt K H v t) (e : ExB l m H H') (tw : Two H l m) : StAt K H' v t := by
  obtain ⟨p, dx, a, ev, h1, h2⟩ := h
  exact ⟨p, dx, a, ev, exb_i e tw h1, exb_t e tw h2⟩
theorem LaneAt.exb {v : V} {t : Lane} (h : LaneAt K H v t) (e : ExB l m H H') (tw : Two H l m) : LaneAt K H' v t := by
  obtain ⟨p, dx, b, fa, da, lo, sl, rp, ev, h1, h2, h3⟩ := h
  exact ⟨p, dx, b, fa, da, lo, sl, rp, ev, exb_i e tw h1, exb_t e tw h2, exb_t e tw h3⟩
end
theorem w_mkSB {H : Hp} {f a lo hi : V} {B : Addr → Hp → Prop} (q : ∀ x dx H', H x = none → Ex H H' → H' x = some (.ins (He.ga K "Strip") dx (stF f a lo hi)) → B x H') :
    ∀ x dx, H x = none → H dx = none → dx ≠ x → spMkStrip (He.ga K "Strip") (.ref x :: ([f, a, lo, hi] ++ [])) (upd (upd H dx (.own x)) x (.ins (He.ga K "Strip") dx [])) (fun v H2 => v = .non ∧ B x H2) E0 := by
  intro x dx hx hdx ne
  refine ⟨x, dx, f, a, lo, hi, rfl, upd_same, rfl, ?_⟩
  rw [upd_upd]
  have e1 : Ex H (upd H dx (.own x)) := Evl.Ex.new hdx
  have n2 : (upd H dx (.own x)) x = none := by rw [upd_ne (fun e => ne e.symm)]; exact hx
  exact q x dx _ hx (e1.trans (Evl.Ex.new n2)) upd_same
theorem NDict.objN {H : Hp} {d : Addr} {ks : List NestedKey} (h : NDict P w K H d ks) : ∃ u, H d = some u ∧ NoObj u := by
  obtain ⟨xs, h1, _⟩ := h
  rcases h1 with h | ⟨_, h⟩
  · exact ⟨_, h, noTup_ext, (fun _ _ _ z => by cases z), fun _ z => by cases z⟩
  · exact ⟨_, h, noTup_dK, (fun _ _ _ z => by cases z), fun _ z => by cases z⟩
theorem nat_of {H : Hp} {t a : Addr} {f u : Int} {d : T3} (h : SqT K H t [.int f, .ref a, .int u]) (ha : SqT K H a (vi (T3.l d))) : NAt K H t (nk f d u) := by
  have e : (nk f d u).data = .tuple [.int f, .tuple [.int d.1, .int d.2.1, .int d.2.2], .int u] := by
    simp only [nk, NestedKey.data, NestedKey.datas]
  refine ⟨?_, by simp [nk, NestedKey.depth, NestedKey.depthAll]⟩
  rw [e]
  exact .tup h (.cons (.int f) (.cons (.tup ha (.cons (.int _) (.cons (.int _) (.cons (.int _) .nil)))) (.cons (.int u) .nil)))
theorem w_dnew {σ : L2.St} {H : Hp} {Q : VK} (h : ∀ p, H p = none → Q (.ref p) (upd H p (.dK []))) : tDNewK σ H Q := h
theorem w_cont {D : Ends} {σ : L2.St} {H : Hp} (h : D.ct σ H) : tCont D σ H := h
/-- the scan so far, in the heap -/
def ScanAt (P : Program) (w : World) (K : PySem.W.Frag) (H : Hp) (sd fo : Addr) (st : Scan) : Prop := NDict P w K H sd st.1 ∧ ∃ ys, H fo = some (.lst ys) ∧ Al (LaneAt K H) ys st.2
theorem ScanAt.mono {H H' : Hp} {sd fo : Addr} {st : Scan} (h : ScanAt P w K H sd fo st) (e : Ex H H') : ScanAt P w K H' sd fo st := by
  obtain ⟨h1, ys, h2, h3⟩ := h
  exact ⟨h1.mono e, ys, e _ _ h2, h3.imp fun _ _ h => h.mono e⟩
theorem ScanAt.two {H : Hp} {sd fo : Addr} {st : Scan} (h : ScanAt P w K H sd fo st) : Two H sd fo := ⟨h.1.objN, h.2.imp fun _ h => h.1⟩
theorem T3.of_tup {H : Hp} {v : V} {d : T3} (h : DAt K H v (T3.tup d)) : ∃ a, v = .ref a ∧ SqT K H a (vi (T3.l d)) := d_tup_inv h
/-- seen[..] = True, for each unit of each strip -/
theorem add_at {ks : List NestedKey} {t : StV} {i : Nat} {n : Nat} (hn : i < n) (e : unitsIn t = (List.range n).map fun (i : Nat) => t.low + (i : Int)) :
    ((unitsIn t).take (i + 1)).foldl (fun ks u => addK ks (nk t.face t.dir u)) ks = addK (((unitsIn t).take i).foldl (fun ks u => addK ks (nk t.face t.dir u)) ks) (nk t.face t.dir (t.low + (i : Int))) :=
  fold_snoc (F := fun ks u => addK ks (nk t.face t.dir u)) (by rw [e, List.getElem?_map, List.getElem?_range hn]; rfl)
theorem w_sortLam {pt : Addr} {q : Str} {ta : TA} {σ : L2.St} {H : Hp} {Q : VK} (h : ta σ H fun vs H1 => ∃ (a : Addr) (zs : List (V × RF)), vs = [.ref a] ∧ SqL K H1 a (zs.map (·.1)) ∧ (∀ z ∈ zs, RFAt K H1 z.1 z.2) ∧ zs.length ≤ 50000 ∧ Tabs [(pt, q)] H1 ∧
    ∀ H2 p, ExtN H1 H2 → Tabs [(pt, q)] H2 → H2 p = none → Q (.ref p) (upd H2 p (.lst ((zs.mergeSort fun a b => leX a.2 b.2).map (·.1))))) : tSortLam K pt q ta σ H Q := h
theorem LaneAt.rf {H : Hp} {v : V} {l : Lane} (h : LaneAt K H v l) (E : Env K mg) : RFAt K H v (rfOf l) := by
  obtain ⟨p, dx, b, fa, da, lo, sl, rp, ev, h1, h2, h3⟩ := h
  exact ⟨p, _, dx, _, rp, fa, ev, h1, E.c_Lane, E.n_Lane_row, E.n_Lane_faces, lnF_row, lnF_faces, h3, h2⟩
theorem LaneAt.nx {H H' : Hp} {v : V} {l : Lane} (h : LaneAt K H v l) (e : ExtN H H') : LaneAt K H' v l := by
  obtain ⟨p, dx, b, fa, da, lo, sl, rp, ev, h1, h2, h3⟩ := h
  exact ⟨p, dx, b, fa, da, lo, sl, rp, ev, e _ _ h1 (fun _ z => by cases z), nx_t e h2, nx_t e h3⟩
theorem w_mkLsB {H : Hp} {b sl ln : V} {B : Addr → Hp → Prop} (q : ∀ x dx H', H x = none → Ex H H' → H' x = some (.ins (He.ga K "Lanes") dx (lsF b sl ln)) → B x H') :
    ∀ x dx, H x = none → H dx = none → dx ≠ x → spMkLanes (He.ga K "Lanes") (.ref x :: ([b, sl, ln] ++ [])) (upd (upd H dx (.own x)) x (.ins (He.ga K "Lanes") dx [])) (fun v H2 => v = .non ∧ B x H2) E0 := by
  intro x dx hx hdx ne
  refine ⟨x, dx, b, sl, ln, rfl, upd_same, rfl, ?_⟩
  rw [upd_upd]
  have e1 : Ex H (upd H dx (.own x)) := Evl.Ex.new hdx
  have n2 : (upd H dx (.own x)) x = none := by rw [upd_ne (fun e => ne e.symm)]; exact hx
  exact q x dx _ hx (e1.trans (Evl.Ex.new n2)) upd_same
def lamQ : Str := "lanes_of.<locals>.<lambda>"
def spLanes (P : Program) (w : World) (K : PySem.W.Frag) (pt : Addr) : Sp := fun vs H Q _ => ∃ v a s rg p q, vs = [v, .ref a] ∧ BoxAt K H v s ∧ SqT K H a (vi [p, q]) ∧ LanesIn s rg p q ∧ Tabs [(pt, lamQ)] H ∧
  ∀ u H', ExtN H H' → Tabs [(pt, lamQ)] H' → LanesAt K H' u v p q (lanesM s rg p q) → Q u H'
theorem C_lanes_of {c pt : Addr} (E : Env K mg) (hcode : codeAt K (He.ga K "lanes_of") = some c) (TB : TabB base mg c pt) : FnC P w K mg base "lanes_of" 8 ["box", "slope"] [] (spLanes P w K pt) := by
  have C_check_slope := C_check_slope (P := P) (w := w) (base := base) E
  have C_directions_on := C_directions_on (P := P) (w := w) (base := base) E
  have C_sideways_range := C_sideways_range (P := P) (w := w) (base := base) E
  have C_strips_round := C_strips_round (P := P) (w := w) (base := base) E
  have C_widened := C_widened (P := P) (w := w) (base := base) E
  have C_ring_length := C_ring_length (P := P) (w := w) (base := base) E
  have C_lane_of_ring := C_lane_of_ring (P := P) (w := w) (base := base) E
  have M_Strip := M_Strip (P := P) (w := w) (base := base) E
  have M_Lanes := M_Lanes (P := P) (w := w) (base := base) E
  refine .ofT hcode E.d_lanes_of E.g_lanes_of sc_lanes_of (fun vs H Q E h => ?_) (fun _ _ _ _ _ _ us hl => match us, hl with | [_, _], _ => rfl) (fun A outer s0 H vs Q E' hr h => ?_)
  · obtain ⟨v, a, s, rg, p, q, rfl, _⟩ := h
    rfl
  · obtain ⟨v, a, s, rg, p, q, rfl, hb, ha, hin, hT, k⟩ := h
    refine ⟨_, (pss_cons (ps_set (i := 2) sc_lanes_of.nd rfl (by first | exact Or.inl rfl | exact Or.inr rfl) (pe_c C_check_slope (hr.mono (by decide)) rfl (pa_cons (pv 1) (pa_cons pe_bl pa_nil))))
      (pss_cons (ps_set (i := 3) sc_lanes_of.nd rfl (by first | exact Or.inl rfl | exact Or.inr rfl) pe_dnewK)
      (pss_cons (ps_set (i := 4) sc_lanes_of.nd rfl (by first | exact Or.inl rfl | exact Or.inr rfl) (pe_lst pa_nil))
      (pss_cons (ps_for PassesOwn.never rfl (pi_range1 rfl E.b_range (pa_cons pe_int pa_nil)) (pg_name (i := 5) sc_lanes_of.nd rfl (by first | exact Or.inl rfl | exact Or.inr rfl)) (pss_one (ps_for PassesOwn.never rfl (pi_tup (pe_c C_directions_on (hr.mono (by decide)) rfl (pa_cons (pv 5) (pa_cons (pv 2) pa_nil)))) (pg_name (i := 6) sc_lanes_of.nd rfl (by first | exact Or.inl rfl | exact Or.inr rfl)) (pss_cons (ps_asg (pe_c C_sideways_range (hr.mono (by decide)) rfl (pa_cons (pv 0) (pa_cons (pv 5) (pa_cons (pv 6) pa_nil)))) (pg_tup (n := 2) rfl (pgs_cons (pg_name (i := 7) sc_lanes_of.nd rfl (by first | exact Or.inl rfl | exact Or.inr rfl)) (pgs_cons (pg_name (i := 8) sc_lanes_of.nd rfl (by first | exact Or.inl rfl | exact Or.inr rfl)) pgs_nil))))
      (pss_one (ps_for PassesOwn.never rfl (pi_range2 rfl E.b_range (pa_cons (pv 7) (pa_cons (pv 8) pa_nil))) (pg_name (i := 9) sc_lanes_of.nd rfl (by first | exact Or.inl rfl | exact Or.inr rfl)) (pss_cons (ps_if (pt_cmpR (op_inN hr.units) (pe_tup (pa_cons (pv 5) (pa_cons (pv 6) (pa_cons (pv 9) pa_nil)))) (pv 3) (by rfl)) (pss_one ps_continue) pss_nil)
      (pss_cons (ps_set (i := 10) sc_lanes_of.nd rfl (by first | exact Or.inl rfl | exact Or.inr rfl) (pe_c C_widened (hr.mono (by decide)) rfl (pa_cons (pv 0) (pa_cons (pe_c C_strips_round (hr.mono (by decide)) rfl (pa_cons (pv 0) (pa_cons (pe_mk M_Strip (hr.mono (by decide)) rfl (pa_cons (pv 5) (pa_cons (pv 6) (pa_cons (pv 9) (pa_cons (pe_op op_add (pv 9) pe_int) pa_nil))))) pa_nil))) pa_nil))))
      (pss_cons (ps_for PassesOwn.never rfl (pi_list (pv 10)) (pg_name (i := 11) sc_lanes_of.nd rfl (by first | exact Or.inl rfl | exact Or.inr rfl)) (pss_one (ps_for PassesOwn.never rfl (pi_range2 rfl E.b_range (pa_cons (pe_fld (pv 11) (by rfl)) (pa_cons (pe_fld (pv 11) (by rfl)) pa_nil))) (pg_name (i := 12) sc_lanes_of.nd rfl (by first | exact Or.inl rfl | exact Or.inr rfl)) (pss_one (ps_asg pe_bl (pg_sub (pv 3) (pe_tup (pa_cons (pe_fld (pv 11) (by rfl)) (pa_cons (pe_fld (pv 11) (by rfl)) (pa_cons (pv 12) pa_nil)))) (set_N hr.units)))))))
      (pss_one (ps_expr (pe_bm PySem.F.plainAttrs_list PySem.F.slot_list_append PySem.F.type_list_append mt_append (pv 4) (pa_cons (pe_c C_lane_of_ring (hr.mono (by decide)) rfl (pa_cons (pv 0) (pa_cons (pv 10) (pa_cons (pe_c C_ring_length (hr.mono (by decide)) rfl (pa_cons (pv 0) (pa_cons (pv 10) pa_nil))) pa_nil)))) pa_nil)))))))))))))
      (pss_one (ps_ret (pe_mk M_Lanes (hr.mono (by decide)) rfl (pa_cons (pv 0) (pa_cons (pv 2) (pa_cons (pe_callTy call_tuple_of (by rfl) E.b_tuple (by decide +kernel) (pa_cons (pe_sortLam rfl E.b_sorted (pa_cons (pv 4) pa_nil) TB rfl (hr.mono (by decide)) rfl rfl rfl rfl (by decide) (by decide) rfl (fun _ _ _ _ _ _ => rfl)) pa_nil)) pa_nil)))))))))), ?_⟩
    k_all
    refine ⟨a, p, q, rfl, ha, hin.slope, fun kp H1 e1 hkp => ?_⟩
    k_all
    refine w_dnew fun sd nsd => ?_
    generalize hG2 : upd _ _ _ = H2
    have e2 : Ex H1 H2 := ex_of hG2 nsd
    have l2 := at_of hG2
    k_all
    rename_i fo nfo2 H3 e3 l3
    have nfo := Evl.fresh_back e2 nfo2
    have l23 := e3 _ _ l2
    have hsf : sd ≠ fo := fun h => by rw [h] at l2; rw [nfo2] at l2; cases l2
    have e13 := e2.trans e3
    have hb1 := hb.mono e1
    refine for_range (n := 6) (fun i σ H' => ∃ z1 z2 z3 z4 z5 z6 z7 z8, σ = [some v, some (.ref a), some (.ref kp), some (.ref sd), some (.ref fo), z1, z2, z3, z4, z5, z6, z7, z8] ∧ Ex H1 H' ∧ ScanAt P w K H' sd fo (([0, 1, 2, 3, 4, 5].take i).foldl (faceStep s rg p q) ([], [])))
      ⟨_, _, _, _, _, _, _, _, rfl, e13, ⟨[], .inr ⟨rfl, l23⟩, (fun x hx => by cases hx), List.nodup_nil, rfl⟩, [], l3, Al.nil⟩ (fun i σ H' hi h => ?_) (fun σ H' h => ?_)
    · obtain ⟨z1, z2, z3, z4, z5, z6, z7, z8, rfl, e, hs⟩ := h
      have hface : ([0, 1, 2, 3, 4, 5] : List Int)[i]? = some ((0 : Int) + (i : Int)) := by
        match i, hi with
        | 0, _ => rfl
        | 1, _ => rfl
        | 2, _ => rfl
        | 3, _ => rfl
        | 4, _ => rfl
        | 5, _ => rfl
      have hfo : FaceOk ((0 : Int) + (i : Int)) := ⟨by omega, by omega⟩
      generalize hfE : (0 : Int) + (i : Int) = f at hface hfo
      have hstep := fold_snoc (F := faceStep s rg p q) (b := (([], []) : Scan)) hface
      have hfin : Scan.le (faceStep s rg p q (([0, 1, 2, 3, 4, 5].take i).foldl (faceStep s rg p q) ([], [])) f) (scanAll s rg p q) := by
        rw [← hstep]
        exact fold_take_le (faceStep_le s rg p q) _ _ _
      rw [hstep]
      generalize (([0, 1, 2, 3, 4, 5].take i).foldl (faceStep s rg p q) ([], [])) = st0 at hs hfin
      k_all
      refine ⟨_, _, p, q, rfl, hfo, ex_t e hkp, hin.slope, fun dl H4 e4 ⟨ys4, hdl, hda⟩ => ?_⟩
      have hlen4 : ys4.length = (dirsOn f p q).length := by rw [hda.len, List.length_map]
      refine w_itT hdl (for_tup (xs := ys4) (fun j σ H' => ∃ z2 z3 z4 z5 z6 z7 z8, σ = [some v, some (.ref a), some (.ref kp), some (.ref sd), some (.ref fo), some (.int f), z2, z3, z4, z5, z6, z7, z8] ∧ Ex H1 H' ∧ ExB sd fo H4 H' ∧ ScanAt P w K H' sd fo (((dirsOn f p q).take j).foldl (dirStep s rg f) st0)) ⟨_, _, _, _, _, _, _, rfl, e.trans e4, ExB.refl _ _ _, hs.mono e4⟩ (fun j σ H' _ h => ?_) (fun j x σ H5 hj h => ?_) (fun σ H' h => ?_))
      · obtain ⟨_, _, _, _, _, _, _, _, _, eb, _⟩ := h
        exact exb_t eb (hs.mono e4).two hdl
      · obtain ⟨z2, z3, z4, z5, z6, z7, z8, rfl, e, eb, hs1⟩ := h
        have hdx : ∃ d, (dirsOn f p q)[j]? = some d ∧ DAt K H4 x (T3.tup d) := by
          have hjl := (List.getElem?_eq_some_iff.mp hj).1
          have h1 : (dirsOn f p q)[j]? = some ((dirsOn f p q)[j]'(by omega)) := List.getElem?_eq_getElem _
          exact ⟨_, h1, hda.at hj (by rw [List.getElem?_map, h1]; rfl)⟩
        obtain ⟨d, hd, hdat⟩ := hdx
        obtain ⟨da, rfl, hda4⟩ := T3.of_tup hdat
        have tw4 := (hs.mono e4).two
        have hda5 := exb_t eb tw4 hda4
        obtain ⟨dok, b1, b2, b3, b4, hrg⟩ := hin.dir f hfo d (List.mem_of_getElem? hd)
        have hstep2 := fold_snoc (F := dirStep s rg f) (b := st0) hd
        have hfin2 : Scan.le (dirStep s rg f (((dirsOn f p q).take j).foldl (dirStep s rg f) st0) d) (scanAll s rg p q) := by
          rw [← hstep2]
          exact Scan.le_trans (fold_take_le (dirStep_le s rg f) _ _ _) hfin
        rw [hstep2]
        generalize (((dirsOn f p q).take j).foldl (dirStep s rg f) st0) = st1 at hs1 hfin2
        k_all
        refine ⟨_, s, f, da, d, rfl, hb1.mono e, hfo, hda5, dok, fun tp H6 e6 ntp l6 => ?_⟩
        have e16 := e.trans e6
        have eb6 : ExB sd fo H4 H6 := eb.trans (ExB.of e6)
        have hs6 := hs1.mono e6
        k_all
        have hlw : lowsOf s f d = (List.range ((sideRange s f d).2 - (sideRange s f d).1).toNat).map fun (i : Nat) => (sideRange s f d).1 + (i : Int) := rfl
        refine for_range (n := ((sideRange s f d).2 - (sideRange s f d).1).toNat) (fun m σ H' => ∃ z5 z6 z7 z8, σ = [some v, some (.ref a), some (.ref kp), some (.ref sd), some (.ref fo), some (.int f), some (.ref da), some (.int (sideRange s f d).1), some (.int (sideRange s f d).2), z5, z6, z7, z8] ∧ Ex H1 H' ∧ ExB sd fo H4 H' ∧ ScanAt P w K H' sd fo (((lowsOf s f d).take m).foldl (lowStep s rg f d) st1)) ⟨_, _, _, _, rfl, e16, eb6, hs6⟩ (fun m σ H7 hm h => ?_) (fun σ H' h => ?_)
        · obtain ⟨z5, z6, z7, z8, rfl, e, eb, hs2⟩ := h
          have hlow : (lowsOf s f d)[m]? = some ((sideRange s f d).1 + (m : Int)) := by rw [hlw, List.getElem?_map, List.getElem?_range hm]; rfl
          have hstep3 := fold_snoc (F := lowStep s rg f d) (b := st1) hlow
          have hfin3 : Scan.le (lowStep s rg f d (((lowsOf s f d).take m).foldl (lowStep s rg f d) st1) ((sideRange s f d).1 + (m : Int))) (scanAll s rg p q) := by
            rw [← hstep3]
            exact Scan.le_trans (fold_take_le (lowStep_le s rg f d) _ _ _) hfin2
          rw [hstep3]
          generalize (((lowsOf s f d).take m).foldl (lowStep s rg f d) st1) = st2 at hs2 hfin3
          have hRG := hrg ((sideRange s f d).1 + (m : Int)) (by omega) (by omega)
          generalize hu : (sideRange s f d).1 + (m : Int) = u at hRG hfin3
          have hda7 := exb_t eb tw4 hda4
          k_all
          rename_i tk ntk H8 e8 l8
          have hs3 := hs2.mono e8
          refine ⟨tk, sd, nk f d u, st2.1, rfl, rfl, nat_of (st_at l8) (ex_t e8 hda7), hs3.1, ?_⟩
          k_all
          refine if_dec (fun hmem => ?_) (fun hmem => ?_)
          · refine w_cont ?_
            have e0 : lowStep s rg f d st2 u = st2 := if_pos hmem
            rw [e0]
            exact ⟨_, _, _, _, rfl, e.trans e8, eb.trans (ExB.of e8), hs3⟩
          · have e0 : lowStep s rg f d st2 u = (addRing st2.1 (rg f d u), st2.2 ++ [laneOf (rg f d u) (ringLen s (rg f d u))]) := if_neg hmem
            rw [e0] at hfin3
            rw [e0]
            obtain ⟨⟨n, ts, ht0, horb, hrk, hR⟩, ok, nz, len, row, back, bnd⟩ := hRG
            generalize rg f d u = R at hR ok nz len row back bnd hfin3
            k_all
            refine w_mkSB fun xs dxs H9 nx9 e9 l9 => ?_
            have e19 := (e.trans e8).trans e9
            refine ⟨v, _, s, n, ts, rfl, hb1.mono e19, ?_, horb, fun p10 H10 ys10 e10 np10 l10 al10 => ?_⟩
            · rw [ht0]
              exact ⟨xs, dxs, da, rfl, l9, ex_t (e8.trans e9) hda7⟩
            have e110 := e19.trans e10
            refine ⟨v, s, p10, orbL n ts, rfl, hb1.mono e110, ⟨ys10, l10, al10⟩, hrk, fun rp H11 e11 np11 ⟨ysR, l11, alR⟩ => ?_⟩
            rw [← hR] at alR
            have e111 := e110.trans e11
            have hs11 := ((hs3.mono e9).mono e10).mono e11
            have eb11 : ExB sd fo H4 H11 := eb.trans (ExB.of (((e8.trans e9).trans e10).trans e11))
            have hRlen : ysR.length = R.length := alR.1
            have hR4 := ok.2.1
            have hfo10 : ∃ ys, H10 fo = some (.lst ys) := ((hs3.mono e9).mono e10).2.imp fun _ h => h.1
            have hrf : rp ≠ fo := fun h => by
              obtain ⟨ys, hy⟩ := hfo10
              rw [← h, np11] at hy
              cases hy
            have hsz1 : ∀ ks R1 R2, R = R1 ++ R2 → (addRing ks R1).length ≤ (addRing ks R).length := fun ks R1 R2 h => by
              rw [h]
              unfold addRing
              rw [List.foldl_append]
              exact addRing_le _ R2
            have hsz : (addRing st2.1 R).length ≤ 50000 := Nat.le_trans hfin3.1 hin.fin.1
            k_all
            refine w_itL (sl_at l11) (for_list (xs := ysR) (fun g σ H' => ∃ z7 z8, σ = [some v, some (.ref a), some (.ref kp), some (.ref sd), some (.ref fo), some (.int f), some (.ref da), some (.int (sideRange s f d).1), some (.int (sideRange s f d).2), some (.int u), some (.ref rp), z7, z8] ∧ Ex H1 H' ∧ ExB sd fo H11 H' ∧ ScanAt P w K H' sd fo (addRing st2.1 (R.take g), st2.2)) ⟨_, _, rfl, e111, ExB.refl _ _ _, hs11⟩ (fun g σ H' _ h => ?_) (fun g x σ H12 hg h => ?_) (fun σ H' h => ?_))
            · obtain ⟨_, _, _, _, eb, _⟩ := h
              exact sl_at (exb_li eb hs11.two hrf l11)
            · obtain ⟨z7, z8, rfl, e12, eb12, hs12⟩ := h
              obtain ⟨t, hgt, hxt⟩ := alR.atv hg
              obtain ⟨c1, c2, c3, c4⟩ := bnd t (List.mem_of_getElem? hgt)
              obtain ⟨px, dxx, ax, rfl, hpx, hax⟩ := hxt.ref
              have hpx12 := exb_i eb12 hs11.two hpx
              have hstep4 : addRing st2.1 (R.take (g + 1)) = (unitsIn t).foldl (fun ks u => addK ks (nk t.face t.dir u)) (addRing st2.1 (R.take g)) := fold_snoc (F := fun ks t => (unitsIn t).foldl (fun ks u => addK ks (nk t.face t.dir u)) ks) hgt
              have hszg : (addRing st2.1 (R.take (g + 1))).length ≤ 50000 := Nat.le_trans (hsz1 st2.1 (R.take (g + 1)) (R.drop (g + 1)) (List.take_append_drop _ _).symm) hsz
              rw [hstep4] at hszg
              rw [hstep4]
              generalize addRing st2.1 (R.take g) = kg at hs12 hszg
              k_all
              have hun : unitsIn t = (List.range (t.high - t.low).toNat).map fun (i : Nat) => t.low + (i : Int) := rfl
              refine for_range (n := (t.high - t.low).toNat) (fun i σ H' => ∃ z8, σ = [some v, some (.ref a), some (.ref kp), some (.ref sd), some (.ref fo), some (.int f), some (.ref da), some (.int (sideRange s f d).1), some (.int (sideRange s f d).2), some (.int u), some (.ref rp), some (.ref px), z8] ∧ Ex H1 H' ∧ ExB sd fo H11 H' ∧ ScanAt P w K H' sd fo (((unitsIn t).take i).foldl (fun ks u => addK ks (nk t.face t.dir u)) kg, st2.2)) ⟨_, rfl, e12, eb12, hs12⟩ (fun i σ H13 hi h => ?_) (fun σ H' h => ?_)
              · obtain ⟨z8, rfl, e13', eb13, hs13⟩ := h
                have hpx13 := exb_i eb13 hs11.two hpx
                have hax13 := exb_t eb13 hs11.two hax
                have hkz : (((unitsIn t).take i).foldl (fun ks u => addK ks (nk t.face t.dir u)) kg).length ≤ 50000 := by
                  refine Nat.le_trans ?_ hszg
                  conv => rhs; rw [← List.take_append_drop i (unitsIn t), List.foldl_append]
                  exact fold_le (μ := List.length) (fun b u => addK_le b _) _ _
                rw [add_at hi hun]
                generalize ((unitsIn t).take i).foldl (fun ks u => addK ks (nk t.face t.dir u)) kg = ki at hs13 hkz
                k_all
                rename_i tk2 ntk2 H14 e14 l14
                have hs14 := hs13.mono e14
                refine ⟨sd, tk2, nk t.face t.dir (t.low + (i : Int)), ki, rfl, rfl, nat_of (st_at l14) (ex_t e14 hax13), hs14.1, hkz, fun φ nd' => ?_⟩
                refine ⟨_, rfl, ex_mut rfl (e13'.trans e14) nsd, (eb13.trans (ExB.of e14)).trans ExB.upd1, nd', ?_⟩
                obtain ⟨ysL, lL, alL⟩ := hs14.2
                exact ⟨ysL, by rw [upd_ne (fun h => hsf h.symm)]; exact lL, alL.imp fun _ _ h => h.exb ExB.upd1 hs14.two⟩
              · obtain ⟨z8, rfl, e13', eb13, hs13⟩ := h
                have hl : (unitsIn t).length = (t.high - t.low).toNat := by rw [hun, List.length_map, List.length_range]
                rw [← hl, List.take_length] at hs13
                exact ⟨_, _, rfl, e13', eb13, hs13⟩
            · obtain ⟨z7, z8, rfl, e12, eb12, hs12⟩ := h
              rw [hRlen, List.take_length] at hs12
              obtain ⟨nd12, ysL, lL, alL⟩ := hs12
              have hl12 := exb_li eb12 hs11.two hrf l11
              have alR12 : Al (StAt K H') ysR R := alR.imp fun _ _ h => h.exb eb12 hs11.two
              have hyl : ysL.length ≤ 50000 := by
                rw [alL.1]
                have h2 := Nat.le_trans hfin3.2 hin.fin.2
                rw [List.length_append] at h2
                exact Nat.le_trans (Nat.le_add_right _ _) h2
              k_all
              refine ⟨v, s, rp, R, rfl, hb1.mono e12, hin.box, ⟨ysR, hl12, alR12⟩, ok, nz, len, fun H13 e13' => ?_⟩
              k_all
              refine ⟨v, rp, R, _, rfl, ⟨ysR, e13' _ _ hl12, alR12.imp fun _ _ h => h.mono e13'⟩, ok.1, hR4, row, back, fun ln H14 e14 hln => ?_⟩
              have e1314 := e13'.trans e14
              have lL14 := e1314 _ _ lL
              k_all
              refine w_app lL14 (by omega) ?_
              generalize hG15 : upd _ _ _ = H15
              have e15 : Ex H1 H15 := ex_mut hG15 (e12.trans e1314) nfo
              have l15 := at_of hG15
              have eb15 : ExB sd fo H14 H15 := hG15 ▸ ExB.upd2
              have tw14 : Two H14 sd fo := ⟨(nd12.mono e1314).objN, _, lL14⟩
              k_all
              refine ⟨_, _, _, _, rfl, e15, ((eb11.trans eb12).trans (ExB.of e1314)).trans eb15, ?_, _, l15, ?_⟩
              · rw [← hG15]
                exact (nd12.mono e1314).other lL14 noTup_lst hsf
              · exact Al.snoc ((alL.imp fun _ _ h => h.mono e1314).imp fun _ _ h => h.exb eb15 tw14) (hln.exb eb15 tw14)
        · obtain ⟨z5, z6, z7, z8, rfl, e, eb, hs2⟩ := h
          refine ⟨_, _, _, _, _, _, _, rfl, e, eb, ?_⟩
          have hl : (lowsOf s f d).length = ((sideRange s f d).2 - (sideRange s f d).1).toNat := by rw [hlw, List.length_map, List.length_range]
          rw [← hl, List.take_length] at hs2
          exact hs2
      · obtain ⟨z2, z3, z4, z5, z6, z7, z8, rfl, e, eb, hs1⟩ := h
        rw [hlen4, List.take_length] at hs1
        exact ⟨_, _, _, _, _, _, _, _, rfl, e, hs1⟩
    · obtain ⟨z1, z2, z3, z4, z5, z6, z7, z8, rfl, e, hs⟩ := h
      have htk : ([0, 1, 2, 3, 4, 5] : List Int).take 6 = [0, 1, 2, 3, 4, 5] := rfl
      rw [htk] at hs
      obtain ⟨nd, ysF, lF, alF⟩ := hs
      have hq : ("lanes_of" ++ ".<locals>." ++ "<lambda>" : Str) = lamQ := by decide +kernel
      have hfl := hin.fin.2
      have hT' : Tabs [(pt, lamQ)] H' := hT.ext (e1.trans e)
      generalize hfd : (List.foldl (faceStep s rg p q) ([], []) [0, 1, 2, 3, 4, 5]).snd = found at alF
      have hfd2 : (scanAll s rg p q).2 = found := hfd
      rw [hfd2] at hfl
      k_all
      refine w_sortLam ?_
      k_all
      have hz1 : ((ysF.zip found).map fun w => (w.1, rfOf w.2)).map (·.1) = ysF := by
        rw [List.map_map]
        exact List.map_fst_zip (by rw [alF.1]; exact Nat.le_refl _)
      have hmem : ∀ z ∈ ysF.zip found, LaneAt K H' z.1 z.2 := fun z hz => by
        obtain ⟨i, hi⟩ := List.mem_iff_getElem?.mp hz
        rw [List.getElem?_zip_eq_some] at hi
        exact alF.2 i _ _ hi.1 hi.2
      refine ⟨fo, (ysF.zip found).map fun w => (w.1, rfOf w.2), rfl, by rw [hz1]; exact sl_at lF, fun z hz => ?_, by rw [List.length_map, List.length_zip, alF.1]; omega, hT', fun H5 ps en hT5 nps => ?_⟩
      · obtain ⟨w', hw, rfl⟩ := List.mem_map.mp hz
        exact (hmem w' hw).rf E
      · generalize hG6 : upd _ _ _ = H6
        have e6 : Ex H5 H6 := ex_of hG6 nps
        have l6 := at_of hG6
        k_all
        refine w_tupL (sl_at l6) fun t nt => ?_
        generalize hG7 : upd _ _ _ = H7
        have e7 : Ex H6 H7 := ex_of hG7 nt
        have l7 := at_of hG7
        k_all
        refine w_mkLsB fun x dx H8 nx e8 l8 => ?_
        have e58 := (e6.trans e7).trans e8
        have en8 : ExtN H' H8 := en.trans (.of e58)
        refine k _ H8 ((ExtN.of (e1.trans e)).trans en8) (hT5.ext e58) ⟨x, dx, kp, t, _, rfl, l8, nx_t en8 (ex_t e hkp), ex_t e8 (st_at l7), ?_⟩
        have es : (((ysF.zip found).map fun w => (w.1, rfOf w.2)).mergeSort fun a b => leX a.2 b.2) = ((ysF.zip found).mergeSort fun a b => leX (rfOf a.2) (rfOf b.2)).map fun w => (w.1, rfOf w.2) :=
          (List.map_mergeSort (f := fun w : V × Lane => (w.1, rfOf w.2)) (fun _ _ _ _ => rfl)).symm
        have es2 : lanesM s rg p q = ((ysF.zip found).mergeSort fun a b => leX (rfOf a.2) (rfOf b.2)).map (·.2) := by
          unfold lanesM
          rw [hfd2, List.map_mergeSort (s := fun a b => leX (rfOf a) (rfOf b)) (fun _ _ _ _ => rfl), List.map_snd_zip (by rw [alF.1]; exact Nat.le_refl _)]
        rw [es, es2, List.map_map]
        refine ⟨by rw [List.length_map, List.length_map], fun i v x h1 h2 => ?_⟩
        rw [List.getElem?_map] at h1 h2
        cases hi : ((ysF.zip found).mergeSort fun a b => leX (rfOf a.2) (rfOf b.2))[i]? with
        | none => rw [hi] at h1; cases h1
        | some z =>
          rw [hi] at h1 h2
          cases h1
          cases h2
          exact (hmem z ((List.mergeSort_perm _ _).mem_iff.mp (List.mem_of_getElem? hi))).nx en8
end TP

/-! I -/
set_option Elab.async false
set_option linter.all false
set_option maxRecDepth 100000
set_option maxHeartbeats 4000000
namespace TP
open PySem PySem.Spec PyProof.Rows L2 LamX
/-! ### len(o), o with its own __len__ -/
def rLenO (C : Addr) (sp : Sp) (E : XK) : List V → Hp → VK → Prop := fun vs H Q => ∃ a dx fs, vs = [.ref a] ∧ H a = some (.ins C dx fs) ∧ sp [.ref a] H (fun v H' => ∃ n : Int, v = .int n ∧ 0 ≤ n ∧ n < 2 ^ 62 ∧ Q (.int n) H') E
theorem cr_lenO {X : Cx} {CX : CXT} {C f : Addr} {fd : FuncData} {ps : List Str} {sp : Sp} {E : XK} {n : Nat} (F : FnOk X.prog X.w X.K X.mg X.base CX n f fd ps sp) (hr : Room (n + 1) X.A)
    (hs : PySem.W.findIn X.K (.ref C) "__len__" = some (some (.ref f))) (hf : PySem.W.isFn X.K (.ref f) = true) (hb : Binds X.K fd ps []) (hx : Passes CX X E) : CallR X (.builtin "len") (rLenO C sp E) := by
  intro pins s σ H vs us Q I r h
  obtain ⟨a, dx, fs, rfl, ha, hsp⟩ := h
  obtain ⟨u, rfl, ru⟩ := vals1 r
  cases ru
  obtain ⟨mA, J, _⟩ := ins_get I.hok ha
  obtain ⟨od, J, _⟩ := J.look
  have hrr : Room n X.A.in1 := (hr.in1).mono (by omega)
  refine Calls.call_function_entry kind_len plain_len entry_len (args_len1 _) ?_
  unfold Builtin.«len»
  refine wpAny_bind (m := oneArg "len" _) (wpAny_pure ?_)
  refine wpAny_bind (m := callSpecial? (.ref a) (PySem.Str.ofString "__len__")) (PySem.W.special_fn (args := []) I.kIn J hs (beq_iff_eq.mp hf) ?_)
  have e0 : Env0 X.prog X.w X.K X.mg X.base X.A.in1 X.stack s H := by
    have e := I.env0
    exact ⟨e.frames, e.mod, e.bs, e.bsz, e.funs, e.frf, e.hok, e.bare⟩
  have hl := F.len _ _ _ _ hsp
  have r2 : Vals [V.ref a] [Value.ref a] := .cons rfl .nil
  refine wpAny_call (codeAny_mono (F.run X.A.in1 X.stack s H ⟨[.ref a], []⟩ [.ref a] [.ref a] _ E hrr e0 (by
    have := hb s [.ref a] I.kIn (by simpa using hl)
    simpa using this) r2 hsp) fun r s' hq => ?_)
  cases r with
  | error e => exact hx pins σ H s e s' I hq
  | ok fl =>
    cases fl with
    | ret u =>
      obtain ⟨z, H', I', rz, k, ez, h0, h1, q⟩ := I.after hq
      subst ez
      obtain ⟨t, rfl⟩ := rz
      refine wpAny_bind (wpAny_holding (wpAny_pure ?_))
      refine wpAny_bind (wpAny_letGo ?_)
      show wpAny _ _ (if k < 0 then _ else _) _ _ _
      rw [if_neg (by omega)]
      show wpAny _ _ (if k ≥ 2 ^ 63 then _ else _) _ _ _
      rw [if_neg (by omega)]
      exact wpAny_bind (wpAny_mkInt (wpAny_pure ⟨_, rfl, .int k, H', I'.tok _, ⟨_, rfl⟩, q⟩))
    | next => exact False.elim hq
    | brk => exact False.elim hq
    | cont => exact False.elim hq
/-! ### iter(t), t a tuple -/
def ItTO (l it : Addr) (i : Nat) : HO := .ext fun h => h.IsTupleIter it l i
theorem call_iterT0 {prog : Program} {w : World} {A : Around} {E : Value → Shared → Prop} {s : Shared} {l : Addr} {items : Array Value} {Q : Value → Shared → Prop} (hl : s.heap.IsTuple l items)
    (h : Q (.ref s.heap.objs.size) { s with heap := s.heap.push { cls := .type "tuple_iterator", data := .fields #[.ref l, .int 0 0] } }) : wpAny (model prog w) A (call (.builtin "iter") [.ref l]) Q E s := by
  refine Calls.call_function_entry (by decide +kernel) (by decide +kernel) PySem.W.kdk_entry_iter (PySem.W.kdk_args_iter _) ?_
  unfold Builtin.«iter»
  refine wpAny_bind (m := someArgs "iter" 1 2 _) (wpAny_of_eq (a := [Value.ref l]) (by first | rfl | kernel_rfl) ?_)
  show wpAny _ _ (pyIter (.ref l) >>= _) _ _ _
  refine wpAny_bind (wpAny_pyIter_tuple hl ?_)
  exact wpAny_pure ⟨_, rfl, h⟩
def rIterT (K : PySem.W.Frag) (n : Nat) : List V → Hp → VK → Prop := fun xs H Q => ∃ (l : Addr) (zs : List V), xs = [.ref l] ∧ SqT K H l zs ∧ ∀ it, H it = Option.none → n ≤ it → Q (.ref it) (upd H it (ItTO l it 0))
theorem cr_iterT {X : Cx} : CallR X (.builtin "iter") (rIterT X.K X.s_0.heap.objs.size) := by
  intro pins s σ H xs us Q I r h
  obtain ⟨l, zs, rfl, hq, q⟩ := h
  obtain ⟨u, rfl, ru⟩ := vals1 r
  cases ru
  obtain ⟨its, rv, pl, hz⟩ := I.tuple hq
  refine call_iterT0 pl ?_
  have new : ((s.heap.push { cls := .type "tuple_iterator", data := .fields #[.ref l, .int 0 0] }) : Heap).IsTupleIter s.heap.objs.size l 0 := ⟨_, Heap.get?_push_size _ rfl, rfl, rfl⟩
  exact ⟨.ref s.heap.objs.size, _, I.laid (t' := s.toks) (o := ItTO l s.heap.objs.size 0) (fun b u e => Heap.get?_push_of_some _ e) (Nat.le_refl _) ⟨new, ⟨_, Heap.get?_push_size _ rfl⟩, fun h1 h2 q k => q.at k⟩, rfl, q _ (I.hok.fresh (Nat.le_refl _)) I.sz⟩
/-! ### for lane in lanes -/
def iOwn (K : PySem.W.Frag) (C : Addr) (te : TE) : TI := fun σ H R => te σ H fun x H1 => ∃ a dx fs t, x = .ref a ∧ H1 a = some (.ins C dx fs) ∧ fs.lookup ("lanes" : Str) = some (.ref t) ∧ (∃ zs, SqT K H1 t zs) ∧ ∀ H2, Ex H1 H2 → R (Itt K t) H2
theorem w_iO {K : PySem.W.Frag} {C : Addr} {te : TE} {σ : L2.St} {H : Hp} {R : It → Hp → Prop} (h : te σ H fun x H1 => ∃ a dx fs t, x = .ref a ∧ H1 a = some (.ins C dx fs) ∧ fs.lookup ("lanes" : Str) = some (.ref t) ∧ (∃ zs, SqT K H1 t zs) ∧ ∀ H2, Ex H1 H2 → R (Itt K t) H2) : iOwn K C te σ H R := h
theorem pi_lanes {X : Cx} {e tg : Expr} {te : TE} (E : Env X.K X.mg) (hr : Room 3 X.A) (he : PE X e te) : PI X tg e (iOwn X.K (He.ga X.K "Lanes") te) := by
  refine ⟨fun pins s σ H R I h => ?_⟩
  refine thn (he.run pins s σ H _ I h) fun u s1 ⟨x, H1, I1, rx, a, dx, fs, t, ex, ha, lt, ⟨zs, hz⟩, q⟩ => ?_
  subst ex
  cases rx
  obtain ⟨mA, J, _⟩ := ins_get I1.hok ha
  obtain ⟨od, J, _⟩ := J.look
  obtain ⟨m, hF⟩ := I1.fr
  obtain ⟨fd, Fd⟩ := E.d_Lanes_iter
  have hb := Fd.bindsN (ps := ["self"]) fun _ _ _ _ _ _ us hl => match us, hl with | [_], _ => rfl
  obtain ⟨oc, od', dV, kV, doc, pm, an, cdv, ct, osl, rfl, lk, hcd, _, _⟩ := Fd.ex
  refine PySem.W.owit_iter hF I1.ok.mod.kin J E.i_Lanes.at_ E.i_Lanes.fn ?_
  have rc : codeAny (model X.prog X.w) X.A (.call (.ref (He.ma X.K (He.ga X.K "Lanes") "__iter__")) ⟨[.ref a], []⟩) (CR CX0 X.stack X.prog X.w H1 s1 (fun v H' => ∃ it, v = .ref it ∧ H' it = some (ItTO t it 0) ∧ s1.heap.objs.size ≤ it ∧ Ex H1 H') E0) s1 := by
    refine run_ofS (N := ["self"]) (ps := ["self"]) (us := [.ref a]) (vs := [.ref a]) (k := 1) lk hcd sc_Lanes_iter (hr.mono (by omega)) I1.env0 (by
      have := hb s1 [.ref a] I1.kIn rfl
      simpa using this) (.cons rfl .nil) rfl fun hr' => ?_
    refine ⟨_, PSs.nox (pss_one (ps_ret (pe_callB cr_iterT (by rfl) E.b_iter (by decide +kernel) (pa_cons (pe_fld (pv 0) (by rfl)) pa_nil)))), ?_⟩
    refine ⟨.ref a, rfl, a, _, dx, fs, _, rfl, ha, E.c_Lanes, E.n_Lanes_lanes, lt, t, zs, rfl, hz, fun it nit hle => ⟨it, rfl, upd_same, hle, Evl.Ex.new nit⟩⟩
  refine wpAny_call (codeAny_mono rc fun r s' hq => ?_)
  cases r with
  | error e => exact pass0 pins σ H1 s1 e s' I1 hq
  | ok fl =>
    cases fl with
    | ret u =>
      obtain ⟨z, H', I', rz, it, ez, hit, hle, hex⟩ := I1.after hq
      subst ez
      cases rz
      have hti : s'.heap.IsTupleIter it t 0 := (I'.hok it _ hit).1
      unfold PySem.W.OwitIt
      refine wpAny_specialOf hti.typeIs F.slot_tuple_iterator_next.lookup ?_
      have hyoung : X.s_0.heap.objs.size ≤ it := Nat.le_trans I1.sz hle
      refine ⟨it, [it], _, Itt X.K t, ItX.dropH H' it, rfl, ItX.inv_drop I' hit, turn_tuple t it, hti, fun b hb => ?_, q _ fun b o hb => ?_⟩
      · rw [List.mem_singleton.mp hb]
        exact ItX.inv_fp I' hit hyoung
      · have hne : b ≠ it := fun z => by
          have h1 := (I1.hok b _ hb).lt
          rw [z] at h1
          exact absurd (Nat.lt_of_lt_of_le h1 hle) (Nat.lt_irrefl _)
        rw [ItX.dropH_ne hne]
        exact hex _ _ hb
    | next => exact False.elim hq
    | brk => exact False.elim hq
    | cont => exact False.elim hq
end TP

/-! W17 -/
set_option Elab.async false
set_option linter.all false
set_option maxRecDepth 100000
set_option maxHeartbeats 4000000
-- k_mem: a fact of the heap as it is now, from an older one; k_upd: one step of a reading; k_all: as many as go

namespace TP
open PySem PySem.Spec PyProof.Rows L2 LamX
open PySem.W (minOf maxOf Tup DatumOrd Datum)
variable {P : Program} {w : World} {K : PySem.W.Frag} {mg : Str → Option Value} {base : Heap}
/-! ### len(lanes) -/
def spLsLen (K : PySem.W.Frag) : Sp := fun vs H Q _ => ∃ x dx b sl la ys, vs = [.ref x] ∧ H x = some (.ins (He.ga K "Lanes") dx (lsF b sl (.ref la))) ∧ SqT K H la ys ∧ Q (.int ys.length) H
theorem O_Lanes_len (E : Env K mg) : OpC P w K mg base "__len__" (He.ga K "Lanes") 1 ["self"] (spLsLen K) := by
  refine .of E.d_Lanes_len E.l_Lanes sc_Lanes_len (fun vs H Q E h => ?_) (fun _ _ _ _ _ _ us hl => match us, hl with | [_], _ => rfl) (fun cdv A outer s0 H vs Q E' hr h => ?_)
  · obtain ⟨x, dx, b, sl, la, ys, rfl, _⟩ := h
    rfl
  · obtain ⟨x, dx, b, sl, la, ys, rfl, hx, hl, q⟩ := h
    refine ⟨_, (pss_one (ps_ret (pe_callB call_len_seq (by rfl) E.b_len PySem.boot_len (pa_cons (pe_fld (pv 0) (by rfl)) pa_nil)))), ?_⟩
    k_all
    refine w_fl hx E.c_Lanes E.n_Lanes_lanes lsF_lanes ?_
    k_all
    refine w_lenT hl ?_
    exact q
theorem cr_lenC {X : Cx} {C : Addr} {k : Nat} {ps : List Str} {sp : Sp} (O : OpC X.prog X.w X.K X.mg X.base "__len__" C k ps sp) (hr : Room (k + 1) X.A) : CallR X (.builtin "len") (rLenO C sp E0) := by
  obtain ⟨f, fd, F, m, b⟩ := O.ex
  exact cr_lenO F hr m.at_ m.fn b pass0
/-! ### Box -/
def spMkBox (K : PySem.W.Frag) : Sp := fun vs H Q _ => ∃ Hr x dx l s, vs = [.ref x, .ref l] ∧ Ex Hr H ∧ Hr x = none ∧ H x = some (.ins (He.ga K "Box") dx []) ∧ SqL K Hr l (vi (T3.l s)) ∧ BoxLe s ∧
  ∀ H' a, Ex Hr H' → H' x = some (.ins (He.ga K "Box") dx (boxF a)) → SqT K H' a (vi (T3.l s)) → Q .non H'
theorem isi_listT {H : Hp} {a t : Addr} {xs : List V} {Q : VK} (h : SqL K H a xs) (ht : H t = some (.tup [.ty "list", .ty "tuple"])) (q : Q (.bl true) H) : rIsiT K [.ref a, .ref t] H Q := by
  have ty : TyX K H (.ref a) (.type "list") := by
    rcases h with (h | ⟨o, h⟩) | ⟨o, its, n, h, hc, _⟩
    · exact .base (.lst h)
    · exact .base (.frz h)
    · exact .kList h hc
  exact ⟨_, t, _, _, _, true, rfl, ht, .cons (.ty _) (.cons (.ty _) .nil), ty, kitAny_cons (b := true) (kit_ty (by decide +kernel)) (fun e => by cases e) (fun _ => rfl), q⟩
theorem M_Box (E : Env K mg) : MkC P w K mg base "Box" (He.ga K "Box") 2 ["self", "sides"] (spMkBox K) := by
  have C_is_whole := C_whole3 (P := P) (w := w) (base := base) E
  refine .of E.d_Box_init E.m_Box E.g_Box sc_Box_init (fun vs H Q E h => ?_) (fun _ _ _ _ _ _ us hl => match us, hl with | [_, _], _ => rfl) (fun cdv A outer s0 H vs Q E' hr h => ?_)
  · obtain ⟨Hr, x, dx, l, s, rfl, _⟩ := h
    rfl
  · obtain ⟨Hr, x, dx, l, s, rfl, er, nx, hx, hl, hs, q⟩ := h
    refine ⟨_, (pss_cons (ps_if (PW.pt (pw_or (pt_not (pt_val (pe_callB call_isiT (by rfl) E.b_isinstance (by decide +kernel) (pa_cons (pv 1) (pa_cons (pe_tup (pa_cons (pe_bltn (v := .ty "list") (by rfl) E.b_list (by decide +kernel) rfl) (pa_cons (pe_bltn (v := .ty "tuple") (by rfl) E.b_tuple (by decide +kernel) rfl) pa_nil))) pa_nil))))) (pw_or1 (pt_cmpR op_ne (pe_callB call_len_seq (by rfl) E.b_len PySem.boot_len (pa_cons (pv 1) pa_nil)) pe_int (nomark _))))) (pss_one ps_never) pss_nil)
      (pss_cons (ps_for PassesOwn.never rfl (pi_enum (by rfl) E.b_enumerate (pa_cons (pv 1) pa_nil)) (pg_tup (n := 2) rfl (pgs_cons (pg_name (i := 2) sc_Box_init.nd rfl (by first | exact Or.inl rfl | exact Or.inr rfl)) (pgs_cons (pg_name (i := 3) sc_Box_init.nd rfl (by first | exact Or.inl rfl | exact Or.inr rfl)) pgs_nil))) (pss_one (ps_if (pt_not (pt_val (pe_c C_is_whole (hr.mono (by decide)) rfl (pa_cons (pv 3) (pa_cons pe_int (pa_cons (pe_cst rfl E.v_MOST_SIDE) pa_nil)))))) (pss_one ps_never) pss_nil)))
      (pss_one (ps_fld (pv 0) (pe_tup (pa_cons (pe_ix ix_list (pv 1) pe_int (fun _ _ => rfl)) (pa_cons (pe_ix ix_list (pv 1) pe_int (fun _ _ => rfl)) (pa_cons (pe_ix ix_list (pv 1) pe_int (fun _ _ => rfl)) pa_nil)))) rfl)))), ?_⟩
    k_all
    rename_i t nt H1 e1 l1
    have e1' := er.trans e1
    refine isi_listT (ex_l e1' hl) l1 ?_
    k_all
    refine w_lenL (ex_l e1' hl) ?_
    k_all
    refine if_nint (fun h => (h rfl).elim) (fun _ => ?_)
    k_all
    refine ⟨l, _, rfl, ex_l e1' hl, for_enumL (xs := vi (T3.l s)) (fun i σ H' => ∃ z1 z2, σ = [some (.ref x), some (.ref l), z1, z2] ∧ Ex H1 H') ⟨_, _, rfl, Evl.Ex.refl _⟩ (fun i σ H' _ h => ?_) (fun i y T σ H' H3 hi h nT e3 hT => ?_) (fun σ H' h => ?_)⟩
    · obtain ⟨_, _, _, e⟩ := h
      exact ex_l (e1'.trans e) hl
    · obtain ⟨z1, z2, rfl, e⟩ := h
      obtain ⟨n, rfl, j, rfl⟩ := T3.at_l s hi
      obtain ⟨b1, b2⟩ := hs j
      k_all
      refine ⟨_, _, _, rfl, ?_⟩
      rw [decide_eq_true b1, decide_eq_true b2]
      refine w_bl (b := true) ?_
      k_all
      exact ⟨_, _, rfl, e.trans e3⟩
    · obtain ⟨z1, z2, rfl, e⟩ := h
      have hl' := ex_l (e1'.trans e) hl
      dsimp only
      refine w_fS ?_
      k_all
      rename_i a na H4 e4 l4
      have hx4 := (e1.trans (e.trans e4)) _ _ hx
      refine w_fS2 0 hx4 E.c_Box E.n_Box_sides (Nat.le_refl _) (by omega) ?_
      generalize hG : upd _ _ _ = H5
      have e5 : Ex Hr H5 := ex_mut hG (e1'.trans (e.trans e4)) nx
      have l5 := at_of hG
      refine q H5 a e5 l5 (st_at ?_)
      rw [← hG, upd_ne (ne_of l4 hx4 (by intro z; cases z))]
      exact l4
def spBoxEq (K : PySem.W.Frag) : Sp := fun vs H Q _ => ∃ v u s t, vs = [v, u] ∧ BoxAt K H v s ∧ BoxAt K H u t ∧ Q (.bl (decide (s = t))) H
theorem O_Box_eq (E : Env K mg) : OpC P w K mg base "__eq__" (He.ga K "Box") 1 ["self", "other"] (spBoxEq K) := by
  refine .of E.d_Box_eq E.e_Box sc_Box_eq (fun vs H Q E h => ?_) (fun _ _ _ _ _ _ us hl => match us, hl with | [_, _], _ => rfl) (fun cdv A outer s0 H vs Q E' hr h => ?_)
  · obtain ⟨v, u, s, t, rfl, _⟩ := h
    rfl
  · obtain ⟨v, u, s, t, rfl, ⟨p, dx, a, rfl, hp, ha⟩, ⟨p2, dx2, a2, rfl, hp2, ha2⟩, q⟩ := h
    refine ⟨_, (pss_one (ps_ret (pe_and (pe_callB call_isi (by rfl) E.b_isinstance (by decide +kernel) (pa_cons (pv 1) (pa_cons (pe_glob (v := .ref (He.ga K "Box")) rfl E.g_Box rfl) pa_nil))) (pe_one (pe_cmpR (op_eqX (α := Tup Int) hr.units) (pe_fld (pv 0) (by rfl)) (pe_fld (pv 1) (by rfl)) (nomark _)))))), ?_⟩
    k_all
    obtain ⟨ty, k1, _⟩ := isoB_ty E.iso_Box E.c_Box hp2
    refine ⟨_, _, _, _, true, rfl, .own _, ty, k1, ?_⟩
    refine w_bl (b := true) (iteT ?_)
    k_all
    refine w_box E hp ?_
    k_all
    refine w_box E hp2 ?_
    refine w_eqX (Tup.mk (T3.l s)) (Tup.mk (T3.l t)) (d_ints ha) (d_ints ha2) ?_
    have e : decide (Tup.mk (T3.l s) = Tup.mk (T3.l t)) = decide (s = t) := decide_eq_decide.mpr T3.l_inj
    rw [e]
    exact q
/-! ### is_triple, check_how, keeps_sense, led_box, led_slope -/
def spWhole1 : Sp := fun vs H Q _ => ∃ n : Int, vs = [.int n, .non, .non] ∧ Q (.bl true) H
theorem C_whole1 (E : Env K mg) : FnC P w K mg base "is_whole" 1 ["thing", "low", "high"] [.non, .non] spWhole1 := by
  obtain ⟨fd, F⟩ := E.d_is_whole
  have ok : FnOk P w K mg base CX0 1 (He.ga K "is_whole") fd ["thing", "low", "high"] spWhole1 := by
    refine F.ok sc_is_whole (fun vs H Q E h => ?_) (fun cdv A outer s0 H vs Q E' hr h => ?_)
    · obtain ⟨n, rfl, _⟩ := h
      rfl
    · obtain ⟨n, rfl, q⟩ := h
      refine ⟨_, PSs.nox (pss_cons (ps_if (PW.pt (pw_or (pt_val (pe_callB call_isi (by rfl) E.b_isinstance (by decide +kernel) (pa_cons (pv 0) (pa_cons (pe_bltn (v := .ty "bool") (by rfl) E.b_bool (by decide +kernel) rfl) pa_nil)))) (pw_or1 (pt_not (pt_val (pe_callB call_isi (by rfl) E.b_isinstance (by decide +kernel) (pa_cons (pv 0) (pa_cons (pe_bltn (v := .ty "int") (by rfl) E.b_int (by decide +kernel) rfl) pa_nil)))))))) (pss_one (ps_ret pe_bl)) pss_nil)
      (pss_one (ps_ret (pe_and (pe_or (pe_cmpR op_isN (pv 1) pe_non (nomark _)) (pe_one (pe_cmpR op_ge (pv 0) (pv 1) (nomark _)))) (pe_one (pe_or (pe_cmpR op_isN (pv 2) pe_non (nomark _)) (pe_one (pe_cmpR op_le (pv 0) (pv 2) (nomark _))))))))), ?_⟩
      k_all
      refine isi_int_bool ?_
      k_all
      refine isi_int_int ?_
      k_all
      exact q
  obtain ⟨ds, r, b⟩ := F.binds1 (ps := ["thing", "low", "high"]) 1 0 (by decide) rfl fun T kV doc pm an cdv ct us its h1 h2 => by
    obtain ⟨a, rfl⟩ : ∃ a, us = [a] := by
      match us, h1 with
      | [a], _ => exact ⟨a, rfl⟩
    obtain ⟨d, e, rfl⟩ : ∃ d e, its = [d, e] := by
      match its, h2 with
      | [d, e], _ => exact ⟨d, e, rfl⟩
    exact ⟨_, rfl, rfl⟩
  exact ⟨_, fd, ds, ok, E.g_is_whole, F.kp, b, r⟩
def spTriple (K : PySem.W.Frag) : Sp := fun vs H Q _ => ∃ a d, vs = [.ref a] ∧ SqT K H a (vi (T3.l d)) ∧ ∀ H', Ex H H' → Q (.bl true) H'
theorem C_is_triple (E : Env K mg) : FnC P w K mg base "is_triple" 2 ["thing"] [] (spTriple K) := by
  have C_is_whole := C_whole1 (P := P) (w := w) (base := base) E
  refine .of E.d_is_triple E.g_is_triple sc_is_triple (fun vs H Q E h => ?_) (fun _ _ _ _ _ _ us hl => match us, hl with | [_], _ => rfl) (fun cdv A outer s0 H vs Q E' hr h => ?_)
  · obtain ⟨a, d, rfl, _⟩ := h
    rfl
  · obtain ⟨a, d, rfl, ha, q⟩ := h
    refine ⟨_, (pss_cons (ps_if (PW.pt (pw_or (pt_not (pt_val (pe_callB call_isiT (by rfl) E.b_isinstance (by decide +kernel) (pa_cons (pv 0) (pa_cons (pe_tup (pa_cons (pe_bltn (v := .ty "list") (by rfl) E.b_list (by decide +kernel) rfl) (pa_cons (pe_bltn (v := .ty "tuple") (by rfl) E.b_tuple (by decide +kernel) rfl) pa_nil))) pa_nil))))) (pw_or1 (pt_cmpR op_ne (pe_callB call_len_seq (by rfl) E.b_len PySem.boot_len (pa_cons (pv 0) pa_nil)) pe_int (nomark _))))) (pss_one (ps_ret pe_bl)) pss_nil)
      (pss_one (ps_ret (pe_callB (cr_all rfl) (by rfl) E.b_all (by decide +kernel) (pa_cons (pe_lc (own := [("item", 1)]) rfl sc_is_triple.nd (pi_tup (pv 0)) (blkOk_by (own := [("item", 1)]) (N := ["thing", "item"]) (sc := defScope s_is_triple) (by decide +kernel)) (fun _ _ _ _ _ => by exact (pg_cast (pg_name (i := 1) sc_is_triple.nd rfl (by first | exact Or.inl rfl | exact Or.inr rfl)) (by (try simp only [blk_K]); rfl))) (fun _ _ _ _ _ => by exact (pts_cast pts_nil (by (try simp only [blk_K]); rfl))) (fun _ _ _ _ _ => by exact (pe_cast (pe_c C_is_whole (hr.mono (by decide)) rfl (pa_cons (pv 1) pa_nil)) (by (try simp only [blk_K]); rfl)))) pa_nil))))), ?_⟩
    k_all
    rename_i t nt H1 e1 l1
    refine isi_tupT (ex_t e1 ha) l1 ?_
    k_all
    refine w_lenT (ex_t e1 ha) ?_
    k_all
    refine if_nint (fun h => (h rfl).elim) (fun _ => ?_)
    k_all
    refine w_lc ?_
    k_all
    refine w_itT (ex_t e1 ha) ?_
    refine lcT (K := K) (xs := vi (T3.l d)) (G := fun i y _ => y = .bl true) (fun i y H1 H2 e h => h) (fun i y H1 D acc acc' hD h => h) (by show 3 ≤ 100000; decide) (ex_t e1 ha) (fun i x H2 hi e2 => ?_) mg_name (fun r1 H2 zs nr1 e2 l2 told => ?_)
    · refine ⟨rfl, rfl, fun QV qv => ?_⟩
      obtain ⟨n, rfl, hn⟩ := vi_at hi
      k_all
      refine ⟨n, rfl, ?_⟩
      exact qv _ H2 (Evl.Ex.refl _) rfl
    · k_all
      have hz : zs = [true, true, true].map V.bl := by
        have h3 : zs.length = 3 := told.1
        match zs, h3, told.2 with
        | [a, b, c], _, t => rw [t 0 a rfl, t 1 b rfl, t 2 c rfl]; rfl
      refine ⟨r1, [true, true, true], rfl, by rw [← hz]; exact sl_at l2, ?_⟩
      exact q _ (e1.trans e2)
def allOrders : List T3 := [(0, 1, 2), (0, 2, 1), (1, 0, 2), (1, 2, 0), (2, 0, 1), (2, 1, 0)]
def allSigns : List T3 := [(-1, -1, -1), (-1, -1, 1), (-1, 1, -1), (-1, 1, 1), (1, -1, -1), (1, -1, 1), (1, 1, -1), (1, 1, 1)]
def turned : List T3 := [(0, 2, 1), (1, 0, 2), (2, 1, 0)]
theorem tab_all {x : Str} {rows : List (List Int)} {H : Hp} {n : Nat} (hn : rows.length = n) (h : SqT K H (He.ga K x) ((List.range n).map fun i => V.ref (subA x i K)) ∧ ∀ i, i < n → SqT K H (subA x i K) (vi (rows.getD i []))) :
    DAll K H ((List.range n).map fun i => V.ref (subA x i K)) (rows.map Tup.mk) := by
  refine DAll.of (by rw [List.length_map, List.length_map, List.length_range, hn]) fun i v y h1 h2 => ?_
  rw [List.getElem?_map] at h1 h2
  by_cases hi : i < n
  · rw [List.getElem?_range hi] at h1
    rw [← Option.some.inj h1]
    have hr : rows[i]? = some (rows.getD i []) := by
      rw [List.getD_eq_getElem?_getD, List.getElem?_eq_getElem (by omega)]
      rfl
    rw [hr] at h2
    rw [← Option.some.inj h2]
    exact d_ints (h.2 i hi)
  · rw [List.getElem?_eq_none (by rw [List.length_range]; omega)] at h1
    cases h1
/-- a how: which axis is which, which way each goes -/
structure How where
  ord : T3
  sg : T3
def HowOk (h : How) : Prop := h.ord ∈ allOrders ∧ h.sg ∈ allSigns
def HowAt (K : PySem.W.Frag) (H : Hp) (v : V) (h : How) : Prop := ∃ a o g, v = .ref a ∧ SqT K H a [.ref o, .ref g] ∧ SqT K H o (vi (T3.l h.ord)) ∧ SqT K H g (vi (T3.l h.sg))
theorem HowAt.mono {H H' : Hp} {v : V} {h : How} (x : HowAt K H v h) (e : Ex H H') : HowAt K H' v h := by
  obtain ⟨a, o, g, ev, h1, h2, h3⟩ := x
  exact ⟨a, o, g, ev, ex_t e h1, ex_t e h2, ex_t e h3⟩
theorem mem_rows {d : T3} {ds : List T3} (h : d ∈ ds) : Tup.mk (T3.l d) ∈ (ds.map T3.l).map Tup.mk := by
  rw [List.map_map]
  exact List.mem_map.mpr ⟨d, h, rfl⟩
theorem mem_rows_iff {d : T3} {ds : List T3} : Tup.mk (T3.l d) ∈ (ds.map T3.l).map Tup.mk ↔ d ∈ ds := by
  constructor
  · intro h
    rw [List.map_map] at h
    obtain ⟨e, he, h2⟩ := List.mem_map.mp h
    rw [← T3.l_inj.mp h2]
    exact he
  · exact mem_rows
def spHow (K : PySem.W.Frag) : Sp := fun vs H Q _ => ∃ v h, vs = [v] ∧ HowAt K H v h ∧ HowOk h ∧ ∀ p H', Ex H H' → HowAt K H' (.ref p) h → Q (.ref p) H'
theorem C_check_how (E : Env K mg) : FnC P w K mg base "check_how" 3 ["how"] [] (spHow K) := by
  have C_is_triple := C_is_triple (P := P) (w := w) (base := base) E
  refine .of E.d_check_how E.g_check_how sc_check_how (fun vs H Q E h => ?_) (fun _ _ _ _ _ _ us hl => match us, hl with | [_], _ => rfl) (fun cdv A outer s0 H vs Q E' hr h => ?_)
  · obtain ⟨v, h, rfl, _⟩ := h
    rfl
  · obtain ⟨v, h, rfl, ⟨a, o, g, rfl, ha, ho, hg⟩, ⟨ok1, ok2⟩, q⟩ := h
    refine ⟨_, (pss_cons (ps_if (PW.pt (pw_or (pt_not (pt_val (pe_callB call_isiT (by rfl) E.b_isinstance (by decide +kernel) (pa_cons (pv 0) (pa_cons (pe_tup (pa_cons (pe_bltn (v := .ty "list") (by rfl) E.b_list (by decide +kernel) rfl) (pa_cons (pe_bltn (v := .ty "tuple") (by rfl) E.b_tuple (by decide +kernel) rfl) pa_nil))) pa_nil))))) (pw_or1 (pt_cmpR op_ne (pe_callB call_len_seq (by rfl) E.b_len PySem.boot_len (pa_cons (pv 0) pa_nil)) pe_int (nomark _))))) (pss_one ps_never) pss_nil)
      (pss_cons (ps_if (PW.pt (pw_or (pt_not (pt_val (pe_c C_is_triple (hr.mono (by decide)) rfl (pa_cons (pe_ix ix_tup (pv 0) pe_int (fun _ _ => rfl)) pa_nil)))) (pw_or1 (pt_not (pt_val (pe_c C_is_triple (hr.mono (by decide)) rfl (pa_cons (pe_ix ix_tup (pv 0) pe_int (fun _ _ => rfl)) pa_nil))))))) (pss_one ps_never) pss_nil)
      (pss_cons (ps_par (i := 1) (j := 2) rfl sc_check_how.nd rfl rfl (by decide) rfl rfl (pa_cons (pe_callTy call_tuple_of (by rfl) E.b_tuple (by decide +kernel) (pa_cons (pe_ix ix_tup (pv 0) pe_int (fun _ _ => rfl)) pa_nil)) (pa_cons (pe_callTy call_tuple_of (by rfl) E.b_tuple (by decide +kernel) (pa_cons (pe_ix ix_tup (pv 0) pe_int (fun _ _ => rfl)) pa_nil)) pa_nil)) (by rfl))
      (pss_cons (ps_if (PW.pt (pw_or (pt_cmpR (op_notInX (α := Tup Int) hr.units) (pv 1) (pe_glob (v := .ref (He.ga K "ORDERS")) rfl E.g_ORDERS rfl) (by rfl)) (pw_or1 (pt_cmpR (op_notInX (α := Tup Int) hr.units) (pv 2) (pe_glob (v := .ref (He.ga K "SIGNS")) rfl E.g_SIGNS rfl) (by rfl))))) (pss_one ps_never) pss_nil)
      (pss_one (ps_ret (pe_tup (pa_cons (pv 1) (pa_cons (pv 2) pa_nil))))))))), ?_⟩
    k_all
    rename_i t nt H1 e1 l1
    refine isi_tupT (ex_t e1 ha) l1 ?_
    k_all
    refine w_lenT (ex_t e1 ha) ?_
    k_all
    refine if_nint (fun h => (h rfl).elim) (fun _ => ?_)
    have ha1 := ex_t e1 ha
    k_all
    refine ⟨o, h.ord, rfl, ex_t e1 ho, fun H2 e2 => ?_⟩
    have e02 := e1.trans e2
    have ha2 := ex_t e02 ha
    refine w_bl (b := true) ?_
    k_all
    refine ⟨g, _, rfl, ex_t e02 hg, fun H3 e3 => ?_⟩
    have e03 := e02.trans e3
    have ha3 := ex_t e03 ha
    refine w_bl (b := true) ?_
    k_all
    refine w_tupT (ex_t e03 ho) ?_
    k_all
    refine w_tupT (ex_t e03 hg) ?_
    k_all
    have tO := tab_all (rows := r_ORDERS) rfl (E.t_ORDERS H3)
    have tS := tab_all (rows := r_SIGNS) rfl (E.t_SIGNS H3)
    refine ⟨Tup.mk (T3.l h.ord), _, _, _, rfl, d_ints (ex_t e03 ho), .inr (E.t_ORDERS H3).1, tO, ?_⟩
    have m1 : Tup.mk (T3.l h.ord) ∈ r_ORDERS.map Tup.mk := mem_rows (ds := allOrders) ok1
    have m2 : Tup.mk (T3.l h.sg) ∈ r_SIGNS.map Tup.mk := mem_rows (ds := allSigns) ok2
    rw [decide_eq_false (fun h => h m1)]
    refine w_bl (b := false) ?_
    k_all
    refine ⟨Tup.mk (T3.l h.sg), _, _, _, rfl, d_ints (ex_t e03 hg), .inr (E.t_SIGNS H3).1, tS, ?_⟩
    rw [decide_eq_false (fun h => h m2)]
    refine w_bl (b := false) ?_
    k_all
    rename_i p np H4 e4 l4
    have e04 := e03.trans e4
    exact q p H4 e04 ⟨p, o, g, rfl, st_at l4, ex_t e04 ho, ex_t e04 hg⟩
/-- does the how keep the sense -/
def keepsM (h : How) : Bool := decide (h.sg.1 * h.sg.2.1 * h.sg.2.2 = if h.ord ∈ turned then -1 else 1)
def spKeeps (K : PySem.W.Frag) : Sp := fun vs H Q _ => ∃ v h, vs = [v] ∧ HowAt K H v h ∧ HowOk h ∧ ∀ H', Ex H H' → Q (.bl (keepsM h)) H'
theorem sg_one {s : T3} (h : s ∈ allSigns) : (s.1 = 1 ∨ s.1 = -1) ∧ (s.2.1 = 1 ∨ s.2.1 = -1) ∧ (s.2.2 = 1 ∨ s.2.2 = -1) := by
  unfold allSigns at h
  simp only [List.mem_cons, List.not_mem_nil, or_false] at h
  rcases h with rfl | rfl | rfl | rfl | rfl | rfl | rfl | rfl <;> decide
theorem C_keeps_sense (E : Env K mg) : FnC P w K mg base "keeps_sense" 4 ["how"] [] (spKeeps K) := by
  have C_check_how := C_check_how (P := P) (w := w) (base := base) E
  refine .of E.d_keeps_sense E.g_keeps_sense sc_keeps_sense (fun vs H Q E h => ?_) (fun _ _ _ _ _ _ us hl => match us, hl with | [_], _ => rfl) (fun cdv A outer s0 H vs Q E' hr h => ?_)
  · obtain ⟨v, h, rfl, _⟩ := h
    rfl
  · obtain ⟨v, h, rfl, hh, ok, q⟩ := h
    refine ⟨_, (pss_cons (ps_asg (pe_c C_check_how (hr.mono (by decide)) rfl (pa_cons (pv 0) pa_nil)) (pg_tup (n := 2) rfl (pgs_cons (pg_name (i := 1) sc_keeps_sense.nd rfl (by first | exact Or.inl rfl | exact Or.inr rfl)) (pgs_cons (pg_name (i := 2) sc_keeps_sense.nd rfl (by first | exact Or.inl rfl | exact Or.inr rfl)) pgs_nil))))
      (pss_cons (ps_set (i := 3) sc_keeps_sense.nd rfl (by first | exact Or.inl rfl | exact Or.inr rfl) (pe_op op_mul (pe_op op_mul (pe_ix ix_tup (pv 2) pe_int (fun _ _ => rfl)) (pe_ix ix_tup (pv 2) pe_int (fun _ _ => rfl))) (pe_ix ix_tup (pv 2) pe_int (fun _ _ => rfl))))
      (pss_one (ps_ret (pe_cmpR op_eq (pv 3) (pe_ifExp (pt_cmpR (op_inX (α := Tup Int) hr.units) (pv 1) (pe_glob (v := .ref (He.ga K "TURNED_ORDERS")) rfl E.g_TURNED_ORDERS rfl) (by rfl)) (pe_un un_neg pe_int) pe_int) (nomark _)))))), ?_⟩
    obtain ⟨s1, s2, s3⟩ := sg_one ok.2
    k_all
    refine ⟨v, h, rfl, hh, ok, fun p H1 e1 ⟨p', o, g, ep, hp, ho, hg⟩ => ?_⟩
    cases ep
    k_all
    have tT := tab_all (rows := r_TURNED_ORDERS) rfl (E.t_TURNED_ORDERS H1)
    refine ⟨Tup.mk (T3.l h.ord), _, _, _, rfl, d_ints ho, .inr (E.t_TURNED_ORDERS H1).1, tT, ?_⟩
    have em : decide (Tup.mk (T3.l h.ord) ∈ r_TURNED_ORDERS.map Tup.mk) = decide (h.ord ∈ turned) := decide_eq_decide.mpr (mem_rows_iff (ds := turned))
    rw [em]
    refine ⟨_, rfl, ?_⟩
    have q' := q H1 e1
    unfold keepsM at q'
    refine if_dec (fun hm => ?_) (fun hm => ?_)
    · rw [if_pos hm] at q'
      k_all
      rw [dec_int]
      exact q'
    · rw [if_neg hm] at q'
      k_all
      rw [dec_int]
      exact q'
end TP

/-! W18 -/
set_option Elab.async false
set_option linter.all false
set_option maxRecDepth 100000
set_option maxHeartbeats 4000000
-- k_mem: a fact of the heap as it is now, from an older one; k_upd: one step of a reading; k_all: as many as go

namespace TP
open PySem PySem.Spec PyProof.Rows L2 LamX
open PySem.W (minOf maxOf Tup DatumOrd Datum)
variable {P : Program} {w : World} {K : PySem.W.Frag} {mg : Str → Option Value} {base : Heap}
/-! ### led_box, led_slope -/
theorem ord_ax {o : T3} (h : o ∈ allOrders) : (0 ≤ o.1 ∧ o.1 ≤ 2) ∧ (0 ≤ o.2.1 ∧ o.2.1 ≤ 2) ∧ (0 ≤ o.2.2 ∧ o.2.2 ≤ 2) := by
  unfold allOrders at h
  simp only [List.mem_cons, List.not_mem_nil, or_false] at h
  rcases h with rfl | rfl | rfl | rfl | rfl | rfl <;> decide
def ledBox (s : T3) (h : How) : T3 := (s.get h.ord.1, s.get h.ord.2.1, s.get h.ord.2.2)
theorem ledBox_le {s : T3} {h : How} (b : BoxLe s) : BoxLe (ledBox s h) := fun i => by
  unfold ledBox T3.get
  split
  · exact b _
  · split
    · exact b _
    · exact b _
def spLedBox (K : PySem.W.Frag) : Sp := fun vs H Q _ => ∃ v u s h, vs = [v, u] ∧ BoxAt K H v s ∧ BoxLe s ∧ HowAt K H u h ∧ HowOk h ∧ ∀ x H', Ex H H' → BoxAt K H' x (ledBox s h) → Q x H'
theorem C_led_box (E : Env K mg) : FnC P w K mg base "led_box" 4 ["box", "how"] [] (spLedBox K) := by
  have C_check_how := C_check_how (P := P) (w := w) (base := base) E
  have M_Box := M_Box (P := P) (w := w) (base := base) E
  refine .of E.d_led_box E.g_led_box sc_led_box (fun vs H Q E h => ?_) (fun _ _ _ _ _ _ us hl => match us, hl with | [_, _], _ => rfl) (fun cdv A outer s0 H vs Q E' hr h => ?_)
  · obtain ⟨v, u, s, h, rfl, _⟩ := h
    rfl
  · obtain ⟨v, u, s, h, rfl, hb, hs, hh, ok, q⟩ := h
    refine ⟨_, (pss_cons (ps_asg (pe_c C_check_how (hr.mono (by decide)) rfl (pa_cons (pv 1) pa_nil)) (pg_tup (n := 2) rfl (pgs_cons (pg_name (i := 2) sc_led_box.nd rfl (by first | exact Or.inl rfl | exact Or.inr rfl)) (pgs_cons (pg_name (i := 3) sc_led_box.nd rfl (by first | exact Or.inl rfl | exact Or.inr rfl)) pgs_nil))))
      (pss_one (ps_ret (pe_mk M_Box (hr.mono (by decide)) rfl (pa_cons (pe_lc (own := [("axis", 4)]) rfl sc_led_box.nd (pi_tup (pv 2)) (blkOk_by (own := [("axis", 4)]) (N := ["box", "how", "order", "_", "axis"]) (sc := defScope s_led_box) (by decide +kernel)) (fun _ _ _ _ _ => by exact (pg_cast (pg_name (i := 4) sc_led_box.nd rfl (by first | exact Or.inl rfl | exact Or.inr rfl)) (by (try simp only [blk_K]); rfl))) (fun _ _ _ _ _ => by exact (pts_cast pts_nil (by (try simp only [blk_K]); rfl))) (fun _ _ _ _ _ => by exact (pe_cast (pe_ix ix_tup (pe_fld (pv 0) (by rfl)) (pv 4) (fun _ _ => rfl)) (by (try simp only [blk_K]); rfl)))) pa_nil))))), ?_⟩
    obtain ⟨o1, o2, o3⟩ := ord_ax ok.1
    k_all
    refine ⟨u, h, rfl, hh, ok, fun p H1 e1 ⟨p', o, g, ep, hp, ho, hg⟩ => ?_⟩
    cases ep
    k_all
    refine w_lc ?_
    k_all
    refine w_itT ho ?_
    refine lcT (K := K) (xs := vi (T3.l h.ord)) (G := fun i y _ => (vi (T3.l (ledBox s h)))[i]? = some y) (fun i y H1 H2 e h => h) (fun i y H1 D acc acc' hD h => h) (by show 3 ≤ 100000; decide) ho (fun i x H2 hi e2 => ?_) mg_name (fun l H2 zs nl e2 l2 told => ?_)
    · refine ⟨rfl, rfl, fun QV qv => ?_⟩
      obtain ⟨pb, dx, sa, rfl, hpb, hsa⟩ := hb.mono (e1.trans e2)
      k_all
      refine w_box E hpb ?_
      match i, hi with
      | 0, hi =>
        cases (Option.some.inj hi)
        k_all
        refine w_ixT hsa (at3 s o1.1 o1.2) ?_
        exact qv _ _ (Evl.Ex.refl _) rfl
      | 1, hi =>
        cases (Option.some.inj hi)
        k_all
        refine w_ixT hsa (at3 s o2.1 o2.2) ?_
        exact qv _ _ (Evl.Ex.refl _) rfl
      | 2, hi =>
        cases (Option.some.inj hi)
        k_all
        refine w_ixT hsa (at3 s o3.1 o3.2) ?_
        exact qv _ _ (Evl.Ex.refl _) rfl
    · have hz : zs = vi (T3.l (ledBox s h)) := by
        have h3 : zs.length = 3 := told.1
        match zs, h3, told.2 with
        | [a, b, c], _, t =>
          have t0 := t 0 a rfl
          have t1 := t 1 b rfl
          have t2 := t 2 c rfl
          cases t0
          cases t1
          cases t2
          rfl
      rw [hz] at l2
      k_all
      intro x dx nx ndx nxx
      have ex1 : Ex H2 (upd H2 dx (.own x)) := Evl.Ex.new ndx
      have nx2 : (upd H2 dx (.own x)) x = none := by rw [upd_ne (fun e => nxx e.symm)]; exact nx
      refine ⟨H2, x, dx, l, ledBox s h, rfl, ex1.trans (Evl.Ex.new nx2), nx, upd_same, sl_at l2, ledBox_le hs, fun H' a e' hx ha => ⟨rfl, ?_⟩⟩
      exact q _ H' ((e1.trans e2).trans e') ⟨x, dx, a, rfl, hx, ha⟩
def ledSlope (p q : Int) (h : How) : Int × Int := if keepsM h = true then (p, q) else (q, p)
def spLedSlope (K : PySem.W.Frag) : Sp := fun vs H Q _ => ∃ a p q u h, vs = [.ref a, u] ∧ SqT K H a (vi [p, q]) ∧ SlopeOk p q ∧ q ≠ 0 ∧ HowAt K H u h ∧ HowOk h ∧ ∀ b H', Ex H H' → SqT K H' b (vi [(ledSlope p q h).1, (ledSlope p q h).2]) → Q (.ref b) H'
theorem C_led_slope (E : Env K mg) : FnC P w K mg base "led_slope" 5 ["slope", "how"] [] (spLedSlope K) := by
  have C_check_slope := C_check_slope (P := P) (w := w) (base := base) E
  have C_keeps_sense := C_keeps_sense (P := P) (w := w) (base := base) E
  have C_mirrored_slope := C_mirrored_slope (P := P) (w := w) (base := base) E
  refine .of E.d_led_slope E.g_led_slope sc_led_slope (fun vs H Q E h => ?_) (fun _ _ _ _ _ _ us hl => match us, hl with | [_, _], _ => rfl) (fun cdv A outer s0 H vs Q E' hr h => ?_)
  · obtain ⟨a, p, q, u, h, rfl, _⟩ := h
    rfl
  · obtain ⟨a, p, q, u, h, rfl, ha, ok, nz, hh, hok, k⟩ := h
    refine ⟨_, (pss_cons (ps_set (i := 2) sc_led_slope.nd rfl (by first | exact Or.inl rfl | exact Or.inr rfl) (pe_c C_check_slope (hr.mono (by decide)) rfl (pa_cons (pv 0) (pa_cons pe_bl pa_nil))))
      (pss_one (ps_ret (pe_ifExp (pt_val (pe_c C_keeps_sense (hr.mono (by decide)) rfl (pa_cons (pv 1) pa_nil))) (pv 2) (pe_c C_mirrored_slope (hr.mono (by decide)) rfl (pa_cons (pv 2) pa_nil)))))), ?_⟩
    k_all
    refine ⟨a, p, q, rfl, ha, ok, fun b H1 e1 hb => ?_⟩
    k_all
    refine ⟨u, h, rfl, hh.mono e1, hok, fun H2 e2 => ?_⟩
    refine ⟨_, rfl, ?_⟩
    unfold ledSlope at k
    cases hk : keepsM h with
    | true =>
      rw [if_pos hk] at k
      k_all
      exact k _ _ (e1.trans e2) (ex_t e2 hb)
    | false =>
      rw [if_neg (by rw [hk]; decide)] at k
      k_all
      refine ⟨b, p, q, rfl, ex_t e2 hb, ok, nz, fun b2 H3 e3 h3 => ?_⟩
      exact k _ _ ((e1.trans e2).trans e3) h3
end TP

/-! J -/
set_option Elab.async false
set_option linter.all false
set_option maxRecDepth 100000
set_option maxHeartbeats 4000000
namespace TP
open PySem PySem.Spec PyProof.Rows L2 LamX
theorem w_int1 {n : Int} {C : Int → Prop} {B : Prop} (q : C n) : (∃ i, [V.int n] = [.int i] ∧ C i) ∨ B := .inl ⟨n, rfl, q⟩
theorem w_abs1 {n : Int} {B : Int → Prop} (q : B n) : ∃ i, [V.int n] = [.int i] ∧ B i := ⟨n, rfl, q⟩
end TP

/-! W19 -/
set_option Elab.async false
set_option linter.all false
set_option maxRecDepth 100000
set_option maxHeartbeats 4000000
-- k_mem: a fact of the heap as it is now, from an older one; k_upd: one step of a reading; k_all: as many as go
local macro_rules | `(tactic| k_mem) => `(tactic| first | assumption | exact TP.st_at (by assumption) | exact TP.sl_at (by assumption) | (refine TP.ex_t (by assumption) ?_; k_mem) | (refine TP.ex_l (by assumption) ?_; k_mem) | (refine TP.ex_o (by assumption) ?_; k_mem))
local macro_rules | `(tactic| k_subL) => `(tactic| (generalize hG : L2.upd _ _ _ = HN; (have eN := TP.ex_of hG (by assumption)); (have aN := TP.at_of hG); clear hG))
set_option hygiene false in
local macro_rules | `(tactic| k_upd) => `(tactic| first
  | with_reducible refine TP.w_seq ?_
  | with_reducible refine TP.w_asg ?_
  | with_reducible refine TP.w_ret ?_
  | with_reducible refine TP.w_drop ?_
  | with_reducible refine TP.w_gn ?_
  | ((with_reducible refine' TP.w_var ?h ?_); (case h => k_dflt rfl))
  | with_reducible refine TP.w_c ?_
  | with_reducible refine TP.w_op ?_
  | with_reducible refine TP.w_un ?_
  | with_reducible refine TP.w_U ?_
  | with_reducible refine TP.w_I0 ?_
  | ((with_reducible refine TP.w_I ?h ?_); (case h => first | (k_dflt (exact TP.cmul_r (by omega))) | (k_dflt (exact TP.cmul_l (by omega))) | (k_dflt (exact TP.cdiv (by omega))) | (k_dflt (show (0 : Int) < _; omega)) | trivial | (k_dflt omega) | (k_dflt decide) | (k_dflt assumption)))
  | ((with_reducible refine TP.w_eq ?h ?_); (case h => k_dflt rfl))
  | ((with_reducible refine TP.w_ne ?h ?_); (case h => k_dflt rfl))
  | with_reducible refine TP.w_test ?_
  | with_reducible refine TP.w_tB ?_
  | with_reducible refine TP.w_bl ?_
  | with_reducible refine TP.w_ifS ?_
  | with_reducible refine TP.w_if ?_
  | with_reducible refine TP.w_not ?_
  | with_reducible refine TP.w_and ?_
  | with_reducible refine TP.w_or ?_
  | with_reducible refine TP.w_andV ?_
  | with_reducible refine TP.w_orV ?_
  | with_reducible refine TP.w_next ?_
  | with_reducible refine TP.w_cons ?_
  | with_reducible refine TP.w_nil ?_
  | with_reducible refine TP.w_for ?_
  | with_reducible refine TP.w_iL ?_
  | with_reducible refine TP.w_iT ?_
  | with_reducible refine TP.w_r1 ?_
  | with_reducible refine TP.w_r2 ?_
  | ((with_reducible refine TP.w_itR ?h ?_); (case h => k_dflt omega))
  | ((with_reducible refine TP.w_itR2 ?h ?_); (case h => k_dflt omega))
  | with_reducible refine TP.w_bm ?_
  | ((with_reducible refine' TP.w_ty ?h ?_); (case h => k_mem))
  | with_reducible refine TP.w_cb ?_
  | with_reducible refine TP.w_call ?_
  | with_reducible refine TP.w_tup ?_
  | with_reducible refine TP.w_lst ?_
  | ((with_reducible refine TP.w_new ?h ?_); (case h => (k_dflt (exact Nat.le_of_ble_eq_true rfl))); (intro _ _); k_subL)
  | ((with_reducible refine' TP.w_ixT ?h ?e ?_); (case h => k_mem); (case e => k_dflt rfl))
  | ((with_reducible refine' TP.w_ixL ?h ?e ?_); (case h => k_mem); (case e => k_dflt rfl))
  | ((with_reducible refine' TP.w_ixA ?h ?e ?_); (case h => first | assumption | exact .inl (by k_mem) | exact .inr (by k_mem)); (case e => k_dflt rfl))
  | ((with_reducible refine' TP.w_gT ?h ?e ?_); (case h => k_mem); (case e => k_dflt rfl))
  | with_reducible refine TP.w_gS ?_
  | with_reducible refine TP.w_gc ?_
  | with_reducible refine TP.w_gnil ?_
  | with_reducible refine TP.w_gci ?_
  | with_reducible refine TP.w_gni ?_
  | with_reducible refine TP.w_fld ?_
  | ((with_reducible refine TP.w_tt ?_); (try dsimp only))
  | (with_reducible refine TP.w_par ?_)
  | (with_reducible refine TP.w_swap ?_)
  | with_reducible refine TP.if_nnI ?_
  | with_reducible refine TP.if_nnR ?_
  | with_reducible refine TP.if_nn0 ?_
  | with_reducible refine TP.if_nT ?_
  | with_reducible refine TP.if_nF ?_
  | with_reducible refine TP.w_mk ?_
  | ((with_reducible refine TP.w_int1 ?_); (try dsimp only))
  | ((with_reducible refine TP.w_abs1 ?_); (try dsimp only))
  | with_reducible refine TP.w_lc ?_
  | with_reducible refine TP.w_cont ?_
  | with_reducible refine TP.w_chain ?_
  | with_reducible refine TP.w_sl ?_
  | with_reducible refine TP.w_noP ?_
  | with_reducible refine TP.w_part ?_
  | with_reducible refine TP.w_pi ?_
  | with_reducible refine TP.w_iE ?_
  | with_reducible refine TP.w_iET ?_
  | ((with_reducible refine' TP.w_sfF ?e ?h ?_); (case e => assumption); (case h => k_mem))
  | ((with_reducible refine' TP.w_sfD ?e ?h ?_); (case e => assumption); (case h => k_mem))
  | ((with_reducible refine' TP.w_sfL ?e ?h ?_); (case e => assumption); (case h => k_mem))
  | ((with_reducible refine' TP.w_sfH ?e ?h ?_); (case e => assumption); (case h => k_mem))
  | with_reducible refine L2.iteT ?_
  | with_reducible refine L2.iteF ?_)
local macro_rules | `(tactic| k_all) => `(tactic| repeat k_upd)
namespace TP
open PySem PySem.Spec PyProof.Rows L2 LamX
open PySem.W (minOf maxOf Tup DatumOrd Datum)
variable {P : Program} {w : World} {K : PySem.W.Frag} {mg : Str → Option Value} {base : Heap}
/-! ### the hand of numbers -/
/-- a hand: the cells, the place, the rest, the total -/
def HandAt (H : Hp) (a c : Addr) : Prop := ∃ cs, ∃ i r t : Int, H a = some (.lst [.ref c, .int i, .int r, .int t]) ∧ H c = some (.lst (vi cs)) ∧ c ≠ a ∧ 0 ≤ i ∧ i ≤ cs.length ∧ cs.length ≤ 100 ∧ 0 ≤ r ∧ 0 ≤ t ∧ t ≤ 2147483549 ∧ ∀ x ∈ cs, 0 ≤ x
def spHand (K : PySem.W.Frag) : Sp := fun vs H Q _ => ∃ a ns, vs = [.ref a] ∧ SqL K H a (vi ns) ∧ ns.length ≤ 63 ∧ ∀ p c H', Ex H H' → H p = none → HandAt H' p c → Q (.ref p) H'
theorem C_law_hand (E : Env K mg) : FnC P w K mg base "_law_hand" 1 ["_law_script"] [] (spHand K) := by
  refine .of E.d_law_hand E.g_law_hand sc_law_hand (fun vs H Q E h => ?_) (fun _ _ _ _ _ _ us hl => match us, hl with | [_], _ => rfl) (fun cdv A outer s0 H vs Q E' hr h => ?_)
  · obtain ⟨a, ns, rfl, _⟩ := h
    rfl
  · obtain ⟨a, ns, rfl, ha, hn, q⟩ := h
    refine ⟨_, (pss_cons (ps_set (i := 1) sc_law_hand.nd rfl (by first | exact Or.inl rfl | exact Or.inr rfl) (pe_op op_add (pe_op op_mul pe_int (pe_callB call_len_seq (by rfl) E.b_len PySem.boot_len (pa_cons (pv 0) pa_nil))) pe_int))
      (pss_cons (ps_set (i := 2) sc_law_hand.nd rfl (by first | exact Or.inl rfl | exact Or.inr rfl) (pe_lst pa_nil))
      (pss_cons (ps_for PassesOwn.never rfl (pi_list (pv 0)) (pg_name (i := 3) sc_law_hand.nd rfl (by first | exact Or.inl rfl | exact Or.inr rfl)) (pss_cons (ps_set (i := 1) sc_law_hand.nd rfl (by first | exact Or.inl rfl | exact Or.inr rfl) (pe_op op_mod (pe_callTy call_int1 (by rfl) E.b_int (by decide +kernel) (pa_cons (pe_op op_add (pe_op op_mul (pv 1) pe_int) (pe_callTy call_int1 (by rfl) E.b_int (by decide +kernel) (pa_cons (pv 3) pa_nil))) pa_nil)) pe_int))
      (pss_one (ps_expr (pe_bm PySem.F.plainAttrs_list PySem.F.slot_list_append PySem.F.type_list_append mt_append (pv 2) (pa_cons (pe_callB call_abs (by rfl) E.b_abs (by decide +kernel) (pa_cons (pe_callTy call_int1 (by rfl) E.b_int (by decide +kernel) (pa_cons (pv 3) pa_nil)) pa_nil)) pa_nil))))))
      (pss_one (ps_ret (pe_lst (pa_cons (pv 2) (pa_cons pe_int (pa_cons pe_int (pa_cons (pv 1) pa_nil)))))))))), ?_⟩
    have hl : (vi ns).length = ns.length := by unfold vi; rw [List.length_map]
    k_all
    refine w_lenL ha ?_
    k_all
    rename_i l nl H1 e1 l1
    refine w_itL (ex_l e1 ha) (for_list (xs := vi ns) (fun i σ H' => ∃ z cs, ∃ t : Int, σ = [some (.ref a), some (.int t), some (.ref l), z] ∧ Ex H H' ∧ H' l = some (.lst (vi cs)) ∧ cs.length = i ∧ (∀ x ∈ cs, (0 : Int) ≤ x) ∧ 0 ≤ t ∧ (t ≤ 2147483549)) ⟨_, [], _, rfl, e1, l1, rfl, (fun x hx => by cases hx), by omega, by omega⟩ (fun i σ H' _ h => ?_) (fun i x σ H' hi h => ?_) (fun σ H' h => ?_))
    · obtain ⟨_, _, _, _, e, _⟩ := h
      exact ex_l e ha
    · obtain ⟨z, cs, t, rfl, e, hcs, hlen, hpos, ht, ht2⟩ := h
      obtain ⟨n, rfl, hn'⟩ := vi_at hi
      have hil := (List.getElem?_eq_some_iff.mp hi).1
      k_all
      refine w_app hcs (by unfold vi; rw [List.length_map]; omega) ?_
      generalize hG : upd _ _ _ = H2
      have e2 : Ex H H2 := ex_mut hG e nl
      have l2 := at_of hG
      k_all
      refine ⟨_, cs ++ [if n < 0 then -n else n], _, rfl, e2, ?_, by rw [List.length_append, hlen] <;> rfl, fun x hx => ?_, ?_, ?_⟩
      · rw [l2]
        unfold vi
        rw [List.map_append]
        rfl
      · rcases List.mem_append.mp hx with h | h
        · exact hpos x h
        · rw [List.mem_singleton.mp h]
          split <;> omega
      · omega
      · omega
    · obtain ⟨z, cs, t, rfl, e, hcs, hlen, hpos, ht, ht2⟩ := h
      k_all
      rename_i p np H3 e3 l3
      refine q p l H3 (e.trans e3) (Evl.fresh_back e np) ⟨cs, 0, 0, t, l3, e3 _ _ hcs, fun h => ?_, by omega, by omega, by omega, by omega, ht, ht2, hpos⟩
      rw [h, np] at hcs
      cases hcs
def spMixed : Sp := fun vs H Q _ => ∃ n t : Int, vs = [.int n, .int t] ∧ 0 ≤ n ∧ n < 2147483648 ∧ 0 ≤ t ∧ t ≤ 1000 ∧ ∀ r : Int, 0 ≤ r → Q (.int r) H
theorem C_law_mixed (E : Env K mg) : FnC P w K mg base "_law_mixed" 1 ["_law_number", "_law_turn"] [] spMixed := by
  refine .of E.d_law_mixed E.g_law_mixed sc_law_mixed (fun vs H Q E h => ?_) (fun _ _ _ _ _ _ us hl => match us, hl with | [_, _], _ => rfl) (fun cdv A outer s0 H vs Q E' hr h => ?_)
  · obtain ⟨n, t, rfl, _⟩ := h
    rfl
  · obtain ⟨n, t, rfl, n0, n1, t0, t1, q⟩ := h
    refine ⟨_, (pss_cons (ps_set (i := 2) sc_law_mixed.nd rfl (by first | exact Or.inl rfl | exact Or.inr rfl) (pe_op op_mod (pe_callTy call_int1 (by rfl) E.b_int (by decide +kernel) (pa_cons (pe_op op_add (pe_op op_add (pe_op op_mul (pv 0) pe_int) (pe_op op_mul (pv 1) pe_int)) pe_int) pa_nil)) pe_int))
      (pss_cons (ps_set (i := 3) sc_law_mixed.nd rfl (by first | exact Or.inl rfl | exact Or.inr rfl) (pe_op op_mod (pe_callTy call_int1 (by rfl) E.b_int (by decide +kernel) (pa_cons (pe_op op_add (pe_op op_add (pe_op op_mul (pv 2) (pv 2)) (pe_op op_mul (pv 1) pe_int)) (pe_op op_fdiv (pv 2) pe_int)) pa_nil)) pe_int))
      (pss_one (ps_ret (pe_op op_fdiv (pe_callTy call_int1 (by rfl) E.b_int (by decide +kernel) (pa_cons (pe_op op_mod (pe_callTy call_int1 (by rfl) E.b_int (by decide +kernel) (pa_cons (pe_op op_add (pe_op op_mul (pv 3) pe_int) (pe_op op_fdiv (pv 2) pe_int)) pa_nil)) pe_int) pa_nil)) pe_int))))), ?_⟩
    k_all
    have o1 : 0 ≤ (n * 48271 + t * 10007 + 30011) % 2147483647 ∧ (n * 48271 + t * 10007 + 30011) % 2147483647 < 2147483647 := by omega
    generalize (n * 48271 + t * 10007 + 30011) % 2147483647 = x at o1
    try k_all
    exact q _ (by omega)
/-- the heap, but for the one at a -/
def Off (a : Addr) (H H' : Hp) : Prop := ∀ b o, b ≠ a → H b = some o → H' b = some o
def spTake (K : PySem.W.Frag) : Sp := fun vs H Q _ => ∃ a c, ∃ m : Int, vs = [.ref a, .int m] ∧ HandAt H a c ∧ 0 < m ∧ m < 1000 ∧ ∀ (r : Int) H', 0 ≤ r → r < m → Off a H H' → HandAt H' a c → Q (.int r) H'
theorem C_law_take (E : Env K mg) : FnC P w K mg base "_law_take" 2 ["_law_hand_here", "_law_many"] [] (spTake K) := by
  have C_law_mixed := C_law_mixed (P := P) (w := w) (base := base) E
  refine .of E.d_law_take E.g_law_take sc_law_take (fun vs H Q E h => ?_) (fun _ _ _ _ _ _ us hl => match us, hl with | [_, _], _ => rfl) (fun cdv A outer s0 H vs Q E' hr h => ?_)
  · obtain ⟨a, c, m, rfl, _⟩ := h
    rfl
  · obtain ⟨a, c, m, rfl, ⟨cs, i, r, t, ha, hc, hca, i0, i1, i2, r0, t0, t1, hpos⟩, m0, m1, q⟩ := h
    refine ⟨_, (pss_cons (ps_if (PW.pt (pw_and (pt_cmpR op_eq (pe_ix ix_list (pv 0) pe_int (fun _ _ => rfl)) pe_int (nomark _)) (pw_and1 (pt_cmpR op_lt (pe_ix ix_list (pv 0) pe_int (fun _ _ => rfl)) (pe_callB call_len_seq (by rfl) E.b_len PySem.boot_len (pa_cons (pe_ix ix_list (pv 0) pe_int (fun _ _ => rfl)) pa_nil)) (nomark _))))) (pss_cons (ps_set (i := 2) sc_law_take.nd rfl (by first | exact Or.inl rfl | exact Or.inr rfl) (pe_ix ix_list (pe_ix ix_list (pv 0) pe_int (fun _ _ => rfl)) (pe_ix ix_list (pv 0) pe_int (fun _ _ => rfl)) (fun _ _ => rfl)))
      (pss_cons (ps_asg (pe_op op_add (pe_ix ix_list (pv 0) pe_int (fun _ _ => rfl)) pe_int) (pg_sub (pv 0) pe_int set_list))
      (pss_cons (ps_if (pt_cmpR op_lt (pv 2) (pe_op op_pow pe_int pe_int) (nomark _)) (pss_one (ps_ret (pe_op op_mod (pe_callTy call_int1 (by rfl) E.b_int (by decide +kernel) (pa_cons (pe_c C_law_mixed (hr.mono (by decide)) rfl (pa_cons (pe_op op_mod (pe_callTy call_int1 (by rfl) E.b_int (by decide +kernel) (pa_cons (pv 2) pa_nil)) pe_int) (pa_cons (pe_ix ix_list (pv 0) pe_int (fun _ _ => rfl)) pa_nil))) pa_nil)) (pv 1)))) pss_nil)
      (pss_one (ps_asg (pv 2) (pg_sub (pv 0) pe_int set_list)))))) pss_nil)
      (pss_cons (ps_if (pt_cmpR op_gt (pe_ix ix_list (pv 0) pe_int (fun _ _ => rfl)) pe_int (nomark _)) (pss_cons (ps_set (i := 3) sc_law_take.nd rfl (by first | exact Or.inl rfl | exact Or.inr rfl) (pe_ix ix_list (pv 0) pe_int (fun _ _ => rfl)))
      (pss_cons (ps_asg (pe_op op_fdiv (pe_callTy call_int1 (by rfl) E.b_int (by decide +kernel) (pa_cons (pv 3) pa_nil)) (pv 1)) (pg_sub (pv 0) pe_int set_list))
      (pss_one (ps_ret (pe_op op_mod (pe_callTy call_int1 (by rfl) E.b_int (by decide +kernel) (pa_cons (pv 3) pa_nil)) (pv 1)))))) pss_nil)
      (pss_cons (ps_asg (pe_op op_mod (pe_callTy call_int1 (by rfl) E.b_int (by decide +kernel) (pa_cons (pe_op op_add (pe_ix ix_list (pv 0) pe_int (fun _ _ => rfl)) pe_int) pa_nil)) pe_int) (pg_sub (pv 0) pe_int set_list))
      (pss_one (ps_ret (pe_op op_mod (pe_callTy call_int1 (by rfl) E.b_int (by decide +kernel) (pa_cons (pe_c C_law_mixed (hr.mono (by decide)) rfl (pa_cons (pe_ix ix_list (pv 0) pe_int (fun _ _ => rfl)) (pa_cons (pe_ix ix_list (pv 0) pe_int (fun _ _ => rfl)) pa_nil))) pa_nil)) (pv 1))))))), ?_⟩
    have hl : (vi cs).length = cs.length := by unfold vi; rw [List.length_map]
    have hp18 : ((10 : Int) ^ (18 : Int).toNat) = 1000000000000000000 := by decide
    have fin : ∀ (H' : Hp) (i' r' t' : Int), Off a H H' → H' a = some (.lst [.ref c, .int i', .int r', .int t']) → 0 ≤ i' → i' ≤ cs.length → 0 ≤ r' → 0 ≤ t' → t' ≤ 2147483549 → ∀ v : Int, Q (.int (v % m)) H' := fun H' i' r' t' o h1 h2 h3 h4 h5 h6 v =>
      q (v % m) H' (Int.emod_nonneg _ (by omega)) (Int.emod_lt_of_pos _ m0) o ⟨cs, i', r', t', h1, o _ _ hca hc, hca, h2, h3, i2, h4, h5, h6, hpos⟩
    have off1 : ∀ {H1 H2 : Hp} {o : HO}, Off a H H1 → upd H1 a o = H2 → Off a H H2 := fun o e b u n h => by rw [← e, upd_ne n]; exact o b u n h
    k_all
    refine if_int (fun hr0 => ?_) (fun hr0 => ?_)
    · k_all
      refine w_lenL (sl_at hc) ?_
      rw [hl]
      k_all
      refine if_dec (fun hi => ?_) (fun hi => ?_)
      · have hcell : cs[i.toNat]? = some (cs[i.toNat]'(by omega)) := List.getElem?_eq_getElem _
        generalize cs[i.toNat]'(by omega) = x at hcell
        have hx0 := hpos x (List.mem_of_getElem? hcell)
        have hat : atI (vi cs) i = some (.int x) := by
          have h := atI_nat (vi_of hcell)
          rw [Int.toNat_of_nonneg i0] at h
          exact h
        k_all
        refine w_ixL (sl_at hc) hat ?_
        k_all
        refine w_sL ha (by rfl) ?_
        generalize hG : upd _ _ _ = H1
        have o1 : Off a H H1 := off1 (fun _ _ _ h => h) hG
        have l1 := at_of hG
        k_all
        refine if_dec (fun h18 => ?_) (fun h18 => ?_)
        · k_all
          refine ⟨_, _, rfl, by omega, by omega, by omega, by omega, fun v hv => ?_⟩
          k_all
          exact fin H1 (i + 1) r t o1 l1 (by omega) (by omega) r0 t0 t1 v
        · have hxp : 0 < x := by
            have h18' : ¬ x < (10 : Int) ^ (18 : Int).toNat := h18
            rw [hp18] at h18'
            omega
          k_all
          refine w_sL l1 (by rfl) ?_
          generalize hG2 : upd _ _ _ = H2
          have o2 : Off a H H2 := off1 o1 hG2
          have l2 := at_of hG2
          k_all
          refine if_dec (fun h0 => ?_) (fun h0 => (h0 hxp).elim)
          k_all
          refine w_sL l2 (by rfl) ?_
          generalize hG3 : upd _ _ _ = H3
          have o3 : Off a H H3 := off1 o2 hG3
          have l3 := at_of hG3
          k_all
          exact fin H3 (i + 1) (x / m) t o3 l3 (by omega) (by omega) (Int.ediv_nonneg (by omega) (by omega)) t0 t1 x
      · k_all
        refine if_dec (fun h0 => (by omega)) (fun h0 => ?_)
        k_all
        refine w_sL ha (by rfl) ?_
        generalize hG3 : upd _ _ _ = H3
        have o3 : Off a H H3 := off1 (fun _ _ _ h => h) hG3
        have l3 := at_of hG3
        k_all
        refine ⟨_, _, rfl, by omega, by omega, by omega, by omega, fun v hv => ?_⟩
        k_all
        exact fin H3 i r _ o3 l3 (by omega) (by omega) r0 (by omega) (by omega) v
    · k_all
      refine if_dec (fun h0 => ?_) (fun h0 => (by omega))
      k_all
      refine w_sL ha (by rfl) ?_
      generalize hG3 : upd _ _ _ = H3
      have o3 : Off a H H3 := off1 (fun _ _ _ h => h) hG3
      have l3 := at_of hG3
      k_all
      exact fin H3 i (r / m) t o3 l3 (by omega) (by omega) (Int.ediv_nonneg (by omega) (by omega)) t0 t1 r
theorem Off.refl (a : Addr) (H : Hp) : Off a H H := fun _ _ _ h => h
theorem Off.trans {a : Addr} {H H1 H2 : Hp} (x : Off a H H1) (y : Off a H1 H2) : Off a H H2 := fun b o n h => y b o n (x b o n h)
theorem Off.of {a : Addr} {H H' : Hp} (e : Ex H H') : Off a H H' := fun b o _ h => e b o h
theorem HandAt.mono {H H' : Hp} {a c : Addr} (h : HandAt H a c) (e : Ex H H') : HandAt H' a c := by
  obtain ⟨cs, i, r, t, h1, h2, x⟩ := h
  exact ⟨cs, i, r, t, e _ _ h1, e _ _ h2, x⟩
theorem HandAt.other {H : Hp} {a c D : Addr} {o : HO} (h : HandAt H a c) (n1 : D ≠ a) (n2 : D ≠ c) : HandAt (upd H D o) a c := by
  obtain ⟨cs, i, r, t, h1, h2, x⟩ := h
  exact ⟨cs, i, r, t, by rw [upd_ne (fun z => n1 z.symm)]; exact h1, by rw [upd_ne (fun z => n2 z.symm)]; exact h2, x⟩
theorem HandAt.some1 {H : Hp} {a c : Addr} (h : HandAt H a c) : ∃ o, H a = some o := let ⟨_, _, _, _, h1, _⟩ := h; ⟨_, h1⟩
theorem HandAt.some2 {H : Hp} {a c : Addr} (h : HandAt H a c) : ∃ o, H c = some o := let ⟨_, _, _, _, _, h2, _⟩ := h; ⟨_, h2⟩
theorem ne_new {H : Hp} {D a : Addr} (hD : H D = none) (h : ∃ o, H a = some o) : D ≠ a := fun z => by
  obtain ⟨o, h⟩ := h
  rw [← z, hD] at h
  cases h
theorem off_t {a : Addr} {H H' : Hp} {b : Addr} {xs : List V} (o : Off a H H') (hl : ∃ ys, H a = some (.lst ys)) (h : SqT K H b xs) : SqT K H' b xs := by
  obtain ⟨ys, hl⟩ := hl
  rcases h with (h | ⟨ob, h⟩) | h
  · exact .inl (.inl (o _ _ (ne_of h hl (fun z => by cases z)) h))
  · exact .inl (.inr ⟨ob, o _ _ (ne_of h hl (fun z => by cases z)) h⟩)
  · exact .inr h
theorem off_i {a : Addr} {H H' : Hp} {b C dx : Addr} {fs : List (Str × V)} (o : Off a H H') (hl : ∃ ys, H a = some (.lst ys)) (h : H b = some (.ins C dx fs)) : H' b = some (.ins C dx fs) := by
  obtain ⟨ys, hl⟩ := hl
  exact o _ _ (ne_of h hl (fun z => by cases z)) h
theorem HandAt.lst {H : Hp} {a c : Addr} (h : HandAt H a c) : ∃ ys, H a = some (.lst ys) := let ⟨_, _, _, _, h1, _⟩ := h; ⟨_, h1⟩
/-- a comprehension over range(n) whose turns take from the hand at a; items are told by G -/
theorem lcRO {G : Nat → V → Prop} {a c : Addr} {n : Nat} {g : TG} {te : TE} {vs : List Nat} {σ : L2.St} {H : Hp} {Q : VK} (hh : HandAt H a c) (hn : n ≤ 100000)
    (turn : ∀ i H', i < n → Off a H H' → HandAt H' a c → g (.int ((0 : Int) + (i : Nat))) (wipe σ vs) H' fun σ2 H2 => H2 = H' ∧ wipe σ2 vs = wipe σ vs ∧ ∀ QV : VK, (∀ y H3, Off a H' H3 → HandAt H3 a c → G i y → QV y H3) → te σ2 H' QV)
    (mg : ∀ x σ H Q Q', (∀ σ' H', Q σ' H' → Q' σ' H') → g x σ H Q → g x σ H Q')
    (k : ∀ p H2 ys, H p = none → Off a H H2 → HandAt H2 a c → H2 p = some (.lst ys) → ys.length = n → (∀ (i : Nat) y, ys[i]? = some y → G i y) → Q (.ref p) H2) : LcG g tYes te vs σ Q (Itr 0 n) H := by
  intro D hD
  have na := ne_new hD hh.some1
  have nc := ne_new hD hh.some2
  refine lc_range (lo := 0) (n := n) (fun i H' => Off a H H' ∧ HandAt H' a c ∧ ∃ ys, H' D = some (.lst ys) ∧ Told (fun i y _ => G i y) i ys H') ⟨Off.of (Evl.Ex.new hD), hh.other na nc, [], upd_same, rfl, fun i y h => by simp at h⟩ (fun i H' hi p => ?_) (fun H' p => ?_)
  · obtain ⟨o1, hh1, ys, hy, t⟩ := p
    refine mg _ _ _ _ _ (fun σ' H'' q => ?_) (turn i H' hi o1 hh1)
    obtain ⟨rfl, q1, q2⟩ := q
    refine ⟨q1, tYes_ (iteT (q2 _ fun y H3 o3 hh3 hg => ?_))⟩
    have hy3 := o3 D _ na hy
    refine ⟨ys, hy3, ?_, fun b o nb hb => ?_, hh3.other na nc, ys ++ [y], upd_same, ?_⟩
    · rw [t.1]
      exact Evl.sz_lt (by omega)
    · rw [upd_ne (fun z => by rw [z, hD] at hb; cases hb)]
      exact o3 b o nb (o1 b o nb hb)
    · exact (show Told (fun i y _ => G i y) i ys H3 from t).snoc (fun _ _ h => h) hg
  · obtain ⟨o1, hh1, ys, hy, t⟩ := p
    exact k D H' ys hD o1 hh1 hy t.1 t.2
end TP

/-! W20 -/
set_option Elab.async false
set_option linter.all false
set_option maxRecDepth 100000
set_option maxHeartbeats 4000000
-- k_mem: a fact of the heap as it is now, from an older one; k_upd: one step of a reading; k_all: as many as go

namespace TP
open PySem PySem.Spec PyProof.Rows L2 LamX
open PySem.W (minOf maxOf Tup DatumOrd Datum)
variable {P : Program} {w : World} {K : PySem.W.Frag} {mg : Str → Option Value} {base : Heap}
/-! ### comprehensions with a test -/
section
variable {σ : L2.St} {H : Hp} {Q : VK} {te : TE} {tt : TT} {g : TG} {vs : List Nat}
/-- ys: the items of those places of is, each told by G -/
def TolF (G : Nat → V → Hp → Prop) (is : List Nat) (ys : List V) (H : Hp) : Prop := ys.length = is.length ∧ ∀ (k : Nat) y i, ys[k]? = some y → is[k]? = some i → G i y H
theorem TolF.nil {G : Nat → V → Hp → Prop} : TolF G [] [] H := ⟨rfl, fun k y i h => by simp at h⟩
theorem TolF.mono {G : Nat → V → Hp → Prop} {is : List Nat} {ys : List V} {H1 H2 : Hp} (t : TolF G is ys H1) (m : ∀ i y, G i y H1 → G i y H2) : TolF G is ys H2 := ⟨t.1, fun k y i h1 h2 => m i y (t.2 k y i h1 h2)⟩
theorem TolF.snoc {G : Nat → V → Hp → Prop} {is : List Nat} {ys : List V} {y : V} {i : Nat} (t : TolF G is ys H) (h : G i y H) : TolF G (is ++ [i]) (ys ++ [y]) H := by
  refine ⟨by rw [List.length_append, List.length_append, t.1] <;> rfl, fun k z j h1 h2 => ?_⟩
  by_cases hk : k < ys.length
  · rw [List.getElem?_append_left hk] at h1
    rw [List.getElem?_append_left (by rw [← t.1]; exact hk)] at h2
    exact t.2 k z j h1 h2
  · rw [List.getElem?_append_right (Nat.le_of_not_lt hk)] at h1
    rw [List.getElem?_append_right (by rw [← t.1]; exact Nat.le_of_not_lt hk)] at h2
    rw [← t.1] at h2
    cases q : k - ys.length with
    | zero =>
      rw [q] at h1 h2
      cases h1
      cases h2
      exact h
    | succ m => rw [q] at h1; simp at h1
def LcH (G : Nat → V → Hp → Prop) (f : Nat → Bool) (H : Hp) (D : Addr) (i : Nat) (H' : Hp) : Prop := H D = none ∧ Ex H H' ∧ ∃ ys, H' D = some (.lst ys) ∧ TolF G ((List.range i).filter f) ys H'
theorem lcH_turn {G : Nat → V → Hp → Prop} {f : Nat → Bool} {H H' : Hp} {D : Addr} {i n : Nat} {σ2 : L2.St} (p : LcH G f H D i H') (hi : i < n) (hn : n ≤ 100000) (m : ∀ i y H1 H2, Ex H1 H2 → G i y H1 → G i y H2) (mu : ∀ i y H1 D acc acc', H1 D = some (.lst acc) → G i y H1 → G i y (upd H1 D (.lst acc')))
    (ht : ∀ QB : Bool → Hp → Prop, (∀ H3, Ex H' H3 → QB (f i) H3) → tt σ2 H' QB) (he : f i = true → ∀ H3 (QV : VK), Ex H' H3 → (∀ y H4, Ex H3 H4 → G i y H4 → QV y H4) → te σ2 H3 QV) :
    tt σ2 H' fun b H3 => if b = true then te σ2 H3 fun y H4 => ∃ acc, H4 D = some (.lst acc) ∧ acc.length < sizeLine ∧ LcH G f H D (i + 1) (upd H4 D (.lst (acc ++ [y]))) else LcH G f H D (i + 1) H3 := by
  obtain ⟨hD, e, ys, hd, t⟩ := p
  refine ht _ fun H3 e3 => ?_
  have hlen : ys.length ≤ i := by
    rw [t.1]
    exact Nat.le_trans (List.length_filter_le _ _) (by rw [List.length_range]; exact Nat.le_refl _)
  cases hf : f i with
  | true =>
    refine iteT (he hf H3 _ e3 fun y H4 e4 hg => ⟨ys, e4 _ _ (e3 _ _ hd), Evl.sz_lt (by omega), hD, Evl.Ex.mut ((e.trans e3).trans e4) hD, ys ++ [y], upd_same, ?_⟩)
    have hy4 := e4 _ _ (e3 _ _ hd)
    rw [List.range_succ, List.filter_append, List.filter_cons, if_pos hf]
    exact (t.mono fun i y h => mu i y H4 D ys _ hy4 (m i y _ _ (e3.trans e4) h)).snoc (mu i y H4 D ys _ hy4 hg)
  | false =>
    refine iteF ⟨hD, e.trans e3, ys, e3 _ _ hd, ?_⟩
    rw [List.range_succ, List.filter_append, List.filter_cons, if_neg (by rw [hf]; decide)]
    show TolF G (_ ++ []) ys H3
    rw [List.append_nil]
    exact t.mono fun i y h => m i y _ _ e3 h
theorem lcLF {G : Nat → V → Hp → Prop} {f : Nat → Bool} {a : Addr} {xs : List V} (m : ∀ i y H1 H2, Ex H1 H2 → G i y H1 → G i y H2) (mu : ∀ i y H1 D acc acc', H1 D = some (.lst acc) → G i y H1 → G i y (upd H1 D (.lst acc'))) (hn : xs.length ≤ 100000) (hx : SqL K H a xs)
    (turn : ∀ i x H', xs[i]? = some x → Ex H H' → g x (wipe σ vs) H' fun σ2 H2 => H2 = H' ∧ wipe σ2 vs = wipe σ vs ∧ (∀ QB : Bool → Hp → Prop, (∀ H3, Ex H' H3 → QB (f i) H3) → tt σ2 H' QB) ∧ (f i = true → ∀ H3 (QV : VK), Ex H' H3 → (∀ y H4, Ex H3 H4 → G i y H4 → QV y H4) → te σ2 H3 QV))
    (mg : ∀ x σ H Q Q', (∀ σ' H', Q σ' H' → Q' σ' H') → g x σ H Q → g x σ H Q')
    (k : ∀ p H2 ys, H p = none → Ex H H2 → H2 p = some (.lst ys) → TolF G ((List.range xs.length).filter f) ys H2 → Q (.ref p) H2) : LcG g tt te vs σ Q (Itl K a) H := by
  intro D hD
  refine lc_list (xs := xs) (LcH G f H D) ⟨hD, Evl.Ex.new hD, [], upd_same, TolF.nil⟩ (fun i H' _ p => ex_l p.2.1 hx) (fun i x H' hi p => ?_) (fun H' p => ?_)
  · refine mg _ _ _ _ _ (fun σ' H'' q => ?_) (turn i x H' hi p.2.1)
    obtain ⟨rfl, q1, q2, q3⟩ := q
    exact ⟨q1, lcH_turn p (List.getElem?_eq_some_iff.mp hi).1 hn m mu q2 q3⟩
  · obtain ⟨a, b, ys, c, d⟩ := p
    exact k D H' ys a b c d
theorem lcTF {G : Nat → V → Hp → Prop} {f : Nat → Bool} {a : Addr} {xs : List V} (m : ∀ i y H1 H2, Ex H1 H2 → G i y H1 → G i y H2) (mu : ∀ i y H1 D acc acc', H1 D = some (.lst acc) → G i y H1 → G i y (upd H1 D (.lst acc'))) (hn : xs.length ≤ 100000) (hx : SqT K H a xs)
    (turn : ∀ i x H', xs[i]? = some x → Ex H H' → g x (wipe σ vs) H' fun σ2 H2 => H2 = H' ∧ wipe σ2 vs = wipe σ vs ∧ (∀ QB : Bool → Hp → Prop, (∀ H3, Ex H' H3 → QB (f i) H3) → tt σ2 H' QB) ∧ (f i = true → ∀ H3 (QV : VK), Ex H' H3 → (∀ y H4, Ex H3 H4 → G i y H4 → QV y H4) → te σ2 H3 QV))
    (mg : ∀ x σ H Q Q', (∀ σ' H', Q σ' H' → Q' σ' H') → g x σ H Q → g x σ H Q')
    (k : ∀ p H2 ys, H p = none → Ex H H2 → H2 p = some (.lst ys) → TolF G ((List.range xs.length).filter f) ys H2 → Q (.ref p) H2) : LcG g tt te vs σ Q (Itt K a) H := by
  intro D hD
  refine lc_tup (xs := xs) (LcH G f H D) ⟨hD, Evl.Ex.new hD, [], upd_same, TolF.nil⟩ (fun i H' _ p => ex_t p.2.1 hx) (fun i x H' hi p => ?_) (fun H' p => ?_)
  · refine mg _ _ _ _ _ (fun σ' H'' q => ?_) (turn i x H' hi p.2.1)
    obtain ⟨rfl, q1, q2, q3⟩ := q
    exact ⟨q1, lcH_turn p (List.getElem?_eq_some_iff.mp hi).1 hn m mu q2 q3⟩
  · obtain ⟨a, b, ys, c, d⟩ := p
    exact k D H' ys a b c d
end
/-! ### _law_sides -/
/-- a new list of three small sides; the hand at a has moved on -/
def spSides (K : PySem.W.Frag) : Sp := fun vs H Q _ => ∃ a c, vs = [.ref a, .int 5] ∧ HandAt H a c ∧ ∀ (s : T3) l H', (∀ i, 1 ≤ s.get i ∧ s.get i ≤ 5) → Off a H H' → HandAt H' a c → H l = none → H' l = some (.lst (vi (T3.l s))) → Q (.ref l) H'
theorem off_fresh {a l : Addr} {H H1 : Hp} (o : Off a H H1) (h : ∃ x, H1 a = some x) (n : H1 l = none) : H l = none := by
  cases q : H l with
  | none => rfl
  | some u =>
    by_cases ha : l = a
    · obtain ⟨x, hx⟩ := h
      rw [ha, hx] at n
      cases n
    · have := o l u ha q
      rw [n] at this
      cases this
theorem three_of {ys : List V} {m : Int} (h : ys.length = 3) (t : ∀ (i : Nat) y, ys[i]? = some y → ∃ n : Int, y = .int n ∧ 1 ≤ n ∧ n ≤ m) : ∃ s : T3, ys = vi (T3.l s) ∧ ∀ i, 1 ≤ s.get i ∧ s.get i ≤ m := by
  match ys, h, t with
  | [a, b, c], _, t =>
    obtain ⟨x, rfl, x1, x2⟩ := t 0 a rfl
    obtain ⟨y, rfl, y1, y2⟩ := t 1 b rfl
    obtain ⟨z, rfl, z1, z2⟩ := t 2 c rfl
    refine ⟨(x, y, z), rfl, fun i => ?_⟩
    unfold T3.get
    split
    · exact ⟨x1, x2⟩
    · split
      · exact ⟨y1, y2⟩
      · exact ⟨z1, z2⟩
theorem C_law_sides (E : Env K mg) : FnC P w K mg base "_law_sides" 3 ["_law_hand_here", "_law_most"] [] (spSides K) := by
  have C_law_take := C_law_take (P := P) (w := w) (base := base) E
  refine .of E.d_law_sides E.g_law_sides sc_law_sides (fun vs H Q E h => ?_) (fun _ _ _ _ _ _ us hl => match us, hl with | [_, _], _ => rfl) (fun cdv A outer s0 H vs Q E' hr h => ?_)
  · obtain ⟨a, c, rfl, _⟩ := h
    rfl
  · obtain ⟨a, c, rfl, hh, q⟩ := h
    refine ⟨_, (pss_cons (ps_if (pt_cmpR op_eq (pe_c C_law_take (hr.mono (by decide)) rfl (pa_cons (pv 0) (pa_cons pe_int pa_nil))) pe_int (nomark _)) (pss_one (ps_ret (pe_lc (own := [("_law_axis", 2)]) rfl sc_law_sides.nd (pi_range1 rfl E.b_range (pa_cons pe_int pa_nil)) (blkOk_by (own := [("_law_axis", 2)]) (N := ["_law_hand_here", "_law_most", "_law_axis"]) (sc := defScope s_law_sides) (by decide +kernel)) (fun _ _ _ _ _ => by exact (pg_cast (pg_name (i := 2) sc_law_sides.nd rfl (by first | exact Or.inl rfl | exact Or.inr rfl)) (by (try simp only [blk_K]); rfl))) (fun _ _ _ _ _ => by exact (pts_cast pts_nil (by (try simp only [blk_K]); rfl))) (fun _ _ _ _ _ => by exact (pe_cast (pe_op op_add pe_int (pe_c C_law_take (hr.mono (by decide)) rfl (pa_cons (pv 0) (pa_cons (pv 1) pa_nil)))) (by (try simp only [blk_K]); rfl)))))) pss_nil)
      (pss_one (ps_ret (pe_lc (own := [("_law_axis", 2)]) rfl sc_law_sides.nd (pi_range1 rfl E.b_range (pa_cons pe_int pa_nil)) (blkOk_by (own := [("_law_axis", 2)]) (N := ["_law_hand_here", "_law_most", "_law_axis"]) (sc := defScope s_law_sides) (by decide +kernel)) (fun _ _ _ _ _ => by exact (pg_cast (pg_name (i := 2) sc_law_sides.nd rfl (by first | exact Or.inl rfl | exact Or.inr rfl)) (by (try simp only [blk_K]); rfl))) (fun _ _ _ _ _ => by exact (pts_cast pts_nil (by (try simp only [blk_K]); rfl))) (fun _ _ _ _ _ => by exact (pe_cast (pe_op op_add pe_int (pe_c C_law_take (hr.mono (by decide)) rfl (pa_cons (pv 0) (pa_cons pe_int pa_nil)))) (by (try simp only [blk_K]); rfl))))))), ?_⟩
    k_all
    refine ⟨a, c, 8, rfl, hh, by omega, by omega, fun r H1 r0 r1 o1 hh1 => ?_⟩
    k_all
    refine if_int (fun h0 => ?_) (fun h0 => ?_)
    · k_all
      refine lcRO (G := fun _ y => ∃ n : Int, y = .int n ∧ 1 ≤ n ∧ n ≤ 5) (n := 3) hh1 (by decide) (fun i H' hi o h => ?_) mg_name (fun l H2 ys nl o2 hh2 l2 hlen ht => ?_)
      · refine ⟨rfl, rfl, fun QV qv => ?_⟩
        k_all
        refine ⟨a, c, 5, rfl, h, by omega, by omega, fun r H1 r0 r1 o1 hh1 => ?_⟩
        k_all
        exact qv _ _ o1 hh1 ⟨_, rfl, by omega, by omega⟩
      · obtain ⟨s, rfl, hs⟩ := three_of hlen ht
        k_all
        refine q s l H2 hs (o1.trans o2) hh2 ?_ l2
        exact off_fresh o1 hh1.some1 nl
    · k_all
      refine lcRO (G := fun _ y => ∃ n : Int, y = .int n ∧ 1 ≤ n ∧ n ≤ 5) (n := 3) hh1 (by decide) (fun i H' hi o h => ?_) mg_name (fun l H2 ys nl o2 hh2 l2 hlen ht => ?_)
      · refine ⟨rfl, rfl, fun QV qv => ?_⟩
        k_all
        refine ⟨a, c, 3, rfl, h, by omega, by omega, fun r H1 r0 r1 o1 hh1 => ?_⟩
        k_all
        exact qv _ _ o1 hh1 ⟨_, rfl, by omega, by omega⟩
      · obtain ⟨s, rfl, hs⟩ := three_of hlen ht
        k_all
        exact q s l H2 hs (o1.trans o2) hh2 (off_fresh o1 hh1.some1 nl) l2
/-! ### _law_couples, _law_common, _law_slope -/
def rowL (m : Nat) (i : Nat) : List (Int × Int) := (List.range m).map fun (j : Nat) => (((1 : Int) + (i : Int)), ((1 : Int) + (j : Int)))
def coupL (m : Nat) : List (Int × Int) := (List.range m).flatMap (rowL m)
theorem rowL_len (m i : Nat) : (rowL m i).length = m := by unfold rowL; rw [List.length_map, List.length_range]
/-- a pair, as a tuple -/
def PairAt (K : PySem.W.Frag) (H : Hp) (v : V) (x : Int × Int) : Prop := ∃ a, v = .ref a ∧ SqT K H a (vi [x.1, x.2])
theorem PairAt.mono {H H' : Hp} {v : V} {x : Int × Int} (h : PairAt K H v x) (e : Ex H H') : PairAt K H' v x := by
  obtain ⟨a, ev, h1⟩ := h
  exact ⟨a, ev, ex_t e h1⟩
theorem PairAt.mu {H : Hp} {l : Addr} {o : HO} {ys : List V} {v : V} {x : Int × Int} (h : PairAt K H v x) (hl : H l = some (.lst ys)) : PairAt K (upd H l o) v x := by
  obtain ⟨a, ev, h1⟩ := h
  exact ⟨a, ev, mu_t h1 hl⟩
def spCouples (K : PySem.W.Frag) : Sp := fun vs H Q _ => vs = [.int 5] ∧ ∀ p H' ys, Ex H H' → H p = none → H' p = some (.lst ys) → Al (PairAt K H') ys (coupL 5) → Q (.ref p) H'
theorem C_law_couples (E : Env K mg) : FnC P w K mg base "_law_couples" 1 ["_law_most"] [] (spCouples K) := by
  refine .of E.d_law_couples E.g_law_couples sc_law_couples (fun vs H Q E h => ?_) (fun _ _ _ _ _ _ us hl => match us, hl with | [_], _ => rfl) (fun cdv A outer s0 H vs Q E' hr h => ?_)
  · obtain ⟨rfl, _⟩ := h
    rfl
  · obtain ⟨rfl, q⟩ := h
    refine ⟨_, (pss_cons (ps_set (i := 1) sc_law_couples.nd rfl (by first | exact Or.inl rfl | exact Or.inr rfl) (pe_lst pa_nil))
      (pss_cons (ps_for PassesOwn.never rfl (pi_range2 rfl E.b_range (pa_cons pe_int (pa_cons (pe_op op_add (pv 0) pe_int) pa_nil))) (pg_name (i := 2) sc_law_couples.nd rfl (by first | exact Or.inl rfl | exact Or.inr rfl)) (pss_one (ps_for PassesOwn.never rfl (pi_range2 rfl E.b_range (pa_cons pe_int (pa_cons (pe_op op_add (pv 0) pe_int) pa_nil))) (pg_name (i := 3) sc_law_couples.nd rfl (by first | exact Or.inl rfl | exact Or.inr rfl)) (pss_one (ps_expr (pe_bm PySem.F.plainAttrs_list PySem.F.slot_list_append PySem.F.type_list_append mt_append (pv 1) (pa_cons (pe_tup (pa_cons (pv 2) (pa_cons (pv 3) pa_nil))) pa_nil)))))))
      (pss_one (ps_ret (pv 1))))), ?_⟩
    k_all
    rename_i l nl H1 e1 l1
    have h5 : (((5 : Int) + 1) - 1).toNat = 5 := by decide
    rw [h5]
    refine for_range (n := 5) (fun i σ H' => ∃ z1 z2 ys, σ = [some (.int 5), some (.ref l), z1, z2] ∧ Ex H H' ∧ H' l = some (.lst ys) ∧ Al (PairAt K H') ys ((List.range i).flatMap (rowL 5))) ⟨_, _, _, rfl, e1, l1, Al.nil⟩ (fun i σ H' hi h => ?_) (fun σ H' h => ?_)
    · obtain ⟨z1, z2, ys, rfl, e, hl, al⟩ := h
      k_all
      rw [h5]
      refine for_range (n := 5) (fun j σ H' => ∃ z2 ys, σ = [some (.int 5), some (.ref l), some (.int (1 + (i : Int))), z2] ∧ Ex H H' ∧ H' l = some (.lst ys) ∧ Al (PairAt K H') ys ((List.range i).flatMap (rowL 5) ++ (rowL 5 i).take j)) ⟨_, _, rfl, e, hl, by rw [List.take_zero, List.append_nil]; exact al⟩ (fun j σ H' hj h => ?_) (fun σ H' h => ?_)
      · obtain ⟨z2, ys, rfl, e, hl, al⟩ := h
        have hlen : ys.length ≤ 1000 := by
          rw [al.1, List.length_append, List.length_flatMap, List.length_take]
          have h1 : ((List.range i).map fun x => (rowL 5 x).length).sum = i * 5 := by
            have : (fun x => (rowL 5 x).length) = fun _ => 5 := by funext x; exact rowL_len 5 x
            rw [this, List.map_const', List.sum_replicate_nat, List.length_range]
          omega
        k_all
        rename_i t nt H2 e2 l2
        refine w_app (e2 _ _ hl) (by omega) ?_
        generalize hG : upd _ _ _ = H3
        have e3 : Ex H H3 := ex_mut hG (e.trans e2) nl
        have l3 := at_of hG
        k_all
        refine ⟨_, _, rfl, e3, l3, ?_⟩
        have hr : (rowL 5 i)[j]? = some ((1 : Int) + (i : Int), (1 : Int) + (j : Int)) := by
          unfold rowL
          rw [List.getElem?_map, List.getElem?_range hj]
          rfl
        rw [List.take_add_one, hr, ← List.append_assoc]
        exact Al.snoc ((al.imp fun _ _ h => h.mono e2).imp fun _ _ h => hG ▸ h.mu (e2 _ _ hl)) (hG ▸ (show PairAt K H2 (.ref t) ((1 : Int) + (i : Int), (1 : Int) + (j : Int)) from ⟨t, rfl, st_at l2⟩).mu (e2 _ _ hl))
      · obtain ⟨z2, ys, rfl, e, hl, al⟩ := h
        refine ⟨_, _, ys, rfl, e, hl, ?_⟩
        have h5' : (rowL 5 i).take 5 = rowL 5 i := List.take_of_length_le (by rw [rowL_len]; exact Nat.le_refl _)
        rw [h5'] at al
        rw [List.range_succ, List.flatMap_append]
        simpa using al
    · obtain ⟨z1, z2, ys, rfl, e, hl, al⟩ := h
      k_all
      exact q l H' ys e nl hl al
end TP

/-! W21 -/
set_option Elab.async false
set_option linter.all false
set_option maxRecDepth 100000
set_option maxHeartbeats 4000000
-- k_mem: a fact of the heap as it is now, from an older one; k_upd: one step of a reading; k_all: as many as go

namespace TP
open PySem PySem.Spec PyProof.Rows L2 LamX
open PySem.W (minOf maxOf Tup DatumOrd Datum)
variable {P : Program} {w : World} {K : PySem.W.Frag} {mg : Str → Option Value} {base : Heap}
/-! ### _law_common -/
def spCommon : Sp := fun vs H Q _ => ∃ x y : Int, vs = [.int x, .int y] ∧ 0 ≤ x ∧ 0 ≤ y ∧ Q (.int ((Nat.gcd x.natAbs y.natAbs : Nat) : Int)) H
theorem gcd_turn {x y : Int} (hx : 0 ≤ x) (hy : 0 < y) : Nat.gcd y.natAbs (x % y).natAbs = Nat.gcd x.natAbs y.natAbs := by
  obtain ⟨a, rfl⟩ := Int.eq_ofNat_of_zero_le hx
  obtain ⟨b, rfl⟩ := Int.eq_ofNat_of_zero_le (Int.le_of_lt hy)
  have e : ((a : Int) % (b : Int)).natAbs = a % b := by
    rw [← Int.natCast_emod]
    rfl
  rw [e, Int.natAbs_natCast, Int.natAbs_natCast, Nat.gcd_comm b, ← Nat.gcd_rec, Nat.gcd_comm]
theorem C_law_common (E : Env K mg) : FnC P w K mg base "_law_common" 1 ["_law_one", "_law_other"] [] spCommon := by
  refine .of E.d_law_common E.g_law_common sc_law_common (fun vs H Q E h => ?_) (fun _ _ _ _ _ _ us hl => match us, hl with | [_, _], _ => rfl) (fun cdv A outer s0 H vs Q E' hr h => ?_)
  · obtain ⟨x, y, rfl, _⟩ := h
    rfl
  · obtain ⟨x, y, rfl, hx, hy, q⟩ := h
    refine ⟨_, (pss_cons (ps_set (i := 0) sc_law_common.nd rfl (by first | exact Or.inl rfl | exact Or.inr rfl) (pe_callB call_abs (by rfl) E.b_abs (by decide +kernel) (pa_cons (pv 0) pa_nil)))
      (pss_cons (ps_set (i := 1) sc_law_common.nd rfl (by first | exact Or.inl rfl | exact Or.inr rfl) (pe_callB call_abs (by rfl) E.b_abs (by decide +kernel) (pa_cons (pv 1) pa_nil)))
      (pss_cons (ps_while PassesOwn.never (pt_cmpR op_gt (pv 1) pe_int (nomark _)) (pss_one (ps_par (i := 0) (j := 1) rfl sc_law_common.nd rfl rfl (by decide) rfl rfl (pa_cons (pv 1) (pa_cons (pe_op op_mod (pe_callTy call_int1 (by rfl) E.b_int (by decide +kernel) (pa_cons (pv 0) pa_nil)) (pv 1)) pa_nil)) (by rfl))))
      (pss_one (ps_ret (pv 0)))))), ?_⟩
    k_all
    have ax : (if x < 0 then -x else x) = x := by split <;> omega
    have ay : (if y < 0 then -y else y) = y := by split <;> omega
    rw [ax, ay]
    refine ⟨fun m σ H' => ∃ a b : Int, m = b.natAbs ∧ σ = [some (.int a), some (.int b)] ∧ 0 ≤ a ∧ 0 ≤ b ∧ H' = H ∧ Nat.gcd a.natAbs b.natAbs = Nat.gcd x.natAbs y.natAbs, ⟨_, x, y, rfl, rfl, hx, hy, rfl, rfl⟩, ?_⟩
    rintro m σ H' ⟨a, b, rfl, rfl, ha, hb, rfl, hg⟩
    k_all
    refine if_dec (fun h => ?_) (fun h => ?_)
    · refine ⟨fun σ' H'' => ∃ m', m' < b.natAbs ∧ ∃ a b : Int, m' = b.natAbs ∧ σ' = [some (.int a), some (.int b)] ∧ 0 ≤ a ∧ 0 ≤ b ∧ H'' = H' ∧ Nat.gcd a.natAbs b.natAbs = Nat.gcd x.natAbs y.natAbs, fun _ _ h => h, ?_⟩
      k_all
      have h1 := Int.emod_nonneg a (show b ≠ 0 by omega)
      have h2 := Int.emod_lt_of_pos a h
      exact ⟨_, (by omega), b, a % b, rfl, rfl, by omega, h1, rfl, by rw [gcd_turn ha h]; exact hg⟩
    · have hb0 : b = 0 := by omega
      subst hb0
      have hga : Nat.gcd a.natAbs (0 : Int).natAbs = a.natAbs := Nat.gcd_zero_right _
      rw [hga] at hg
      k_all
      rw [← hg] at q
      have : ((a.natAbs : Nat) : Int) = a := by omega
      rw [this] at q
      exact q
/-! ### _law_slope -/
def good1 (i : Nat) : Bool := decide (Nat.gcd ((coupL 5).getD i (0, 0)).1.natAbs ((coupL 5).getD i (0, 0)).2.natAbs = 1)
def pool1 : List Nat := (List.range 25).filter good1
def good2 (k : Nat) : Bool := decide (((coupL 5).getD (pool1.getD k 0) (0, 0)).1 < 4) && decide (((coupL 5).getD (pool1.getD k 0) (0, 0)).2 < 4)
def pool2 : List Nat := (List.range 19).filter good2
def PqOk (p q : Int) : Prop := 1 ≤ p ∧ p ≤ 5 ∧ 1 ≤ q ∧ q ≤ 5 ∧ Nat.gcd p.natAbs q.natAbs = 1
theorem pool_ok : ∀ i ∈ pool1, PqOk ((coupL 5).getD i (0, 0)).1 ((coupL 5).getD i (0, 0)).2 := by
  have h : pool1.all (fun i => decide (1 ≤ ((coupL 5).getD i (0, 0)).1) && decide (((coupL 5).getD i (0, 0)).1 ≤ 5) && decide (1 ≤ ((coupL 5).getD i (0, 0)).2) && decide (((coupL 5).getD i (0, 0)).2 ≤ 5) && decide (Nat.gcd ((coupL 5).getD i (0, 0)).1.natAbs ((coupL 5).getD i (0, 0)).2.natAbs = 1)) = true := by decide +kernel
  intro i hi
  have := List.all_eq_true.mp h i hi
  simp only [Bool.and_eq_true, decide_eq_true_eq] at this
  obtain ⟨⟨⟨⟨a, b⟩, c⟩, d⟩, e⟩ := this
  exact ⟨a, b, c, d, e⟩
theorem pool1_len : pool1.length = 19 := by decide +kernel
theorem pool2_pos : 0 < pool2.length := by decide +kernel
def spSlopeL (K : PySem.W.Frag) : Sp := fun vs H Q _ => ∃ a c, vs = [.ref a, .int 5] ∧ HandAt H a c ∧ ∀ p q v H', PqOk p q → Off a H H' → HandAt H' a c → PairAt K H' v (p, q) → Q v H'
theorem PairAt.off {H H' : Hp} {a : Addr} {v : V} {x : Int × Int} (h : PairAt K H v x) (o : Off a H H') (hl : ∃ ys, H a = some (.lst ys)) : PairAt K H' v x := by
  obtain ⟨b, ev, h1⟩ := h
  exact ⟨b, ev, off_t o hl h1⟩
theorem C_law_slope (E : Env K mg) : FnC P w K mg base "_law_slope" 3 ["_law_hand_here", "_law_most"] [] (spSlopeL K) := by
  have C_law_take := C_law_take (P := P) (w := w) (base := base) E
  have C_law_couples := C_law_couples (P := P) (w := w) (base := base) E
  have C_law_common := C_law_common (P := P) (w := w) (base := base) E
  refine .of E.d_law_slope E.g_law_slope sc_law_slope (fun vs H Q E h => ?_) (fun _ _ _ _ _ _ us hl => match us, hl with | [_, _], _ => rfl) (fun cdv A outer s0 H vs Q E' hr h => ?_)
  · obtain ⟨a, c, rfl, _⟩ := h
    rfl
  · obtain ⟨a, c, rfl, hh, k⟩ := h
    refine ⟨_, (pss_cons (ps_setLc (i := 2) (own := [("_law_p", 3), ("_law_q", 4)]) rfl sc_law_slope.nd rfl rfl (sw_true rfl rfl rfl (by decide +kernel)) (pi_list (pe_c C_law_couples (hr.mono (by decide)) rfl (pa_cons (pv 1) pa_nil))) (blkOk_by (own := [("_law_p", 3), ("_law_q", 4)]) (N := ["_law_hand_here", "_law_most", "_law_pool", "_law_p", "_law_q", "_law_couple"]) (sc := defScope s_law_slope) (by decide +kernel)) (fun _ _ _ _ _ => by exact (pg_cast (pg_tup (n := 2) rfl (pgs_cons (pg_name (i := 3) sc_law_slope.nd rfl (by first | exact Or.inl rfl | exact Or.inr rfl)) (pgs_cons (pg_name (i := 4) sc_law_slope.nd rfl (by first | exact Or.inl rfl | exact Or.inr rfl)) pgs_nil))) (by (try simp only [blk_K]); rfl))) (fun _ _ _ _ _ => by exact (pts_cast (pts_one (pt_cmpR op_eq (pe_c C_law_common (hr.mono (by decide)) rfl (pa_cons (pv 3) (pa_cons (pv 4) pa_nil))) pe_int (nomark _))) (by (try simp only [blk_K]); rfl))) (fun _ _ _ _ _ => by exact (pe_cast (pe_tup (pa_cons (pv 3) (pa_cons (pv 4) pa_nil))) (by (try simp only [blk_K]); rfl))))
      (pss_cons (ps_if (pt_cmpR op_eq (pe_c C_law_take (hr.mono (by decide)) rfl (pa_cons (pv 0) (pa_cons pe_int pa_nil))) pe_int (nomark _)) (pss_one (ps_ret (pe_ix ix_list (pv 2) (pe_c C_law_take (hr.mono (by decide)) rfl (pa_cons (pv 0) (pa_cons (pe_callB call_len_seq (by rfl) E.b_len PySem.boot_len (pa_cons (pv 2) pa_nil)) pa_nil))) (fun _ _ => rfl)))) pss_nil)
      (pss_cons (ps_setLc (i := 2) (own := [("_law_couple", 5)]) rfl sc_law_slope.nd rfl rfl (sw_true rfl rfl rfl (by decide +kernel)) (pi_list (pv 2)) (blkOk_by (own := [("_law_couple", 5)]) (N := ["_law_hand_here", "_law_most", "_law_pool", "_law_p", "_law_q", "_law_couple"]) (sc := defScope s_law_slope) (by decide +kernel)) (fun _ _ _ _ _ => by exact (pg_cast (pg_name (i := 5) sc_law_slope.nd rfl (by first | exact Or.inl rfl | exact Or.inr rfl)) (by (try simp only [blk_K]); rfl))) (fun _ _ _ _ _ => by exact (pts_cast (pts_one (PW.pt (pw_and (pt_cmpR op_lt (pe_ix ix_tup (pv 5) pe_int (fun _ _ => rfl)) pe_int (nomark _)) (pw_and1 (pt_cmpR op_lt (pe_ix ix_tup (pv 5) pe_int (fun _ _ => rfl)) pe_int (nomark _)))))) (by (try simp only [blk_K]); rfl))) (fun _ _ _ _ _ => by exact (pe_cast (pv 5) (by (try simp only [blk_K]); rfl))))
      (pss_one (ps_ret (pe_ix ix_list (pv 2) (pe_c C_law_take (hr.mono (by decide)) rfl (pa_cons (pv 0) (pa_cons (pe_callB call_len_seq (by rfl) E.b_len PySem.boot_len (pa_cons (pv 2) pa_nil)) pa_nil))) (fun _ _ => rfl))))))), ?_⟩
    k_all
    refine ⟨rfl, fun l0 H1 ys0 e1 nl0 l1 al => ?_⟩
    have hl25 : ys0.length = 25 := by rw [al.1]; rfl
    k_all
    refine w_itL (sl_at l1) ?_
    have hc1 : ∀ (i : Nat) v, ys0[i]? = some v → i < 25 ∧ PairAt K H1 v ((coupL 5).getD i (0, 0)) := fun i v h => by
      have hi := (List.getElem?_eq_some_iff.mp h).1
      have hx : (coupL 5)[i]? = some ((coupL 5).getD i (0, 0)) := by
        have : i < (coupL 5).length := by rw [← al.1]; exact hi
        rw [List.getD_eq_getElem?_getD, List.getElem?_eq_getElem this]
        rfl
      exact ⟨by omega, al.2 i v _ h hx⟩
    refine lcLF (K := K) (xs := ys0) (f := good1) (G := fun i y H => PairAt K H y ((coupL 5).getD i (0, 0))) (fun i y H1 H2 e h => h.mono e) (fun i y H1 D acc acc' hD h => h.mu hD) (by omega) (sl_at l1) (fun i x H2 hi e2 => ?_) mg_two (fun pl H2 ys1 npl e2 l2 t1 => ?_)
    · obtain ⟨hi25, xa, rfl, hxa⟩ := hc1 i x hi
      have hxa2 := ex_t e2 hxa
      generalize hx : (coupL 5).getD i (0, 0) = x at hxa2
      have hcl : 0 ≤ x.1 ∧ 0 ≤ x.2 := by
        have hall : (coupL 5).all (fun x => decide (0 ≤ x.1) && decide (0 ≤ x.2)) = true := by decide +kernel
        have hlen : i < (coupL 5).length := by rw [← al.1]; omega
        have hm : x ∈ coupL 5 := by
          rw [← hx, List.getD_eq_getElem?_getD, List.getElem?_eq_getElem hlen]
          exact List.getElem_mem hlen
        have := List.all_eq_true.mp hall x hm
        simpa using this
      have hg : good1 i = decide (Nat.gcd x.1.natAbs x.2.natAbs = 1) := by unfold good1; rw [hx]
      k_all
      refine ⟨rfl, rfl, fun QB qb => ?_, fun _ H3 QV e3 qv => ?_⟩
      · k_all
        refine ⟨_, _, rfl, hcl.1, hcl.2, ?_⟩
        k_all
        have := qb H2 (Evl.Ex.refl _)
        rw [hg] at this
        have e : decide (V.int ((Nat.gcd x.1.natAbs x.2.natAbs : Nat) : Int) = V.int 1) = decide (Nat.gcd x.1.natAbs x.2.natAbs = 1) := decide_eq_decide.mpr ⟨fun h => by have := V.int.inj h; omega, fun h => by rw [h]; rfl⟩
        rw [e]
        exact this
      · k_all
        exact qv _ _ (by assumption) ⟨_, rfl, st_at (by assumption)⟩
    · rw [hl25] at t1
      have t1 : TolF (fun i y H => PairAt K H y ((coupL 5).getD i (0, 0))) pool1 ys1 H2 := t1
      have hy1 : ys1.length = 19 := by rw [t1.1]; exact pool1_len
      have hh2 := hh.mono (e1.trans e2)
      have item : ∀ (k : Nat) y, ys1[k]? = some y → PairAt K H2 y ((coupL 5).getD (pool1.getD k 0) (0, 0)) ∧ pool1.getD k 0 ∈ pool1 := fun k y h => by
        have hk := (List.getElem?_eq_some_iff.mp h).1
        have hk2 : k < pool1.length := by rw [← t1.1]; exact hk
        have hp : pool1[k]? = some (pool1.getD k 0) := by
          rw [List.getD_eq_getElem?_getD, List.getElem?_eq_getElem hk2]
          rfl
        exact ⟨t1.2 k y _ h hp, List.mem_of_getElem? hp⟩
      k_all
      refine ⟨a, c, 8, rfl, hh2, by omega, by omega, fun r H3 r0 r1 o3 hh3 => ?_⟩
      have npa : pl ≠ a := ne_new npl (hh.mono e1).some1
      have l3 := o3 _ _ npa l2
      have o03 : Off a H H3 := (Off.of (e1.trans e2)).trans o3
      k_all
      refine if_int (fun h0 => ?_) (fun h0 => ?_)
      · k_all
        refine w_lenL (sl_at l3) ?_
        k_all
        refine ⟨a, c, _, rfl, hh3, by omega, by omega, fun r H4 r0 r1 o4 hh4 => ?_⟩
        have l4 := o4 _ _ npa l3
        have hr : r.toNat < ys1.length := by omega
        have hy : ys1[r.toNat]? = some ys1[r.toNat] := List.getElem?_eq_getElem hr
        have hat : atI ys1 r = some ys1[r.toNat] := by
          have h := atI_nat hy
          rw [Int.toNat_of_nonneg r0] at h
          exact h
        obtain ⟨hp, hm⟩ := item _ _ hy
        refine w_ixL (sl_at l4) hat ?_
        exact k _ _ _ _ (pool_ok _ hm) (o03.trans o4) hh4 ((hp.off o3 hh2.lst).off o4 hh3.lst)
      · k_all
        refine w_itL (sl_at l3) ?_
        refine lcLF (K := K) (xs := ys1) (f := good2) (G := fun k y H => PairAt K H y ((coupL 5).getD (pool1.getD k 0) (0, 0))) (fun i y H1 H2 e h => h.mono e) (fun i y H1 D acc acc' hD h => h.mu hD) (by omega) (sl_at l3) (fun i x H4 hi e4 => ?_) mg_name (fun pl2 H4 ys2 npl2 e4 l4 t2 => ?_)
        · obtain ⟨hp, hm⟩ := item i x hi
          obtain ⟨xa, rfl, hxa⟩ := (hp.off o3 hh2.lst).mono e4
          have hg : good2 i = (decide (((coupL 5).getD (pool1.getD i 0) (0, 0)).1 < 4) && decide (((coupL 5).getD (pool1.getD i 0) (0, 0)).2 < 4)) := rfl
          generalize (coupL 5).getD (pool1.getD i 0) (0, 0) = x at hxa hg
          refine ⟨rfl, rfl, fun QB qb => ?_, fun _ H5 QV e5 qv => ?_⟩
          · k_all
            refine if_dec (fun h1 => ?_) (fun h1 => ?_)
            · k_all
              have := qb H4 (Evl.Ex.refl _)
              rw [hg, decide_eq_true h1, Bool.true_and] at this
              exact this
            · have := qb H4 (Evl.Ex.refl _)
              rw [hg, decide_eq_false h1, Bool.false_and] at this
              exact this
          · k_all
            exact qv _ _ (Evl.Ex.refl _) ⟨xa, rfl, ex_t e5 hxa⟩
        · rw [hy1] at t2
          have t2 : TolF (fun k y H => PairAt K H y ((coupL 5).getD (pool1.getD k 0) (0, 0))) pool2 ys2 H4 := t2
          have hpos := pool2_pos
          have hy2 : ys2.length = pool2.length := t2.1
          have hsm : pool2.length ≤ 19 := Nat.le_trans (List.length_filter_le _ _) (by rw [List.length_range]; exact Nat.le_refl _)
          have hh4 := hh3.mono e4
          k_all
          refine w_lenL (sl_at l4) ?_
          k_all
          refine ⟨a, c, _, rfl, hh4, by omega, by omega, fun r H5 r0 r1 o5 hh5 => ?_⟩
          have npa2 : pl2 ≠ a := ne_new npl2 hh3.some1
          have l5 := o5 _ _ npa2 l4
          have hr : r.toNat < ys2.length := by omega
          have hy : ys2[r.toNat]? = some ys2[r.toNat] := List.getElem?_eq_getElem hr
          have hat : atI ys2 r = some ys2[r.toNat] := by
            have h := atI_nat hy
            rw [Int.toNat_of_nonneg r0] at h
            exact h
          have hk2 : r.toNat < pool2.length := by omega
          have hp2 : pool2[r.toNat]? = some pool2[r.toNat] := List.getElem?_eq_getElem hk2
          have hp := t2.2 _ _ _ hy hp2
          have hm2 : pool2[r.toNat] < 19 := by
            have := (List.mem_filter.mp (List.getElem_mem hk2)).1
            exact List.mem_range.mp this
          have hm : pool1.getD pool2[r.toNat] 0 ∈ pool1 := by
            have hlt : pool2[r.toNat] < pool1.length := by rw [pool1_len]; exact hm2
            rw [List.getD_eq_getElem?_getD, List.getElem?_eq_getElem hlt]
            exact List.getElem_mem hlt
          refine w_ixL (sl_at l5) hat ?_
          exact k _ _ _ _ (pool_ok _ hm) ((o03.trans (Off.of e4)).trans o5) hh5 (hp.off o5 hh4.lst)
end TP

/-! W22 -/
set_option Elab.async false
set_option linter.all false
set_option maxRecDepth 100000
set_option maxHeartbeats 4000000
-- k_mem: a fact of the heap as it is now, from an older one; k_upd: one step of a reading; k_all: as many as go

namespace TP
open PySem PySem.Spec PyProof.Rows L2 LamX
open PySem.W (minOf maxOf Tup DatumOrd Datum)
variable {P : Program} {w : World} {K : PySem.W.Frag} {mg : Str → Option Value} {base : Heap}
/-! ### _law_orders, _law_how -/
def TripAt (K : PySem.W.Frag) (H : Hp) (v : V) (d : T3) : Prop := ∃ a, v = .ref a ∧ SqT K H a (vi (T3.l d))
theorem TripAt.mono {H H' : Hp} {v : V} {d : T3} (h : TripAt K H v d) (e : Ex H H') : TripAt K H' v d := by
  obtain ⟨a, ev, h1⟩ := h
  exact ⟨a, ev, ex_t e h1⟩
theorem TripAt.mu {H : Hp} {l : Addr} {o : HO} {ys : List V} {v : V} {d : T3} (h : TripAt K H v d) (hl : H l = some (.lst ys)) : TripAt K (upd H l o) v d := by
  obtain ⟨a, ev, h1⟩ := h
  exact ⟨a, ev, mu_t h1 hl⟩
theorem TripAt.off {H H' : Hp} {a : Addr} {v : V} {d : T3} (h : TripAt K H v d) (o : Off a H H') (hl : ∃ ys, H a = some (.lst ys)) : TripAt K H' v d := by
  obtain ⟨b, ev, h1⟩ := h
  exact ⟨b, ev, off_t o hl h1⟩
def spOrders (K : PySem.W.Frag) : Sp := fun vs H Q _ => vs = [] ∧ ∀ p H' ys, Ex H H' → H p = none → H' p = some (.lst ys) → Al (TripAt K H') ys allOrders → Q (.ref p) H'
theorem C_law_orders (E : Env K mg) : FnC P w K mg base "_law_orders" 1 [] [] (spOrders K) := by
  refine .of E.d_law_orders E.g_law_orders sc_law_orders (fun vs H Q E h => ?_) (fun _ _ _ _ _ _ us hl => match us, hl with | [], _ => rfl) (fun cdv A outer s0 H vs Q E' hr h => ?_)
  · obtain ⟨rfl, _⟩ := h
    rfl
  · obtain ⟨rfl, q⟩ := h
    refine ⟨_, (pss_one (ps_ret (pe_lst (pa_cons (pe_tup (pa_cons pe_int (pa_cons pe_int (pa_cons pe_int pa_nil)))) (pa_cons (pe_tup (pa_cons pe_int (pa_cons pe_int (pa_cons pe_int pa_nil)))) (pa_cons (pe_tup (pa_cons pe_int (pa_cons pe_int (pa_cons pe_int pa_nil)))) (pa_cons (pe_tup (pa_cons pe_int (pa_cons pe_int (pa_cons pe_int pa_nil)))) (pa_cons (pe_tup (pa_cons pe_int (pa_cons pe_int (pa_cons pe_int pa_nil)))) (pa_cons (pe_tup (pa_cons pe_int (pa_cons pe_int (pa_cons pe_int pa_nil)))) pa_nil))))))))), ?_⟩
    k_all
    rename_i a1 n1 H1 e1 l1 a2 n2 H2 e2 l2 a3 n3 H3 e3 l3 a4 n4 H4 e4 l4 a5 n5 H5 e5 l5 a6 n6 H6 e6 l6 p np H7 e7 l7
    have f6 := e7
    have f5 := e6.trans f6
    have f4 := e5.trans f5
    have f3 := e4.trans f4
    have f2 := e3.trans f3
    have f1 := e2.trans f2
    refine q p H7 _ (e1.trans f1) (Evl.fresh_back (((((e1.trans e2).trans e3).trans e4).trans e5).trans e6) np) l7 ⟨rfl, fun i v x h1 h2 => ?_⟩
    match i, h1, h2 with
    | 0, h1, h2 => cases h1; cases h2; exact ⟨a1, rfl, st_at (f1 _ _ l1)⟩
    | 1, h1, h2 => cases h1; cases h2; exact ⟨a2, rfl, st_at (f2 _ _ l2)⟩
    | 2, h1, h2 => cases h1; cases h2; exact ⟨a3, rfl, st_at (f3 _ _ l3)⟩
    | 3, h1, h2 => cases h1; cases h2; exact ⟨a4, rfl, st_at (f4 _ _ l4)⟩
    | 4, h1, h2 => cases h1; cases h2; exact ⟨a5, rfl, st_at (f5 _ _ l5)⟩
    | 5, h1, h2 => cases h1; cases h2; exact ⟨a6, rfl, st_at (f6 _ _ l6)⟩
def spHowL (K : PySem.W.Frag) : Sp := fun vs H Q _ => ∃ a c, vs = [.ref a] ∧ HandAt H a c ∧ ∀ h v H', HowOk h → Off a H H' → HandAt H' a c → HowAt K H' v h → Q v H'
theorem signs_of {ys : List V} (h : ys.length = 3) (t : ∀ (i : Nat) y, ys[i]? = some y → y = .int 1 ∨ y = .int (-1)) : ∃ s : T3, ys = vi (T3.l s) ∧ s ∈ allSigns := by
  match ys, h, t with
  | [a, b, c], _, t =>
    rcases t 0 a rfl with rfl | rfl <;> rcases t 1 b rfl with rfl | rfl <;> rcases t 2 c rfl with rfl | rfl
    · exact ⟨(1, 1, 1), rfl, by decide⟩
    · exact ⟨(1, 1, -1), rfl, by decide⟩
    · exact ⟨(1, -1, 1), rfl, by decide⟩
    · exact ⟨(1, -1, -1), rfl, by decide⟩
    · exact ⟨(-1, 1, 1), rfl, by decide⟩
    · exact ⟨(-1, 1, -1), rfl, by decide⟩
    · exact ⟨(-1, -1, 1), rfl, by decide⟩
    · exact ⟨(-1, -1, -1), rfl, by decide⟩
theorem C_law_how (E : Env K mg) : FnC P w K mg base "_law_how" 3 ["_law_hand_here"] [] (spHowL K) := by
  have C_law_take := C_law_take (P := P) (w := w) (base := base) E
  have C_law_orders := C_law_orders (P := P) (w := w) (base := base) E
  refine .of E.d_law_how E.g_law_how sc_law_how (fun vs H Q E h => ?_) (fun _ _ _ _ _ _ us hl => match us, hl with | [_], _ => rfl) (fun cdv A outer s0 H vs Q E' hr h => ?_)
  · obtain ⟨a, c, rfl, _⟩ := h
    rfl
  · obtain ⟨a, c, rfl, hh, q⟩ := h
    refine ⟨_, (pss_cons (ps_set (i := 1) sc_law_how.nd rfl (by first | exact Or.inl rfl | exact Or.inr rfl) (pe_ix ix_list (pe_c0 C_law_orders (hr.mono (by decide)) rfl) (pe_c C_law_take (hr.mono (by decide)) rfl (pa_cons (pv 0) (pa_cons pe_int pa_nil))) (fun _ _ => rfl)))
      (pss_one (ps_ret (pe_tup (pa_cons (pv 1) (pa_cons (pe_callTy call_tuple_of (by rfl) E.b_tuple (by decide +kernel) (pa_cons (pe_lc (own := [("_law_axis", 2)]) rfl sc_law_how.nd (pi_range1 rfl E.b_range (pa_cons pe_int pa_nil)) (blkOk_by (own := [("_law_axis", 2)]) (N := ["_law_hand_here", "_law_order", "_law_axis"]) (sc := defScope s_law_how) (by decide +kernel)) (fun _ _ _ _ _ => by exact (pg_cast (pg_name (i := 2) sc_law_how.nd rfl (by first | exact Or.inl rfl | exact Or.inr rfl)) (by (try simp only [blk_K]); rfl))) (fun _ _ _ _ _ => by exact (pts_cast pts_nil (by (try simp only [blk_K]); rfl))) (fun _ _ _ _ _ => by exact (pe_cast (pe_op op_sub pe_int (pe_op op_mul pe_int (pe_c C_law_take (hr.mono (by decide)) rfl (pa_cons (pv 0) (pa_cons pe_int pa_nil))))) (by (try simp only [blk_K]); rfl)))) pa_nil)) pa_nil)))))), ?_⟩
    k_all
    refine ⟨rfl, fun lo H1 ys e1 nlo l1 al => ?_⟩
    have nloa : lo ≠ a := ne_new nlo hh.some1
    k_all
    refine ⟨a, c, 6, rfl, hh.mono e1, by omega, by omega, fun r H2 r0 r1 o2 hh2 => ?_⟩
    have l2 := o2 _ _ nloa l1
    have hlen : ys.length = 6 := al.1
    have hr : r.toNat < ys.length := by omega
    have hy : ys[r.toNat]? = some ys[r.toNat] := List.getElem?_eq_getElem hr
    have hat : atI ys r = some ys[r.toNat] := by
      have h := atI_nat hy
      rw [Int.toNat_of_nonneg r0] at h
      exact h
    obtain ⟨d, hd, hta⟩ := al.atv hy
    have hta2 := hta.off o2 (hh.mono e1).lst
    refine w_ixL (sl_at l2) hat ?_
    obtain ⟨oa, eo, hoa⟩ := hta2
    rw [eo]
    k_all
    refine lcRO (G := fun _ y => y = .int 1 ∨ y = .int (-1)) (n := 3) hh2 (by decide) (fun i H' hi o h => ?_) mg_name (fun l H3 ys3 nl o3 hh3 l3 hlen3 ht => ?_)
    · refine ⟨rfl, rfl, fun QV qv => ?_⟩
      k_all
      refine ⟨a, c, 2, rfl, h, by omega, by omega, fun r H1 r0 r1 o1 hh1 => ?_⟩
      k_all
      refine qv _ _ o1 hh1 ?_
      rcases (show r = 0 ∨ r = 1 by omega) with rfl | rfl
      · exact .inl rfl
      · exact .inr rfl
    · obtain ⟨s, rfl, hs⟩ := signs_of hlen3 ht
      k_all
      refine w_tupL (sl_at l3) fun t nt => ?_
      generalize hG : upd _ _ _ = H4
      have e4 := ex_of hG nt
      have l4 := at_of hG
      k_all
      rename_i p np H5 e5 l5
      refine q ⟨d, s⟩ _ H5 ⟨List.mem_of_getElem? hd, hs⟩ ((((Off.of e1).trans o2).trans o3).trans (Off.of (e4.trans e5))) ((hh3.mono e4).mono e5) ⟨p, oa, t, rfl, st_at l5, ?_, st_at (e5 _ _ l4)⟩
      exact ex_t (e4.trans e5) (off_t o3 hh2.lst hoa)
/-! ### _law_world -/
def WorldOk (s : T3) (p q : Int) : Prop := (∀ i, 1 ≤ s.get i ∧ s.get i ≤ 5) ∧ PqOk p q ∧ (p + q) * (s.1 + s.2.1 + s.2.2) ≤ 100
def spWorld (K : PySem.W.Frag) : Sp := fun vs H Q _ => ∃ a c, vs = [.ref a, .int 5, .int 5] ∧ HandAt H a c ∧ ∀ s p q l sl vp H', WorldOk s p q → Off a H H' → HandAt H' a c → H' l = some (.lst [.ref sl, vp]) → H' sl = some (.lst (vi (T3.l s))) → sl ≠ a → PairAt K H' vp (p, q) → Q (.ref l) H'
theorem pq_nine {p q : Int} (h : PqOk p q) : p + q ≤ 9 := by
  obtain ⟨p1, p2, q1, q2, g⟩ := h
  rcases Int.lt_or_le 9 (p + q) with h | h
  · have e1 : p = 5 := by omega
    have e2 : q = 5 := by omega
    subst e1
    subst e2
    exact absurd g (by decide)
  · exact h
theorem C_law_world (E : Env K mg) : FnC P w K mg base "_law_world" 4 ["_law_hand_here", "_law_most", "_law_steep"] [] (spWorld K) := by
  have C_law_sides := C_law_sides (P := P) (w := w) (base := base) E
  have C_law_slope := C_law_slope (P := P) (w := w) (base := base) E
  refine .of E.d_law_world E.g_law_world sc_law_world (fun vs H Q E h => ?_) (fun _ _ _ _ _ _ us hl => match us, hl with | [_, _, _], _ => rfl) (fun cdv A outer s0 H vs Q E' hr h => ?_)
  · obtain ⟨a, c, rfl, _⟩ := h
    rfl
  · obtain ⟨a, c, rfl, hh, k⟩ := h
    refine ⟨_, (pss_cons (ps_set (i := 3) sc_law_world.nd rfl (by first | exact Or.inl rfl | exact Or.inr rfl) (pe_c C_law_sides (hr.mono (by decide)) rfl (pa_cons (pv 0) (pa_cons (pv 1) pa_nil))))
      (pss_cons (ps_set (i := 4) sc_law_world.nd rfl (by first | exact Or.inl rfl | exact Or.inr rfl) (pe_c C_law_slope (hr.mono (by decide)) rfl (pa_cons (pv 0) (pa_cons (pv 2) pa_nil))))
      (pss_cons (ps_if (pt_cmpR op_gt (pe_op op_mul (pe_op op_add (pe_ix ix_tup (pv 4) pe_int (fun _ _ => rfl)) (pe_ix ix_tup (pv 4) pe_int (fun _ _ => rfl))) (pe_callB (cr_sum rfl) (by rfl) E.b_sum (by decide +kernel) (pa_cons (pv 3) pa_nil))) pe_int (nomark _)) (pss_one (ps_setLc (i := 3) (own := [("_law_side", 5)]) rfl sc_law_world.nd rfl rfl (sw_true rfl rfl rfl (by decide +kernel)) (pi_list (pv 3)) (blkOk_by (own := [("_law_side", 5)]) (N := ["_law_hand_here", "_law_most", "_law_steep", "_law_sides_here", "_law_slope_here", "_law_side"]) (sc := defScope s_law_world) (by decide +kernel)) (fun _ _ _ _ _ => by exact (pg_cast (pg_name (i := 5) sc_law_world.nd rfl (by first | exact Or.inl rfl | exact Or.inr rfl)) (by (try simp only [blk_K]); rfl))) (fun _ _ _ _ _ => by exact (pts_cast pts_nil (by (try simp only [blk_K]); rfl))) (fun _ _ _ _ _ => by exact (pe_cast (pe_callB (call_min2 rfl) (by rfl) E.b_min (by decide +kernel) (pa_cons (pv 5) (pa_cons pe_int pa_nil))) (by (try simp only [blk_K]); rfl))))) pss_nil)
      (pss_one (ps_ret (pe_lst (pa_cons (pv 3) (pa_cons (pv 4) pa_nil)))))))), ?_⟩
    k_all
    refine ⟨a, c, rfl, hh, fun s sl H1 hs o1 hh1 nsl l1 => ?_⟩
    have nsa : sl ≠ a := ne_new nsl hh.some1
    k_all
    refine ⟨a, c, rfl, hh1, fun p q vp H2 hpq o2 hh2 ⟨pa, ep, hpa⟩ => ?_⟩
    subst ep
    have l2 := o2 _ _ nsa l1
    obtain ⟨p1, p2, q1, q2, g⟩ := hpq
    have hnine := pq_nine ⟨p1, p2, q1, q2, g⟩
    k_all
    refine ⟨sl, T3.l s, rfl, sl_at l2, ?_⟩
    have hsum : (T3.l s).sum = s.1 + s.2.1 + s.2.2 := by
      show s.1 + (s.2.1 + (s.2.2 + 0)) = _
      omega
    rw [hsum]
    k_all
    have s0' := hs 0
    have s1' := hs 1
    have s2' := hs 2
    have g0 : s.get 0 = s.1 := rfl
    have g1 : s.get 1 = s.2.1 := rfl
    have g2 : s.get 2 = s.2.2 := rfl
    refine if_dec (fun h => ?_) (fun h => ?_)
    · k_all
      refine w_itL (sl_at l2) ?_
      let cap : Int → Int := fun x => if (3 : Int) < x then 3 else x
      have hcap : ∀ x : Int, 1 ≤ x → 1 ≤ cap x ∧ cap x ≤ 3 := fun x hx => by
        show 1 ≤ (if (3 : Int) < x then 3 else x) ∧ (if (3 : Int) < x then 3 else x) ≤ 3
        split <;> omega
      refine lcL (K := K) (xs := vi (T3.l s)) (G := fun i y _ => (vi (T3.l (cap s.1, cap s.2.1, cap s.2.2)))[i]? = some y) (fun i y H1 H2 e h => h) (fun i y H1 D acc acc' hD h => h) (by show 3 ≤ 100000; decide) (sl_at l2) (fun i x H3 hi e3 => ?_) mg_name (fun l H3 zs nl e3 l3 told => ?_)
      · refine ⟨rfl, rfl, fun QV qv => ?_⟩
        match i, hi with
        | 0, hi =>
          cases (Option.some.inj hi)
          k_all
          refine ⟨_, _, rfl, qv _ _ (Evl.Ex.refl _) rfl⟩
        | 1, hi =>
          cases (Option.some.inj hi)
          k_all
          refine ⟨_, _, rfl, qv _ _ (Evl.Ex.refl _) rfl⟩
        | 2, hi =>
          cases (Option.some.inj hi)
          k_all
          refine ⟨_, _, rfl, qv _ _ (Evl.Ex.refl _) rfl⟩
      · have hz : zs = vi (T3.l (cap s.1, cap s.2.1, cap s.2.2)) := by
          have h3 : zs.length = 3 := told.1
          match zs, h3, told.2 with
          | [a, b, c], _, t =>
            have t0 := t 0 a rfl
            have t1 := t 1 b rfl
            have t2 := t 2 c rfl
            cases t0
            cases t1
            cases t2
            rfl
        subst hz
        have c0 := hcap s.1 (by omega)
        have c1 := hcap s.2.1 (by omega)
        have c2 := hcap s.2.2 (by omega)
        k_all
        rename_i lw nlw H4 e4 l4
        refine k (cap s.1, cap s.2.1, cap s.2.2) p q lw l (.ref pa) H4 ⟨fun i => ?_, ⟨p1, p2, q1, q2, g⟩, ?_⟩ ((o1.trans o2).trans (Off.of (e3.trans e4))) ((hh2.mono e3).mono e4) l4 (e4 _ _ l3) ?_ ⟨pa, rfl, ex_t (e3.trans e4) hpa⟩
        · show 1 ≤ T3.get (cap s.1, cap s.2.1, cap s.2.2) i ∧ T3.get (cap s.1, cap s.2.1, cap s.2.2) i ≤ 5
          unfold T3.get
          split
          · exact ⟨c0.1, Int.le_trans c0.2 (by decide)⟩
          · split
            · exact ⟨c1.1, Int.le_trans c1.2 (by decide)⟩
            · exact ⟨c2.1, Int.le_trans c2.2 (by decide)⟩
        · show (p + q) * (cap s.1 + cap s.2.1 + cap s.2.2) ≤ 100
          have h9 : (p + q) * (cap s.1 + cap s.2.1 + cap s.2.2) ≤ 9 * 9 := Int.mul_le_mul hnine (by omega) (by omega) (by omega)
          omega
        · exact ne_new nl hh2.some1
    · k_all
      rename_i lw nlw H4 e4 l4
      have hle : (p + q) * (s.1 + s.2.1 + s.2.2) ≤ 100 := by
        rcases Int.lt_or_le 100 ((p + q) * (s.1 + s.2.1 + s.2.2)) with h' | h'
        · exact absurd h' h
        · exact h'
      exact k s p q lw sl (.ref pa) H4 ⟨hs, ⟨p1, p2, q1, q2, g⟩, hle⟩ ((o1.trans o2).trans (Off.of e4)) (hh2.mono e4) l4 (e4 _ _ l2) nsa ⟨pa, rfl, ex_t e4 hpa⟩
/-! ### _law_keeps, _law_led_slope -/
def spKeepsL (K : PySem.W.Frag) : Sp := fun vs H Q _ => ∃ v h, vs = [v] ∧ HowAt K H v h ∧ HowOk h ∧ ∀ H', Ex H H' → Q (.bl (keepsM h)) H'
theorem C_law_keeps (E : Env K mg) : FnC P w K mg base "_law_keeps" 1 ["_law_how_here"] [] (spKeepsL K) := by
  refine .of E.d_law_keeps E.g_law_keeps sc_law_keeps (fun vs H Q E h => ?_) (fun _ _ _ _ _ _ us hl => match us, hl with | [_], _ => rfl) (fun cdv A outer s0 H vs Q E' hr h => ?_)
  · obtain ⟨v, h, rfl, _⟩ := h
    rfl
  · obtain ⟨v, h, rfl, ⟨a, o, g, rfl, ha, ho, hg⟩, ok, q⟩ := h
    refine ⟨_, (pss_cons (ps_set (i := 1) sc_law_keeps.nd rfl (by first | exact Or.inl rfl | exact Or.inr rfl) (pe_op op_mul (pe_op op_mul (pe_ix ix_tup (pe_ix ix_tup (pv 0) pe_int (fun _ _ => rfl)) pe_int (fun _ _ => rfl)) (pe_ix ix_tup (pe_ix ix_tup (pv 0) pe_int (fun _ _ => rfl)) pe_int (fun _ _ => rfl))) (pe_ix ix_tup (pe_ix ix_tup (pv 0) pe_int (fun _ _ => rfl)) pe_int (fun _ _ => rfl))))
      (pss_one (ps_ret (pe_cmpR op_eq (pv 1) (pe_ifExp (pt_cmpR (op_inX (α := Tup Int) hr.units) (pe_ix ix_tup (pv 0) pe_int (fun _ _ => rfl)) (pe_lst (pa_cons (pe_tup (pa_cons pe_int (pa_cons pe_int (pa_cons pe_int pa_nil)))) (pa_cons (pe_tup (pa_cons pe_int (pa_cons pe_int (pa_cons pe_int pa_nil)))) (pa_cons (pe_tup (pa_cons pe_int (pa_cons pe_int (pa_cons pe_int pa_nil)))) pa_nil)))) (by rfl)) (pe_un un_neg pe_int) pe_int) (nomark _))))), ?_⟩
    obtain ⟨s1, s2, s3⟩ := sg_one ok.2
    have hsm : h.sg.1 * h.sg.2.1 = 1 ∨ h.sg.1 * h.sg.2.1 = -1 := by
      rcases s1 with e | e <;> rcases s2 with e2 | e2 <;> rw [e, e2] <;> decide
    k_all
    rename_i t1 n1 H1 e1 l1 t2 n2 H2 e2 l2 t3 n3 H3 e3 l3 p np H4 e4 l4
    have eo := ((e1.trans e2).trans e3).trans e4
    have hall : DAll K H4 [.ref t1, .ref t2, .ref t3] (turned.map T3.tup) := DAll.cons (d_ints (ns := T3.l (0, 2, 1)) (st_at ((e2.trans (e3.trans e4)) _ _ l1))) (DAll.cons (d_ints (ns := T3.l (1, 0, 2)) (st_at ((e3.trans e4) _ _ l2))) (DAll.cons (d_ints (ns := T3.l (2, 1, 0)) (st_at (e4 _ _ l3))) DAll.nil))
    refine ⟨T3.tup h.ord, p, _, _, rfl, d_ints (ex_t eo ho), .inl (sl_at l4), hall, ?_⟩
    have em : decide (T3.tup h.ord ∈ turned.map T3.tup) = decide (h.ord ∈ turned) := by
      refine decide_eq_decide.mpr ⟨fun hm => ?_, fun hm => List.mem_map.mpr ⟨_, hm, rfl⟩⟩
      obtain ⟨e, he, h2⟩ := List.mem_map.mp hm
      rw [← T3.l_inj.mp h2]
      exact he
    rw [em]
    refine ⟨_, rfl, ?_⟩
    have q' := q H4 eo
    unfold keepsM at q'
    refine if_dec (fun hm => ?_) (fun hm => ?_)
    · rw [if_pos hm] at q'
      k_all
      rw [dec_int]
      exact q'
    · rw [if_neg hm] at q'
      k_all
      rw [dec_int]
      exact q'
def spLedSlL (K : PySem.W.Frag) : Sp := fun vs H Q _ => ∃ v u p q h, vs = [v, u] ∧ PairAt K H v (p, q) ∧ q ≠ 0 ∧ HowAt K H u h ∧ HowOk h ∧ ∀ x H', Ex H H' → PairAt K H' x (ledSlope p q h) → Q x H'
theorem C_law_led_slope (E : Env K mg) : FnC P w K mg base "_law_led_slope" 2 ["_law_slope_here", "_law_how_here"] [] (spLedSlL K) := by
  have C_law_keeps := C_law_keeps (P := P) (w := w) (base := base) E
  refine .of E.d_law_led_slope E.g_law_led_slope sc_law_led_slope (fun vs H Q E h => ?_) (fun _ _ _ _ _ _ us hl => match us, hl with | [_, _], _ => rfl) (fun cdv A outer s0 H vs Q E' hr h => ?_)
  · obtain ⟨v, u, p, q, h, rfl, _⟩ := h
    rfl
  · obtain ⟨v, u, p, q, h, rfl, ⟨a, rfl, ha⟩, nz, hh, ok, k⟩ := h
    refine ⟨_, (pss_one (ps_ret (pe_ifExp (PW.pt (pw_or (pt_val (pe_c C_law_keeps (hr.mono (by decide)) rfl (pa_cons (pv 1) pa_nil))) (pw_or1 (pt_cmpR op_eq (pe_ix ix_tup (pv 0) pe_int (fun _ _ => rfl)) pe_int (nomark _))))) (pe_callTy call_tuple_of (by rfl) E.b_tuple (by decide +kernel) (pa_cons (pv 0) pa_nil)) (pe_tup (pa_cons (pe_ix ix_tup (pv 0) pe_int (fun _ _ => rfl)) (pa_cons (pe_ix ix_tup (pv 0) pe_int (fun _ _ => rfl)) pa_nil)))))), ?_⟩
    k_all
    refine ⟨u, h, rfl, hh, ok, fun H1 e1 => ?_⟩
    have ha1 := ex_t e1 ha
    refine ⟨_, rfl, ?_⟩
    unfold ledSlope at k
    cases hk : keepsM h with
    | true =>
      rw [if_pos hk] at k
      k_all
      refine w_tupT ha1 ?_
      exact k _ _ e1 ⟨a, rfl, ha1⟩
    | false =>
      rw [if_neg (by rw [hk]; decide)] at k
      k_all
      refine if_int (fun h0 => (nz h0).elim) (fun _ => ?_)
      k_all
      exact k _ _ (e1.trans (by assumption)) ⟨_, rfl, st_at (by assumption)⟩
end TP

/-! W23 -/
set_option Elab.async false
set_option linter.all false
set_option maxRecDepth 100000
set_option maxHeartbeats 4000000
-- k_mem: a fact of the heap as it is now, from an older one; k_upd: one step of a reading; k_all: as many as go

namespace TP
open PySem PySem.Spec PyProof.Rows L2 LamX
open PySem.W (minOf maxOf Tup DatumOrd Datum)
variable {P : Program} {w : World} {K : PySem.W.Frag} {mg : Str → Option Value} {base : Heap}
/-! ### _law_axes, _law_steps, _law_four, _law_out, _law_over -/
def spAxesL (K : PySem.W.Frag) : Sp := fun vs H Q _ => ∃ f, vs = [.int f] ∧ FaceOk f ∧ ∀ a H', Ex H H' → SqT K H' a (vi [(axes f).1, (axes f).2]) → Q (.ref a) H'
theorem C_law_axes (E : Env K mg) : FnC P w K mg base "_law_axes" 1 ["_law_face"] [] (spAxesL K) := by
  refine .of E.d_law_axes E.g_law_axes sc_law_axes (fun vs H Q E h => ?_) (fun _ _ _ _ _ _ us hl => match us, hl with | [_], _ => rfl) (fun cdv A outer s0 H vs Q E' hr h => ?_)
  · obtain ⟨f, rfl, _⟩ := h
    rfl
  · obtain ⟨f, rfl, hf, q⟩ := h
    refine ⟨_, (pss_one (ps_ret (pe_ix ix_tup (pe_tup (pa_cons (pe_tup (pa_cons pe_int (pa_cons pe_int pa_nil))) (pa_cons (pe_tup (pa_cons pe_int (pa_cons pe_int pa_nil))) (pa_cons (pe_tup (pa_cons pe_int (pa_cons pe_int pa_nil))) (pa_cons (pe_tup (pa_cons pe_int (pa_cons pe_int pa_nil))) (pa_cons (pe_tup (pa_cons pe_int (pa_cons pe_int pa_nil))) (pa_cons (pe_tup (pa_cons pe_int (pa_cons pe_int pa_nil))) pa_nil))))))) (pv 0) (fun _ _ => rfl)))), ?_⟩
    k_all
    rename_i a1 n1 H1 e1 l1 a2 n2 H2 e2 l2 a3 n3 H3 e3 l3 a4 n4 H4 e4 l4 a5 n5 H5 e5 l5 a6 n6 H6 e6 l6 p np H7 e7 l7
    have f6 := e7
    have f5 := e6.trans f6
    have f4 := e5.trans f5
    have f3 := e4.trans f4
    have f2 := e3.trans f3
    have f1 := e2.trans f2
    have f0 := e1.trans f1
    obtain rfl | rfl | rfl | rfl | rfl | rfl := hf.cases
    · exact w_ixT (st_at l7) rfl (q _ _ f0 (st_at (f1 _ _ l1)))
    · exact w_ixT (st_at l7) rfl (q _ _ f0 (st_at (f2 _ _ l2)))
    · exact w_ixT (st_at l7) rfl (q _ _ f0 (st_at (f3 _ _ l3)))
    · exact w_ixT (st_at l7) rfl (q _ _ f0 (st_at (f4 _ _ l4)))
    · exact w_ixT (st_at l7) rfl (q _ _ f0 (st_at (f5 _ _ l5)))
    · exact w_ixT (st_at l7) rfl (q _ _ f0 (st_at (f6 _ _ l6)))
theorem C_law_steps (E : Env K mg) : FnC P w K mg base "_law_steps" 2 ["_law_face", "_law_first", "_law_second"] [] (spUnfr K) := by
  have C_law_axes := C_law_axes (P := P) (w := w) (base := base) E
  refine .of E.d_law_steps E.g_law_steps sc_law_steps (fun vs H Q E h => ?_) (fun _ _ _ _ _ _ us hl => match us, hl with | [_, _, _], _ => rfl) (fun cdv A outer s0 H vs Q E' hr h => ?_)
  · obtain ⟨f, a, b, rfl, _⟩ := h
    rfl
  · obtain ⟨f, a, b, rfl, hf, q⟩ := h
    refine ⟨_, (pss_cons (ps_set (i := 3) sc_law_steps.nd rfl (by first | exact Or.inl rfl | exact Or.inr rfl) (pe_c C_law_axes (hr.mono (by decide)) rfl (pa_cons (pv 0) pa_nil)))
      (pss_cons (ps_set (i := 4) sc_law_steps.nd rfl (by first | exact Or.inl rfl | exact Or.inr rfl) (pe_lst (pa_cons pe_int (pa_cons pe_int (pa_cons pe_int pa_nil)))))
      (pss_cons (ps_asg (pv 1) (pg_sub (pv 4) (pe_ix ix_tup (pv 3) pe_int (fun _ _ => rfl)) set_list))
      (pss_cons (ps_asg (pv 2) (pg_sub (pv 4) (pe_ix ix_tup (pv 3) pe_int (fun _ _ => rfl)) set_list))
      (pss_one (ps_ret (pe_callTy call_tuple_of (by rfl) E.b_tuple (by decide +kernel) (pa_cons (pv 4) pa_nil)))))))), ?_⟩
    obtain ⟨h1, h2, h3, h4⟩ := ax_ok hf
    k_all
    refine ⟨_, rfl, hf, fun x H0 e0 hx => ?_⟩
    k_all
    rename_i l nl H1 e1 l1
    have nl0 := Evl.fresh_back e0 nl
    have hx1 := ex_t e1 hx
    have e01 := e0.trans e1
    k_all
    refine w_s3 (t := (0, 0, 0)) l1 h1 h2 ?_
    generalize hG : upd _ _ _ = H2
    have e2 : Ex H H2 := ex_mut hG e01 nl0
    have e2' : Ex H0 H2 := ex_mut hG e1 nl
    have l2 := at_of hG
    have hx2 := ex_t e2' hx
    k_all
    refine w_s3 l2 h3 h4 ?_
    generalize hG2 : upd _ _ _ = H3
    have e3 : Ex H H3 := ex_mut hG2 e2 nl0
    have l3 := at_of hG2
    k_all
    refine w_tupL (sl_at l3) fun t nt => ?_
    generalize hG4 : upd _ _ _ = H4
    have e4 : Ex H H4 := e3.trans (ex_of hG4 nt)
    have l4 := at_of hG4
    exact q _ _ e4 (st_at l4)
def spFour (K : PySem.W.Frag) : Sp := fun vs H Q _ => ∃ f v p q, vs = [.int f, v] ∧ FaceOk f ∧ PairAt K H v (p, q) ∧ ∀ l H' ys, Ex H H' → H l = none → H' l = some (.lst ys) → Al (TripAt K H') ys (dirs4 f p q) → Q (.ref l) H'
theorem C_law_four (E : Env K mg) : FnC P w K mg base "_law_four" 3 ["_law_face", "_law_slope_here"] [] (spFour K) := by
  have C_law_steps := C_law_steps (P := P) (w := w) (base := base) E
  refine .of E.d_law_four E.g_law_four sc_law_four (fun vs H Q E h => ?_) (fun _ _ _ _ _ _ us hl => match us, hl with | [_, _], _ => rfl) (fun cdv A outer s0 H vs Q E' hr h => ?_)
  · obtain ⟨f, v, p, q, rfl, _⟩ := h
    rfl
  · obtain ⟨f, v, p, q, rfl, hf, ⟨a, rfl, ha⟩, k⟩ := h
    refine ⟨_, (pss_cons (ps_asg (pv 1) (pg_tup (n := 2) rfl (pgs_cons (pg_name (i := 2) sc_law_four.nd rfl (by first | exact Or.inl rfl | exact Or.inr rfl)) (pgs_cons (pg_name (i := 3) sc_law_four.nd rfl (by first | exact Or.inl rfl | exact Or.inr rfl)) pgs_nil))))
      (pss_one (ps_ret (pe_lst (pa_cons (pe_c C_law_steps (hr.mono (by decide)) rfl (pa_cons (pv 0) (pa_cons (pv 2) (pa_cons (pv 3) pa_nil)))) (pa_cons (pe_c C_law_steps (hr.mono (by decide)) rfl (pa_cons (pv 0) (pa_cons (pe_un un_neg (pv 3)) (pa_cons (pv 2) pa_nil)))) (pa_cons (pe_c C_law_steps (hr.mono (by decide)) rfl (pa_cons (pv 0) (pa_cons (pe_un un_neg (pv 2)) (pa_cons (pe_un un_neg (pv 3)) pa_nil)))) (pa_cons (pe_c C_law_steps (hr.mono (by decide)) rfl (pa_cons (pv 0) (pa_cons (pv 3) (pa_cons (pe_un un_neg (pv 2)) pa_nil)))) pa_nil)))))))), ?_⟩
    k_all
    refine ⟨_, _, _, rfl, hf, fun a1 H1 e1 h1 => ?_⟩
    k_all
    refine ⟨_, _, _, rfl, hf, fun a2 H2 e2 h2 => ?_⟩
    k_all
    refine ⟨_, _, _, rfl, hf, fun a3 H3 e3 h3 => ?_⟩
    k_all
    refine ⟨_, _, _, rfl, hf, fun a4 H4 e4 h4 => ?_⟩
    k_all
    rename_i l nl H5 e5 l5
    have f3 := e4.trans e5
    have f2 := e3.trans f3
    have f1 := e2.trans f2
    refine k l H5 _ (e1.trans f1) (Evl.fresh_back (((e1.trans e2).trans e3).trans e4) nl) l5 ⟨rfl, fun i v x g1 g2 => ?_⟩
    match i, g1, g2 with
    | 0, g1, g2 => cases g1; cases g2; exact ⟨a1, rfl, ex_t f1 h1⟩
    | 1, g1, g2 => cases g1; cases g2; exact ⟨a2, rfl, ex_t f2 h2⟩
    | 2, g1, g2 => cases g1; cases g2; exact ⟨a3, rfl, ex_t f3 h3⟩
    | 3, g1, g2 => cases g1; cases g2; exact ⟨a4, rfl, ex_t e5 h4⟩
theorem odd_iff (g : Int) : g % 2 = 1 ↔ g - g / 2 * 2 = 1 := by omega
theorem C_law_out (E : Env K mg) : FnC P w K mg base "_law_out" 1 ["_law_beside", "_law_steps_here"] [] (spOut K) := by
  refine .of E.d_law_out E.g_law_out sc_law_out (fun vs H Q E h => ?_) (fun _ _ _ _ _ _ us hl => match us, hl with | [_, _], _ => rfl) (fun cdv A outer s0 H vs Q E' hr h => ?_)
  · obtain ⟨g, a, d, rfl, _⟩ := h
    rfl
  · obtain ⟨g, a, d, rfl, hg, hd, q⟩ := h
    refine ⟨_, (pss_one (ps_ret (pe_ifExp (pt_cmpR op_eq (pe_op op_mod (pe_callTy call_int1 (by rfl) E.b_int (by decide +kernel) (pa_cons (pv 0) pa_nil)) pe_int) pe_int (nomark _)) (pe_ix ix_seq (pv 1) (pe_op op_fdiv (pv 0) pe_int) (fun _ _ => rfl)) (pe_un un_neg (pe_ix ix_seq (pv 1) (pe_op op_fdiv (pv 0) pe_int) (fun _ _ => rfl)))))), ?_⟩
    obtain ⟨h1, h2⟩ := half_ok hg
    k_all
    refine if_int (fun h3 => ?_) (fun h3 => ?_)
    · k_all
      refine w_ixA hd (at3 d h1 h2) ?_
      unfold outward at q
      rw [if_pos ((odd_iff g).mp h3)] at q
      exact q
    · k_all
      refine w_ixA hd (at3 d h1 h2) ?_
      k_all
      unfold outward at q
      rw [if_neg (fun h => h3 ((odd_iff g).mpr h))] at q
      exact q
theorem C_law_over (E : Env K mg) : FnC P w K mg base "_law_over" 2 ["_law_face", "_law_beside", "_law_steps_here"] [] (spGone K) := by
  have C_law_out := C_law_out (P := P) (w := w) (base := base) E
  refine .of E.d_law_over E.g_law_over sc_law_over (fun vs H Q E h => ?_) (fun _ _ _ _ _ _ us hl => match us, hl with | [_, _, _], _ => rfl) (fun cdv A outer s0 H vs Q E' hr h => ?_)
  · obtain ⟨f, g, a, d, rfl, _⟩ := h
    rfl
  · obtain ⟨f, g, a, d, rfl, hf, hg, hd, q⟩ := h
    refine ⟨_, (pss_cons (ps_set (i := 3) sc_law_over.nd rfl (by first | exact Or.inl rfl | exact Or.inr rfl) (pe_callTy call_list_of (by rfl) E.b_list (by decide +kernel) (pa_cons (pv 2) pa_nil)))
      (pss_cons (ps_set (i := 4) sc_law_over.nd rfl (by first | exact Or.inl rfl | exact Or.inr rfl) (pe_c C_law_out (hr.mono (by decide)) rfl (pa_cons (pv 1) (pa_cons (pv 2) pa_nil))))
      (pss_cons (ps_asg pe_int (pg_sub (pv 3) (pe_op op_fdiv (pv 1) pe_int) set_list))
      (pss_cons (ps_asg (pe_ifExp (pt_cmpR op_eq (pe_op op_mod (pe_callTy call_int1 (by rfl) E.b_int (by decide +kernel) (pa_cons (pv 0) pa_nil)) pe_int) pe_int (nomark _)) (pe_un un_neg (pv 4)) (pv 4)) (pg_sub (pv 3) (pe_op op_fdiv (pv 0) pe_int) set_list))
      (pss_one (ps_ret (pe_callTy call_tuple_of (by rfl) E.b_tuple (by decide +kernel) (pa_cons (pv 3) pa_nil)))))))), ?_⟩
    obtain ⟨f1, f2⟩ := half_ok hf
    obtain ⟨g1, g2⟩ := half_ok hg
    k_all
    refine w_listA (.inr hd) fun l nl => ?_
    generalize hG : upd _ _ _ = H1
    have e1 : Ex H H1 := ex_of hG nl
    have l1 := at_of hG
    k_all
    refine ⟨_, _, d, rfl, hg, .inr (ex_t e1 hd), ?_⟩
    k_all
    refine w_s3 l1 g1 g2 ?_
    generalize hG2 : upd _ _ _ = H2
    have e2 : Ex H H2 := ex_mut hG2 e1 nl
    have l2 := at_of hG2
    k_all
    refine if_int (fun h1 => ?_) (fun h1 => ?_)
    · k_all
      refine w_s3 l2 f1 f2 ?_
      generalize hG3 : upd _ _ _ = H3
      have e3 : Ex H H3 := ex_mut hG3 e2 nl
      have l3 := at_of hG3
      k_all
      refine w_tupL (sl_at l3) fun t nt => ?_
      generalize hG4 : upd _ _ _ = H4
      have e4 : Ex H H4 := e3.trans (ex_of hG4 nt)
      have l4 := at_of hG4
      refine q _ _ e4 (Evl.fresh_back e3 nt) ?_
      unfold goneOver
      rw [if_pos ((odd_iff f).mp h1)]
      exact l4
    · k_all
      refine w_s3 l2 f1 f2 ?_
      generalize hG3 : upd _ _ _ = H3
      have e3 : Ex H H3 := ex_mut hG3 e2 nl
      have l3 := at_of hG3
      k_all
      refine w_tupL (sl_at l3) fun t nt => ?_
      generalize hG4 : upd _ _ _ = H4
      have e4 : Ex H H4 := e3.trans (ex_of hG4 nt)
      have l4 := at_of hG4
      refine q _ _ e4 (Evl.fresh_back e3 nt) ?_
      unfold goneOver
      rw [if_neg (fun h => h1 ((odd_iff f).mpr h))]
      exact l4
end TP

/-! M -/
set_option Elab.async false
set_option linter.all false
set_option maxRecDepth 100000
set_option maxHeartbeats 4000000
namespace TP
open PySem PySem.Spec PyProof.Rows L2
open PySem.W (Datum DatumOrd Holds HoldAll minOf maxOf Tup EachIs)
/-! ### min(a, b) of two data -/
section
variable {prog : Program} {w : World} {A : Around} {E : Value → Shared → Prop} {s : Shared}
theorem call_min_twoH {a b : Value} {Q : Value → Shared → Prop}
    (h : wpAny (model prog w) A.in1 (pyIter (.ref s.heap.objs.size)) (fun it s₂ => ∃ I fp wr G n P St H bt, it = .ref I ∧ WalksS prog w A.in1 I fp wr G n P St ∧ St 0 s₂ ∧ (∀ b ∈ fp, b < s₂.heap.objs.size) ∧ 0 < n ∧
      (∀ b o, H.get? b = some o → b ∉ wr) ∧ (∀ b o, H.get? b = some o → s₂.heap.get? b = some o) ∧ PySem.CmpIn prog w A.in1 .Lt H P bt ∧ ∀ v s', P (argBest bt (n - 1)) v → Moved wr G s₂ s' → Q v s') E
      { s with heap := s.heap.push { cls := .type "tuple", data := .seq #[a, b] } }) :
    wpAny (model prog w) A (call (.builtin "min") [a, b]) Q E s := by
  have hname : (toString "min" ++ toString ".loop" : String) = "min.loop" := by decide
  refine call_function_tree F.kind_min F.plain_min F.entry_min (F.args_min2 _ _) ?_
  show wpAny _ A.in1 (Builtin.Builtins.bindParams "min" ["key", "default"] 0 ⟨[], []⟩ >>= _) _ _ s
  refine wpAny_bind (wpAny_of_eq (show Builtin.Builtins.bindParams "min" ["key", "default"] 0 ⟨[], []⟩ = pure [none, none] from rfl) ?_)
  show wpAny _ A.in1 (newTuple [a, b] >>= _) _ _ s
  refine wpAny_bind (wpAny_newObj_type ?_)
  refine wpAny_bind (wpAny_mono h (fun it s₂ h₂ => ?_) fun _ _ e => e)
  obtain ⟨I, fp, wr, G, n, P, St, H, bt, rfl, W, hst, hfp, hn, hw, hkeep, hcmp, hQ⟩ := h₂
  refine wpAny_bind (wpAny_newObj_type ?_)
  have hSf : s₂.heap.objs.size ∉ fp := fun hm => Nat.lt_irrefl _ (hfp _ hm)
  rw [hname]
  refine wpAny_pure ⟨plainId_quiet F.plain_min_loop _, PySem.codeAny_min_loop_firstH W H hw bt hcmp s₂.heap.objs.size hSf (PySem.fresh_in hkeep) _ hn (fun b o e => Heap.get?_push_of_some _ (hkeep b o e)) (W.frame 0 s₂ _ s₂.toks hst (Nat.le_refl _) fun b _ o e => Heap.get?_push_of_some _ e) (Heap.get?_push_size _ rfl) fun v s' hP hm => ?_⟩
  exact hQ v s' hP (PySem.Moved.drop_new (tk := s₂.toks) hm (Nat.le_refl _))
end
section
variable {X : Cx}
def rMin2X (α : Type) [DecidableEq α] [DatumOrd α] (K : PySem.W.Frag) : List V → Hp → VK → Prop := fun vs H Q => ∃ (v u : V) (a b : α), vs = [v, u] ∧ DAt K H v a ∧ DAt K H u b ∧ ∀ y, DAt K H y (minOf a [b]) → Q y H
theorem cr_min2X {α : Type} [DecidableEq α] [DatumOrd α] (hc : X.calm = true) (hu : X.A.units + 64 < cLine) (hd : Datum.depth α ≤ 62 := by decide) : CallR X (.builtin "min") (rMin2X α X.K) := by
  intro pins s σ H vs us Q I r h
  obtain ⟨v, u, a, b, rfl, h1, h2, q⟩ := h
  obtain ⟨u1, u2, rfl, r1, r2⟩ := vals2 r
  have hh := I.ok.hd hc
  have kp : ∀ c o, s.heap.get? c = some o → (s.heap.push { cls := .type "tuple", data := .seq #[u1, u2] }).get? c = some o := fun c o e => Heap.get?_push_of_some _ e
  have I1 : Inv X pins σ H { s with heap := s.heap.push { cls := .type "tuple", data := .seq #[u1, u2] } } := I.kept (t' := s.toks) kp
  have hall : HoldAll (s.heap.push { cls := .type "tuple", data := .seq #[u1, u2] }) [u1, u2] [a, b] := DAll.holds (vs := [v, u]) I1 (DAll.cons h1 (DAll.cons h2 DAll.nil)) (.cons r1 (.cons r2 .nil))
  obtain ⟨as, hr⟩ := hall
  have ht : (s.heap.push { cls := .type "tuple", data := .seq #[u1, u2] }).IsTuple s.heap.objs.size #[u1, u2] := ⟨_, Heap.get?_push_size _ rfl, rfl, 0, rfl⟩
  refine call_min_twoH (PySem.W.iter_tupleW (A := X.A.in1) hh ht fun s₂ e W st hfp hw hk => ?_)
  refine ⟨_, _, _, _, _, _, _, s.heap.push { cls := .type "tuple", data := .seq #[u1, u2] }, _, rfl, W, st, hfp, by show 0 < 2; decide, hw, hk, PySem.W.cmpIn_lt (A := X.A.in1) (s := { s with heap := s.heap.push { cls := .type "tuple", data := .seq #[u1, u2] } }) hr (PySem.W.alikeAll_datum [a, b]) (by
    have := PySem.W.depthAll_map (α := α) [a, b]
    show X.A.units + 1 + _ < cLine
    omega), fun y s' hP m => ?_⟩
  obtain ⟨h', tk, rfl, hk'⟩ := PySem.W.moved_old e rfl m
  have I2 : Inv X pins σ H { s with heap := h', toks := tk } := I.kept fun c o e => hk' c o (kp c o e)
  have hlt : PySem.W.dataLt (Datum.toD b) (Datum.toD a) = DatumOrd.lt b a := DatumOrd.lt_eq b a
  by_cases hb : DatumOrd.lt b a = true
  · have em : minOf a [b] = b := by
      show (if DatumOrd.lt b a = true then b else a) = b
      rw [if_pos hb]
    have ea : (#[u1, u2] : Array Value)[1]? = some y := by
      have hix : argBest (fun i j => PySem.W.dataLt (([a, b].map Datum.toD).getD i PyData.none) (([a, b].map Datum.toD).getD j PyData.none)) 1 = 1 := if_pos (by rw [← hb, ← hlt]; rfl)
      rw [← hix]
      exact hP
    have ey : u2 = y := by simpa using ea
    subst ey
    exact ⟨u, H, I2, r2, q u (by rw [em]; exact h2)⟩
  · have em : minOf a [b] = a := by
      show (if DatumOrd.lt b a = true then b else a) = a
      rw [if_neg hb]
    have ea : (#[u1, u2] : Array Value)[0]? = some y := by
      have hix : argBest (fun i j => PySem.W.dataLt (([a, b].map Datum.toD).getD i PyData.none) (([a, b].map Datum.toD).getD j PyData.none)) 1 = 0 := if_neg (by rw [← hlt] at hb; exact hb)
      rw [← hix]
      exact hP
    have ey : u1 = y := by simpa using ea
    subst ey
    exact ⟨v, H, I2, r1, q v (by rw [em]; exact h1)⟩
end
end TP

/-! W24 -/
set_option Elab.async false
set_option linter.all false
set_option maxRecDepth 100000
set_option maxHeartbeats 4000000
-- k_mem: a fact of the heap as it is now, from an older one; k_upd: one step of a reading; k_all: as many as go

namespace TP
open PySem PySem.Spec PyProof.Rows L2 LamX
open PySem.W (minOf maxOf Tup DatumOrd Datum)
variable {P : Program} {w : World} {K : PySem.W.Frag} {mg : Str → Option Value} {base : Heap}
/-! ### _law_turned_least, _law_least_row -/
def spTL (K : PySem.W.Frag) : Sp := fun vs H Q _ => ∃ a L, vs = [.ref a] ∧ (SqL K H a (vi L) ∨ SqT K H a (vi L)) ∧ 0 < L.length ∧ L.length ≤ 400 ∧ ∀ p H', Ex H H' → SqT K H' p (vi (leastBegun L)) → Q (.ref p) H'
theorem rots_all {H : Hp} {L : List Int} {ys : List V} (h : Told (fun i y H => ∃ p, y = .ref p ∧ SqT K H p (vi (rotL L i))) L.length ys H) : DAll K H ys (rotsOf L) := by
  have hrl : (rotsOf L).length = L.length := by unfold rotsOf; rw [List.length_map, List.length_range]
  refine DAll.of (by rw [h.1, hrl]) fun i v y h1 h2 => ?_
  obtain ⟨p5, rfl, h5⟩ := h.2 i v h1
  unfold rotsOf at h2
  rw [List.getElem?_map] at h2
  have hi : i < L.length := by
    have := (List.getElem?_eq_some_iff.mp h1).1
    rw [h.1] at this
    exact this
  rw [List.getElem?_range hi] at h2
  rw [← Option.some.inj h2]
  exact d_ints h5
theorem rots_cons {L : List Int} (h : 0 < L.length) : ∃ x xs, rotsOf L = x :: xs := by
  obtain ⟨m, hm⟩ : ∃ m, L.length = m + 1 := ⟨L.length - 1, by omega⟩
  unfold rotsOf
  rw [hm, List.range_succ_eq_map]
  exact ⟨_, _, rfl⟩
theorem C_law_turned_least (E : Env K mg) : FnC P w K mg base "_law_turned_least" 1 ["_law_row"] [] (spTL K) := by
  refine .of E.d_law_turned_least E.g_law_turned_least sc_law_turned_least (fun vs H Q E h => ?_) (fun _ _ _ _ _ _ us hl => match us, hl with | [_], _ => rfl) (fun cdv A outer s0 H vs Q E' hr h => ?_)
  · obtain ⟨a, L, rfl, _⟩ := h
    rfl
  · obtain ⟨a, L, rfl, ha, n0, n4, q⟩ := h
    refine ⟨_, (pss_one (ps_ret (pe_callB (cr_minX (α := PySem.W.Tup Int) rfl hr.units) (by rfl) E.b_min (by decide +kernel) (pa_cons (pe_lc (own := [("_law_at", 1)]) rfl sc_law_turned_least.nd (pi_range1 rfl E.b_range (pa_cons (pe_callB call_len_seq (by rfl) E.b_len PySem.boot_len (pa_cons (pv 0) pa_nil)) pa_nil)) (blkOk_by (own := [("_law_at", 1)]) (N := ["_law_row", "_law_at"]) (sc := defScope s_law_turned_least) (by decide +kernel)) (fun _ _ _ _ _ => by exact (pg_cast (pg_name (i := 1) sc_law_turned_least.nd rfl (by first | exact Or.inl rfl | exact Or.inr rfl)) (by (try simp only [blk_K]); rfl))) (fun _ _ _ _ _ => by exact (pts_cast pts_nil (by (try simp only [blk_K]); rfl))) (fun _ _ _ _ _ => by exact (pe_cast (pe_op op_catA (pe_callTy call_tuple_of (by rfl) E.b_tuple (by decide +kernel) (pa_cons (pe_slice (sl_tupA.or sl_list) (pv 0) (po_some (pv 1)) po_none) pa_nil)) (pe_callTy call_tuple_of (by rfl) E.b_tuple (by decide +kernel) (pa_cons (pe_slice (sl_tupA.or sl_list) (pv 0) po_none (po_some (pv 1))) pa_nil))) (by (try simp only [blk_K]); rfl)))) pa_nil)))), ?_⟩
    have hl : (vi L).length = L.length := by unfold vi; rw [List.length_map]
    k_all
    refine ⟨a, vi L, rfl, ha, ?_⟩
    rw [hl]
    refine w_itR (by omega) ?_
    rw [Int.toNat_natCast]
    refine lcR (n := L.length) (G := fun i y H => ∃ p, y = .ref p ∧ SqT K H p (vi (rotL L i))) (fun i y H1 H2 e h => ?_) (fun i y H1 D acc acc' hD h => ?_) (by omega) (fun i H2 hi e2 => ?_) mg_name (fun p H2 ys np e2 l2 told => ?_)
    · obtain ⟨p, h1, h2⟩ := h
      exact ⟨p, h1, ex_t e h2⟩
    · obtain ⟨p, h1, h2⟩ := h
      exact ⟨p, h1, mu_t h2 hD⟩
    · refine ⟨rfl, rfl, fun QV qv => ?_⟩
      have ei : ((0 : Int) + (i : Int)).toNat = i := by omega
      have fin : ∀ H5 p3 p5, Ex H2 H5 → SqT K H5 p3 ((vi L).drop i) → SqT K H5 p5 ((vi L).take i) → rCatA K (.ref p3) (.ref p5) H5 QV := fun H5 p3 p5 e5 h3 h5 =>
        w_catA h3 h5 (by rw [List.length_drop, List.length_take, hl]; omega) fun p6 H6 e6 h6 => qv _ _ (e5.trans e6) ⟨p6, rfl, by rw [rotL_vi]; exact h6⟩
      rcases ha with ha | ha
      · have ha2 := ex_l e2 ha
        k_all
        refine .inr (w_slL ha2 fun p3 H3 n3 e3 l3 => ?_)
        rw [cut_from (by omega), ei] at l3
        k_all
        refine w_tupL (sl_at l3) fun p4 n4' => ?_
        generalize hG : upd _ _ _ = H4
        have e4 := ex_of hG n4'
        have l4 := at_of hG
        k_all
        refine .inr (w_slL (ex_l (e3.trans e4) ha2) fun p5 H5 n5 e5 l5 => ?_)
        rw [cut_to (by omega), ei] at l5
        k_all
        refine w_tupL (sl_at l5) fun p6 n6 => ?_
        generalize hG6 : upd _ _ _ = H6
        have e6 := ex_of hG6 n6
        have l6 := at_of hG6
        exact fin H6 p4 p6 (((e3.trans e4).trans e5).trans e6) (st_at ((e5.trans e6) _ _ l4)) (st_at l6)
      · have ha2 := ex_t e2 ha
        k_all
        refine .inl (w_slA ha2 fun p3 H3 e3 h3 => ?_)
        rw [cut_from (by omega), ei] at h3
        k_all
        refine w_tupT h3 ?_
        k_all
        refine .inl (w_slA (ex_t e3 ha2) fun p5 H5 e5 h5 => ?_)
        rw [cut_to (by omega), ei] at h5
        k_all
        refine w_tupT h5 ?_
        exact fin H5 p3 p5 (e3.trans e5) (ex_t e5 h3) h5
    · obtain ⟨x, xs, ex⟩ := rots_cons n0
      have hall := rots_all told
      rw [ex] at hall
      k_all
      refine ⟨p, ys, x, xs, rfl, sl_at l2, hall, fun i y h1 h2 => ?_⟩
      obtain ⟨p5, rfl, h5⟩ := d_tup_inv (ns := (minOf x xs).items) (hall.at h1 h2)
      refine q p5 H2 e2 ?_
      unfold leastBegun
      rw [ex]
      exact h5
theorem w_rev {te : TE} {σ : L2.St} {H : Hp} {Q : VK} (h : te σ H fun x H1 => ∃ a xs, x = .ref a ∧ SqL K H1 a xs ∧ ∀ p, H1 p = none → Q (.ref p) (upd H1 p (.lst xs.reverse))) : tRevL K te σ H Q := h
def spLRowL (K : PySem.W.Frag) : Sp := fun vs H Q _ => ∃ a L, vs = [.ref a] ∧ SqT K H a (vi L) ∧ 0 < L.length ∧ L.length ≤ 400 ∧ ∀ p H', Ex H H' → SqT K H' p (vi (leastRow L)) → Q (.ref p) H'
theorem C_law_least_row (E : Env K mg) : FnC P w K mg base "_law_least_row" 2 ["_law_row"] [] (spLRowL K) := by
  have C_law_turned_least := C_law_turned_least (P := P) (w := w) (base := base) E
  refine .of E.d_law_least_row E.g_law_least_row sc_law_least_row (fun vs H Q E h => ?_) (fun _ _ _ _ _ _ us hl => match us, hl with | [_], _ => rfl) (fun cdv A outer s0 H vs Q E' hr h => ?_)
  · obtain ⟨a, L, rfl, _⟩ := h
    rfl
  · obtain ⟨a, L, rfl, ha, n0, n4, q⟩ := h
    refine ⟨_, (pss_cons (ps_set (i := 1) sc_law_least_row.nd rfl (by first | exact Or.inl rfl | exact Or.inr rfl) (pe_op op_cat (pe_lst (pa_cons (pe_ix ix_tup (pv 0) pe_int (fun _ _ => rfl)) pa_nil)) (pe_revL (pe_callTy call_list_of (by rfl) E.b_list (by decide +kernel) (pa_cons (pe_slice sl_tupA (pv 0) (po_some pe_int) po_none) pa_nil)))))
      (pss_one (ps_ret (pe_callB (cr_min2X (α := Tup Int) rfl hr.units) (by rfl) E.b_min (by decide +kernel) (pa_cons (pe_c C_law_turned_least (hr.mono (by decide)) rfl (pa_cons (pv 0) pa_nil)) (pa_cons (pe_c C_law_turned_least (hr.mono (by decide)) rfl (pa_cons (pv 1) pa_nil)) pa_nil)))))), ?_⟩
    have hl : (vi L).length = L.length := by unfold vi; rw [List.length_map]
    have h0 : (vi L)[0]? = some (.int (fAt L 0)) := vi_of (by have := fAt_mod (L := L) n0 0; rw [Nat.zero_mod] at this; exact this)
    k_all
    refine w_ixT ha (atI_nat (i := 0) h0) ?_
    k_all
    refine w_rev ?_
    k_all
    refine w_slA (ex_t (by assumption) ha) fun p3 H3 e3 h3 => ?_
    rw [cut_from (by omega)] at h3
    refine ⟨p3, _, rfl, .inr h3, fun p4 n4' => ?_⟩
    generalize hG4 : upd _ _ _ = H4
    have e4 := ex_of hG4 n4'
    have l4 := at_of hG4
    refine ⟨p4, _, rfl, sl_at l4, fun p5 n5 => ?_⟩
    generalize hG5 : upd _ _ _ = H5
    have e5 := ex_of hG5 n5
    have l5 := at_of hG5
    have ea := (((by assumption : Ex H _).trans e3).trans e4).trans e5
    refine ⟨_, _, _, _, rfl, rfl, (e3.trans (e4.trans e5)) _ _ (by assumption), l5, by rw [List.length_reverse, List.length_drop, hl, List.length_singleton]; have z4 : (400 : Nat) ≤ sizeLine := (by decide); have h1 : Int.toNat 1 = 1 := rfl; omega, fun p6 n6 => ?_⟩
    generalize hG6 : upd _ _ _ = H6
    have e6 := ex_of hG6 n6
    have l6 := at_of hG6
    have el : [V.int (fAt L 0)] ++ ((vi L).drop (1 : Int).toNat).reverse = vi (backR L) := by
      obtain ⟨x, xs, rfl⟩ : ∃ x xs, L = x :: xs := by
        cases L with
        | nil => exact absurd n0 (by decide)
        | cons x xs => exact ⟨x, xs, rfl⟩
      rw [backR_vi]
      have hx : V.int (fAt (x :: xs) 0) = V.int x := by
        have := h0
        exact (Option.some.inj this).symm
      rw [hx]
      rfl
    rw [el] at l6
    have eb := ea.trans e6
    have nb : (backR L).length = L.length := by
      unfold backR
      rw [List.length_append, List.length_take, List.length_reverse, List.length_drop]
      omega
    k_all
    refine ⟨_, _, rfl, .inr (ex_t eb ha), n0, n4, fun p7 H7 e7 h7 => ?_⟩
    k_all
    refine ⟨_, _, rfl, .inl (ex_l e7 (sl_at l6)), by omega, by omega, fun p8 H8 e8 h8 => ?_⟩
    k_all
    refine ⟨_, _, Tup.mk _, Tup.mk _, rfl, d_ints (ex_t e8 h7), d_ints h8, fun y hy => ?_⟩
    obtain ⟨p9, rfl, h9⟩ := d_tup_inv (ns := (minOf (Tup.mk (leastBegun L)) [Tup.mk (leastBegun (backR L))]).items) hy
    exact q p9 H8 ((eb.trans e7).trans e8) h9
end TP

/-! W25 -/
set_option Elab.async false
set_option linter.all false
set_option maxRecDepth 100000
set_option maxHeartbeats 4000000
-- k_mem: a fact of the heap as it is now, from an older one; k_upd: one step of a reading; k_all: as many as go

namespace TP
open PySem PySem.Spec PyProof.Rows L2 LamX
open PySem.W (minOf maxOf Tup DatumOrd Datum)
variable {P : Program} {w : World} {K : PySem.W.Frag} {mg : Str → Option Value} {base : Heap}
/-! ### _law_led_face -/
def ledAt (f : Int) (h : How) (i : Int) : Int := 2 * i + (if h.sg.get i = 1 then f % 2 else 1 - f % 2)
def ledFace (f : Int) (h : How) : Int := if h.ord.get 0 = f / 2 then ledAt f h 0 else if h.ord.get 1 = f / 2 then ledAt f h 1 else ledAt f h 2
theorem ledFace_of {f : Int} {h : How} {i : Int} (h0 : 0 ≤ i) (h2 : i ≤ 2) (e : h.ord.get i = f / 2) (n : ∀ j : Int, 0 ≤ j → j < i → h.ord.get j ≠ f / 2) : ledFace f h = ledAt f h i := by
  unfold ledFace
  obtain rfl | rfl | rfl : i = 0 ∨ i = 1 ∨ i = 2 := by omega
  · rw [if_pos e]
  · rw [if_neg (n 0 (by decide) (by decide)), if_pos e]
  · rw [if_neg (n 0 (by decide) (by decide)), if_neg (n 1 (by decide) (by decide))]
theorem ord_some {f : Int} {h : How} (ho : h.ord ∈ allOrders) (hf : FaceOk f) (n : ∀ j : Int, 0 ≤ j → j < 3 → h.ord.get j ≠ f / 2) : False := by
  have n0 := n 0 (by decide) (by decide)
  have n1 := n 1 (by decide) (by decide)
  have n2 := n 2 (by decide) (by decide)
  obtain ⟨h1, h2⟩ := half_ok hf
  generalize f / 2 = z at *
  unfold allOrders at ho
  simp only [List.mem_cons, List.not_mem_nil, or_false] at ho
  obtain rfl | rfl | rfl : z = 0 ∨ z = 1 ∨ z = 2 := by omega
  all_goals (rcases ho with e | e | e | e | e | e <;> rw [e] at n0 n1 n2 <;> revert n0 n1 n2 <;> decide)
def spLedF (K : PySem.W.Frag) : Sp := fun vs H Q _ => ∃ f u h, vs = [.int f, u] ∧ FaceOk f ∧ HowAt K H u h ∧ HowOk h ∧ Q (.int (ledFace f h)) H
theorem C_law_led_face (E : Env K mg) : FnC P w K mg base "_law_led_face" 1 ["_law_face", "_law_how_here"] [] (spLedF K) := by
  refine .of E.d_law_led_face E.g_law_led_face sc_law_led_face (fun vs H Q E h => ?_) (fun _ _ _ _ _ _ us hl => match us, hl with | [_, _], _ => rfl) (fun cdv A outer s0 H vs Q E' hr h => ?_)
  · obtain ⟨f, u, h, rfl, _⟩ := h
    rfl
  · obtain ⟨f, u, h, rfl, hf, ⟨a, o, g, rfl, ha, ho, hg⟩, ok, q⟩ := h
    refine ⟨_, (pss_cons (ps_for PassesOwn.never rfl (pi_range1 rfl E.b_range (pa_cons pe_int pa_nil)) (pg_name (i := 2) sc_law_led_face.nd rfl (by first | exact Or.inl rfl | exact Or.inr rfl)) (pss_one (ps_if (pt_cmpR op_eq (pe_ix ix_tup (pe_ix ix_tup (pv 1) pe_int (fun _ _ => rfl)) (pv 2) (fun _ _ => rfl)) (pe_op op_fdiv (pv 0) pe_int) (nomark _)) (pss_cons (ps_set (i := 3) sc_law_led_face.nd rfl (by first | exact Or.inl rfl | exact Or.inr rfl) (pe_op op_mod (pe_callTy call_int1 (by rfl) E.b_int (by decide +kernel) (pa_cons (pv 0) pa_nil)) pe_int))
      (pss_one (ps_ret (pe_op op_add (pe_op op_mul pe_int (pv 2)) (pe_ifExp (pt_cmpR op_eq (pe_ix ix_tup (pe_ix ix_tup (pv 1) pe_int (fun _ _ => rfl)) (pv 2) (fun _ _ => rfl)) pe_int (nomark _)) (pv 3) (pe_op op_sub pe_int (pv 3))))))) pss_nil)))
      (pss_one (ps_ret pe_non))), ?_⟩
    k_all
    refine for_range (n := 3) (fun i σ H' => ∃ z, σ = [some (.int f), some (.ref a), z, none] ∧ H' = H ∧ ∀ j : Int, 0 ≤ j → j < i → h.ord.get j ≠ f / 2) ⟨_, rfl, rfl, fun j h0 h1 => absurd h1 (by omega)⟩ (fun i σ H' hi h' => ?_) (fun σ H' h' => ?_)
    · obtain ⟨z, rfl, rfl, n⟩ := h'
      have i0 : (0 : Int) ≤ (0 : Int) + (i : Int) := by omega
      have i2 : (0 : Int) + (i : Int) ≤ 2 := by omega
      k_all
      refine w_ixT ho (at3 h.ord i0 i2) ?_
      k_all
      refine if_int (fun h1 => ?_) (fun h1 => ?_)
      · k_all
        refine w_ixT hg (at3 h.sg i0 i2) ?_
        rw [ledFace_of i0 i2 h1 (fun j h0 h2 => n j h0 (by omega))] at q
        unfold ledAt at q
        k_all
        refine if_int (fun h2 => ?_) (fun h2 => ?_)
        · rw [if_pos h2] at q
          k_all
          exact q
        · rw [if_neg h2] at q
          k_all
          exact q
      · k_all
        refine ⟨_, rfl, rfl, fun j h0 h2 => ?_⟩
        by_cases e : j = (0 : Int) + (i : Int)
        · rw [e]; exact h1
        · exact n j h0 (by omega)
    · obtain ⟨z, rfl, rfl, n⟩ := h'
      exact (ord_some ok.1 hf n).elim
end TP

/-! T -/
set_option Elab.async false
set_option linter.all false
set_option maxRecDepth 100000
set_option maxHeartbeats 4000000
namespace TP
open PySem PySem.Spec PyProof.Rows L2
open PySem.W (Datum DatumOrd Holds HoldAll minOf maxOf Tup EachIs T4)
/-! ### sorted of data, tuples of four, unpacking of lists -/
theorem d_t4 {α β γ δ : Type} [DecidableEq α] [Datum α] [DecidableEq β] [Datum β] [DecidableEq γ] [Datum γ] [DecidableEq δ] [Datum δ] {K : PySem.W.Frag} {H : Hp} {a : Addr} {v1 v2 v3 v4 : V} {t : T4 α β γ δ} (h : SqT K H a [v1, v2, v3, v4]) (h1 : DAt K H v1 t.a) (h2 : DAt K H v2 t.b) (h3 : DAt K H v3 t.c) (h4 : DAt K H v4 t.d) : DAt K H (.ref a) t :=
  .tup h (.cons h1 (.cons h2 (.cons h3 (.cons h4 .nil))))
theorem t4_sortable {α β γ δ : Type} [DecidableEq α] [Datum α] [DecidableEq β] [Datum β] [DecidableEq γ] [Datum γ] [DecidableEq δ] [Datum δ] (rows : List (T4 α β γ δ)) : PySem.W.Sortable (rows.map Datum.toD) :=
  PySem.W.Sortable.tuples fun b => ⟨_, _, rfl⟩
theorem w_gL {K : PySem.W.Frag} {H : Hp} {a : Addr} {xs : List V} {gs : TGs} {σ : L2.St} {QS : L2.St → Hp → Prop} {n : Nat} (h : SqL K H a xs) (e : xs.length = n) (q : gs xs σ H QS) : gLst K n gs (.ref a) σ H QS := ⟨a, xs, rfl, h, e, q⟩
end TP

/-! W26 -/
set_option Elab.async false
set_option linter.all false
set_option maxRecDepth 100000
set_option maxHeartbeats 4000000
-- k_mem: a fact of the heap as it is now, from an older one; k_upd: one step of a reading; k_all: as many as go

namespace TP
open PySem PySem.Spec PyProof.Rows L2 LamX
open PySem.W (minOf maxOf Tup DatumOrd Datum T4)
variable {P : Program} {w : World} {K : PySem.W.Frag} {mg : Str → Option Value} {base : Heap}
/-! ### _law_due -/
abbrev Row4 := T4 (Tup Int) (Tup Int) Int Int
structure LRow where
  faces : List Int
  len : Int
  wide : Int
def LRow.Ok (r : LRow) : Prop := 0 < r.faces.length ∧ r.faces.length ≤ 400 ∧ ∀ f ∈ r.faces, FaceOk f
def LRowAt (K : PySem.W.Frag) (H : Hp) (v : V) (r : LRow) : Prop := ∃ p t, v = .ref p ∧ SqL K H p [.ref t, .int r.len, .int r.wide] ∧ SqT K H t (vi r.faces)
theorem LRowAt.ex {H H' : Hp} {v : V} {r : LRow} (h : LRowAt K H v r) (e : Ex H H') : LRowAt K H' v r := by
  obtain ⟨p, t, ev, h1, h2⟩ := h
  exact ⟨p, t, ev, ex_l e h1, ex_t e h2⟩
def ledRow (h : How) (F : List Int) : List Int := leastBegun (F.map fun f => ledFace f h)
def dueRow (h : How) (r : LRow) : Row4 := ⟨⟨leastRow (ledRow h r.faces)⟩, ⟨ledRow h r.faces⟩, r.len, r.wide⟩
def dueM (h : How) (rows : List LRow) : List Row4 := (rows.map (dueRow h)).mergeSort leX
theorem minTup_len (L : List Int) (n0 : 0 < L.length) : (leastBegun L).length = L.length := by
  obtain ⟨x, xs, ex⟩ := rots_cons n0
  unfold leastBegun
  have hm : minTup (rotsOf L) ∈ rotsOf L := by
    rw [ex]
    rcases minOf_mem x xs with h | h
    · show minOf x xs ∈ _
      rw [h]; exact List.mem_cons_self
    · exact List.mem_cons_of_mem _ h
  unfold rotsOf at hm
  obtain ⟨i, hi, he⟩ := List.mem_map.mp hm
  unfold rotsOf
  rw [← he]
  unfold rotL
  rw [List.length_append, List.length_drop, List.length_take]
  have := List.mem_range.mp hi
  omega
theorem noLs_ints : ∀ ns : List Int, noLs (ns.map Datum.toD) = true
  | [] => rfl
  | n :: ns => by
    show (noL (.int n) && noLs (ns.map Datum.toD)) = true
    rw [noLs_ints ns]
    rfl
theorem row4_noL (r : Row4) : noL (Datum.toD r) = true := by
  show (noLs (r.a.items.map Datum.toD) && (noLs (r.b.items.map Datum.toD) && _)) = true
  rw [noLs_ints, noLs_ints]
  rfl
theorem rows4_noL : ∀ rs : List Row4, noLs (rs.map Datum.toD) = true
  | [] => rfl
  | r :: rs => by
    show (noL (Datum.toD r) && noLs (rs.map Datum.toD)) = true
    rw [row4_noL, rows4_noL rs]
    rfl
theorem take_snoc {β : Type} {xs : List β} {i : Nat} {x : β} (h : xs[i]? = some x) : xs.take (i + 1) = xs.take i ++ [x] := by
  rw [List.take_succ, h]
  rfl
def spDue (K : PySem.W.Frag) : Sp := fun vs H Q _ => ∃ a u xs rows h, vs = [.ref a, u] ∧ SqL K H a xs ∧ Al (LRowAt K H) xs rows ∧ rows.length ≤ 50000 ∧ (∀ r ∈ rows, r.Ok) ∧ HowAt K H u h ∧ HowOk h ∧ ∀ p H' ys, H p = none → Ex H H' → H' p = some (.lst ys) → DAll K H' ys (dueM h rows) → Q (.ref p) H'
theorem C_law_due (E : Env K mg) : FnC P w K mg base "_law_due" 3 ["_law_lanes_here", "_law_how_here"] [] (spDue K) := by
  have C_law_turned_least := C_law_turned_least (P := P) (w := w) (base := base) E
  have C_law_least_row := C_law_least_row (P := P) (w := w) (base := base) E
  have C_law_led_face := C_law_led_face (P := P) (w := w) (base := base) E
  refine .of E.d_law_due E.g_law_due sc_law_due (fun vs H Q E h => ?_) (fun _ _ _ _ _ _ us hl => match us, hl with | [_, _], _ => rfl) (fun cdv A outer s0 H vs Q E' hr h => ?_)
  · obtain ⟨a, u, xs, rows, h, rfl, _⟩ := h
    rfl
  · obtain ⟨a, u, xs, rows, h, rfl, ha, hx, hn, ok, hh, hok, q⟩ := h
    have hsr : ∀ {A : Around}, Room 2 A → A.units + 100 < cLine := fun r => by have := r.un; omega
    refine ⟨_, (pss_cons (ps_set (i := 2) sc_law_due.nd rfl (by first | exact Or.inl rfl | exact Or.inr rfl) (pe_lst pa_nil))
      (pss_cons (ps_for PassesOwn.never rfl (pi_list (pv 0)) (pg_lst (n := 3) rfl (pgs_cons (pg_name (i := 3) sc_law_due.nd rfl (by first | exact Or.inl rfl | exact Or.inr rfl)) (pgs_cons (pg_name (i := 4) sc_law_due.nd rfl (by first | exact Or.inl rfl | exact Or.inr rfl)) (pgs_cons (pg_name (i := 5) sc_law_due.nd rfl (by first | exact Or.inl rfl | exact Or.inr rfl)) pgs_nil)))) (pss_cons (ps_set (i := 6) sc_law_due.nd rfl (by first | exact Or.inl rfl | exact Or.inr rfl) (pe_c C_law_turned_least (hr.mono (by decide)) rfl (pa_cons (pe_lc (own := [("_law_face", 7)]) rfl sc_law_due.nd (pi_tup (pv 3)) (blkOk_by (own := [("_law_face", 7)]) (N := ["_law_lanes_here", "_law_how_here", "_law_rows", "_law_faces", "_law_length", "_law_breadth", "_law_seen", "_law_face"]) (sc := defScope s_law_due) (by decide +kernel)) (fun _ _ _ _ _ => by exact (pg_cast (pg_name (i := 7) sc_law_due.nd rfl (by first | exact Or.inl rfl | exact Or.inr rfl)) (by (try simp only [blk_K]); rfl))) (fun _ _ _ _ _ => by exact (pts_cast pts_nil (by (try simp only [blk_K]); rfl))) (fun _ _ _ _ _ => by exact (pe_cast (pe_c C_law_led_face (hr.mono (by decide)) rfl (pa_cons (pv 7) (pa_cons (pv 1) pa_nil))) (by (try simp only [blk_K]); rfl)))) pa_nil)))
      (pss_one (ps_expr (pe_bm PySem.F.plainAttrs_list PySem.F.slot_list_append PySem.F.type_list_append mt_append (pv 2) (pa_cons (pe_tup (pa_cons (pe_c C_law_least_row (hr.mono (by decide)) rfl (pa_cons (pv 6) pa_nil)) (pa_cons (pv 6) (pa_cons (pv 4) (pa_cons (pv 5) pa_nil))))) pa_nil))))))
      (pss_one (ps_ret (pe_callB (cr_sortX (α := T4 (Tup Int) (Tup Int) Int Int) (hsr hr)) (by rfl) E.b_sorted (by decide +kernel) (pa_cons (pv 2) pa_nil)))))), ?_⟩
    k_all
    rename_i l nl H1 e1 l1
    refine w_itL (ex_l e1 ha) ?_
    refine for_list (xs := xs) (fun i σ H' => ∃ z3 z4 z5 z6, σ = [some (.ref a), some u, some (.ref l), z3, z4, z5, z6, none] ∧ Ex H H' ∧ ∃ ys, H' l = some (.lst ys) ∧ DAll K H' ys ((rows.take i).map (dueRow h))) ⟨_, _, _, _, rfl, e1, [], l1, DAll.nil⟩ (fun i σ H' _ h' => ?_) (fun i x σ H' hi h' => ?_) (fun σ H' h' => ?_)
    · obtain ⟨_, _, _, _, _, e, _⟩ := h'
      exact ex_l e ha
    · obtain ⟨z3, z4, z5, z6, rfl, e, ys, l2, hd⟩ := h'
      obtain ⟨r, hr'⟩ : ∃ r, rows[i]? = some r := by
        have := (List.getElem?_eq_some_iff.mp hi).1
        rw [hx.1] at this
        exact ⟨_, List.getElem?_eq_getElem this⟩
      obtain ⟨p, t, rfl, hp, ht⟩ := (hx.2 i x r hi hr').ex e
      obtain ⟨r0, r4, rf⟩ := ok r (List.mem_of_getElem? hr')
      have hv : (vi r.faces).length = r.faces.length := by unfold vi; rw [List.length_map]
      refine w_gL hp rfl ?_
      k_all
      refine w_itT ht ?_
      refine lcT (G := fun i y _ => (vi (r.faces.map fun f => ledFace f h))[i]? = some y) (fun i y H1 H2 e h => h) (fun i y H1 D acc acc' hD h => h) (by omega) ht (fun j y H2 hj e2 => ?_) mg_name (fun p2 H2 zs np2 e2 l3 told => ?_)
      · refine ⟨rfl, rfl, fun QV qv => ?_⟩
        unfold vi at hj
        rw [List.getElem?_map] at hj
        cases hf : r.faces[j]? with
        | none => rw [hf] at hj; cases hj
        | some f =>
          rw [hf] at hj
          cases hj
          k_all
          refine ⟨f, u, h, rfl, rf f (List.mem_of_getElem? hf), hh.mono (e.trans e2), hok, ?_⟩
          refine qv _ _ (Evl.Ex.refl _) ?_
          unfold vi
          rw [List.getElem?_map, List.getElem?_map, hf]
          rfl
      · have hz : zs = vi (r.faces.map fun f => ledFace f h) := by
          refine List.ext_getElem? fun k => ?_
          cases hk : zs[k]? with
          | some y => exact (told.2 k y hk).symm
          | none =>
            have h1 := List.getElem?_eq_none_iff.mp hk
            rw [told.1] at h1
            refine (List.getElem?_eq_none_iff.mpr ?_).symm
            unfold vi at h1 ⊢
            rw [List.length_map] at h1
            rw [List.length_map, List.length_map]
            exact h1
        rw [hz] at l3
        have nf : (r.faces.map fun f => ledFace f h).length = r.faces.length := by rw [List.length_map]
        have nl' : (ledRow h r.faces).length = r.faces.length := by
          unfold ledRow
          rw [minTup_len _ (by omega)]
          exact nf
        k_all
        refine ⟨_, _, rfl, .inl (sl_at l3), by omega, by omega, fun p4 H4 e4 h4 => ?_⟩
        change SqT K H4 p4 (vi (ledRow h r.faces)) at h4
        have l24 := sl_at (K := K) ((e2.trans e4) _ _ l2)
        k_all
        refine ⟨_, _, rfl, h4, by omega, by omega, fun p5 H5 e5 h5 => ?_⟩
        k_all
        rename_i p6 np6 H6 e6 l6
        have ee := (((e2.trans e4).trans e5).trans e6)
        have l26 := ee _ _ l2
        refine w_app l26 (by have := hd.len; rw [List.length_map, List.length_take] at this; have := (List.getElem?_eq_some_iff.mp hr').1; omega) ?_
        generalize hG : upd _ _ _ = H7
        have e7 : Ex H H7 := ex_mut hG (e.trans ee) nl
        have l7 := at_of hG
        k_all
        refine ⟨_, _, _, _, rfl, e7, _, l7, ?_⟩
        have d6 : DAt K H6 (.ref p6) (dueRow h r) := d_t4 (st_at l6) (d_ints (ex_t e6 h5)) (d_ints (ex_t (e5.trans e6) h4)) d_int d_int
        have d7 : DAt K H7 (.ref p6) (dueRow h r) := hG ▸ d6.mu (row4_noL _) l26
        have dd : DAll K H7 ys ((rows.take i).map (dueRow h)) := hG ▸ dpAll_mu l26 _ _ (rows4_noL _) (hd.ex ee)
        rw [take_snoc hr', List.map_append]
        exact dd.app (DAll.cons d7 DAll.nil)
    · obtain ⟨z3, z4, z5, z6, rfl, e, ys, l2, hd⟩ := h'
      rw [hx.1, List.take_length] at hd
      k_all
      refine w_sortX (sl_at l2) hd (by rw [hd.len, List.length_map]; exact hn) (t4_sortable _) fun p3 H3 ys3 np3 e3 l3 d3 => ?_
      exact q p3 H3 ys3 (Evl.fresh_back e np3) (e.trans e3) l3 d3
end TP

/-! W27 -/
set_option Elab.async false
set_option linter.all false
set_option maxRecDepth 100000
set_option maxHeartbeats 4000000
-- k_mem: a fact of the heap as it is now, from an older one; k_upd: one step of a reading; k_all: as many as go

namespace TP
open PySem PySem.Spec PyProof.Rows L2 LamX
open PySem.W (minOf maxOf Tup DatumOrd Datum T4)
variable {P : Program} {w : World} {K : PySem.W.Frag} {mg : Str → Option Value} {base : Heap}
/-! ### _law_tuples -/
theorem w_nv {ta : TE} {σ : L2.St} {H : Hp} {Q : VK} (h : ta σ H fun x H1 => ∃ c, x = .bl c ∧ Q (.bl (!c)) H1) : tNotV ta σ H Q := h
theorem w_nT {ta : TE} {σ : L2.St} {H : Hp} {Q : VK} (h : ta σ H fun x H1 => ∃ k, TruV K x H1 k ∧ Q (.bl (!k)) H1) : tNotT K ta σ H Q := h
theorem isi_int_tup {H : Hp} {n : Int} {Q : VK} (q : Q (.bl false) H) : rIsi K [.int n, .ty "tuple"] H Q := ⟨_, _, _, _, false, rfl, .ty _, .base (.int n), kit_ty (by decide +kernel), q⟩
theorem isi_tup_tup {H : Hp} {a : Addr} {xs : List V} {Q : VK} (h : SqT K H a xs) (q : Q (.bl true) H) : rIsi K [.ref a, .ty "tuple"] H Q := by
  have ty : TyX K H (.ref a) (.type "tuple") := by
    rcases h with (h | ⟨o, h⟩) | ⟨o, its, n, h, hc, _⟩
    · exact .base (.tup h)
    · exact .fTuple h
    · exact .kTuple h hc
  exact ⟨_, _, _, _, true, rfl, .ty _, ty, kit_ty (by decide +kernel), q⟩
theorem C_tuples0 (E : Env K mg) : FnC P w K mg base "_law_tuples" 1 ["_law_thing"] [] (fun _ _ _ _ => False) :=
  .of (k := 0) E.d_law_tuples E.g_law_tuples sc_law_tuples (fun vs H Q E h => h.elim) (fun _ _ _ _ _ _ us hl => match us, hl with | [_], _ => rfl) (fun cdv A outer s0 H vs Q E' hr h => h.elim)
def spTupI : Sp := fun vs H Q _ => ∃ n : Int, vs = [.int n] ∧ Q (.bl true) H
theorem C_tuples1 (E : Env K mg) : FnC P w K mg base "_law_tuples" 2 ["_law_thing"] [] spTupI := by
  have C_law_tuples := C_tuples0 (P := P) (w := w) (base := base) E
  refine .of E.d_law_tuples E.g_law_tuples sc_law_tuples (fun vs H Q E h => ?_) (fun _ _ _ _ _ _ us hl => match us, hl with | [_], _ => rfl) (fun cdv A outer s0 H vs Q E' hr h => ?_)
  · obtain ⟨n, rfl, _⟩ := h
    rfl
  · obtain ⟨n, rfl, q⟩ := h
    refine ⟨_, (pss_cons (ps_if (pt_val (pe_callB call_isi (by rfl) E.b_isinstance (by decide +kernel) (pa_cons (pv 0) (pa_cons (pe_bltn (v := .ty "tuple") (by rfl) E.b_tuple (by decide +kernel) rfl) pa_nil)))) (pss_one (ps_ret (pe_notT (pe_lc (own := [("_law_item", 1)]) rfl sc_law_tuples.nd (pi_tup (pv 0)) (blkOk_by (own := [("_law_item", 1)]) (N := ["_law_thing", "_law_item"]) (sc := defScope s_law_tuples) (by decide +kernel)) (fun _ _ _ _ _ => by exact (pg_cast (pg_name (i := 1) sc_law_tuples.nd rfl (by first | exact Or.inl rfl | exact Or.inr rfl)) (by (try simp only [blk_K]); rfl))) (fun _ _ _ _ _ => by exact (pts_cast (pts_one (pt_not (pt_val (pe_c C_law_tuples (hr.mono (by decide)) rfl (pa_cons (pv 1) pa_nil))))) (by (try simp only [blk_K]); rfl))) (fun _ _ _ _ _ => by exact (pe_cast pe_int (by (try simp only [blk_K]); rfl))))))) pss_nil)
      (pss_one (ps_ret (pe_or (pe_cmpR op_isN (pv 0) pe_non (nomark _)) (pe_one (pe_and (pe_callB call_isi (by rfl) E.b_isinstance (by decide +kernel) (pa_cons (pv 0) (pa_cons (pe_bltn (v := .ty "int") (by rfl) E.b_int (by decide +kernel) rfl) pa_nil))) (pe_one (pe_not (pe_callB call_isi (by rfl) E.b_isinstance (by decide +kernel) (pa_cons (pv 0) (pa_cons (pe_bltn (v := .ty "bool") (by rfl) E.b_bool (by decide +kernel) rfl) pa_nil))))))))))), ?_⟩
    k_all
    refine isi_int_tup ?_
    k_all
    refine isi_int_int ?_
    k_all
    refine w_nv ?_
    k_all
    refine isi_int_bool ⟨_, rfl, ?_⟩
    exact q
def spTupUp (K : PySem.W.Frag) (sp : Sp) : Sp := fun vs H Q _ => ∃ a xs, vs = [.ref a] ∧ SqT K H a xs ∧ xs.length ≤ 100000 ∧ (∀ x ∈ xs, ∀ H' QV, Ex H H' → (∀ H2, Ex H' H2 → QV (.bl true) H2) → sp [x] H' QV E0) ∧ ∀ H', Ex H H' → Q (.bl true) H'
theorem C_tuplesUp (E : Env K mg) {k : Nat} {sp : Sp} (C_law_tuples : FnC P w K mg base "_law_tuples" k ["_law_thing"] [] sp) : FnC P w K mg base "_law_tuples" (k + 1) ["_law_thing"] [] (spTupUp K sp) := by
  refine .of E.d_law_tuples E.g_law_tuples sc_law_tuples (fun vs H Q E h => ?_) (fun _ _ _ _ _ _ us hl => match us, hl with | [_], _ => rfl) (fun cdv A outer s0 H vs Q E' hr h => ?_)
  · obtain ⟨a, xs, rfl, _⟩ := h
    rfl
  · obtain ⟨a, xs, rfl, ha, hn, hx, q⟩ := h
    refine ⟨_, (pss_cons (ps_if (pt_val (pe_callB call_isi (by rfl) E.b_isinstance (by decide +kernel) (pa_cons (pv 0) (pa_cons (pe_bltn (v := .ty "tuple") (by rfl) E.b_tuple (by decide +kernel) rfl) pa_nil)))) (pss_one (ps_ret (pe_notT (pe_lc (own := [("_law_item", 1)]) rfl sc_law_tuples.nd (pi_tup (pv 0)) (blkOk_by (own := [("_law_item", 1)]) (N := ["_law_thing", "_law_item"]) (sc := defScope s_law_tuples) (by decide +kernel)) (fun _ _ _ _ _ => by exact (pg_cast (pg_name (i := 1) sc_law_tuples.nd rfl (by first | exact Or.inl rfl | exact Or.inr rfl)) (by (try simp only [blk_K]); rfl))) (fun _ _ _ _ _ => by exact (pts_cast (pts_one (pt_not (pt_val (pe_c C_law_tuples (hr.mono (Nat.le_refl _)) rfl (pa_cons (pv 1) pa_nil))))) (by (try simp only [blk_K]); rfl))) (fun _ _ _ _ _ => by exact (pe_cast pe_int (by (try simp only [blk_K]); rfl))))))) pss_nil)
      (pss_one (ps_ret (pe_or (pe_cmpR op_isN (pv 0) pe_non (nomark _)) (pe_one (pe_and (pe_callB call_isi (by rfl) E.b_isinstance (by decide +kernel) (pa_cons (pv 0) (pa_cons (pe_bltn (v := .ty "int") (by rfl) E.b_int (by decide +kernel) rfl) pa_nil))) (pe_one (pe_not (pe_callB call_isi (by rfl) E.b_isinstance (by decide +kernel) (pa_cons (pv 0) (pa_cons (pe_bltn (v := .ty "bool") (by rfl) E.b_bool (by decide +kernel) rfl) pa_nil))))))))))), ?_⟩
    k_all
    refine isi_tup_tup ha ?_
    k_all
    refine w_nT ?_
    k_all
    refine w_itT ha ?_
    refine lcTF (G := fun _ _ _ => True) (f := fun _ => false) (fun _ _ _ _ _ _ => trivial) (fun _ _ _ _ _ _ _ _ => trivial) hn ha (fun i x H' hi e => ?_) mg_name (fun p H2 ys np e2 l2 told => ?_)
    · refine ⟨rfl, rfl, fun QB qb => ?_, fun h => by cases h⟩
      k_all
      refine hx x (List.mem_of_getElem? hi) _ _ e fun H3 e3 => ?_
      k_all
      exact qb _ e3
    · have hy : ys = [] := by
        have h1 := told.1
        rw [List.filter_eq_nil_iff.mpr (fun _ _ h => by cases h)] at h1
        exact List.length_eq_zero_iff.mp h1
      rw [hy] at l2
      refine ⟨false, .inl ⟨[], sl_at l2, rfl⟩, ?_⟩
      exact q _ e2
def spTups (K : PySem.W.Frag) : Sp := spTupUp K (spTupUp K spTupI)
theorem C_law_tuples (E : Env K mg) : FnC P w K mg base "_law_tuples" 4 ["_law_thing"] [] (spTups K) := C_tuplesUp E (C_tuplesUp E (C_tuples1 E))
theorem tups_of {H : Hp} {a : Addr} {ts : List V} {Q : VK} {X : XK} (ha : SqT K H a ts) (hn : ts.length ≤ 100000) (hx : ∀ x ∈ ts, ∃ t F, x = .ref t ∧ SqT K H t (vi F) ∧ F.length ≤ 100000) (q : ∀ H', Ex H H' → Q (.bl true) H') : spTups K [.ref a] H Q X := by
  refine ⟨a, ts, rfl, ha, hn, fun x hm H' QV e qv => ?_, q⟩
  obtain ⟨t, F, rfl, ht, hF⟩ := hx x hm
  refine ⟨t, _, rfl, ex_t e ht, by unfold vi; rw [List.length_map]; exact hF, fun y hy H2 QW e2 qw => ?_, qv⟩
  unfold vi at hy
  obtain ⟨n, _, rfl⟩ := List.mem_map.mp hy
  exact ⟨n, rfl, qw _ (Evl.Ex.refl _)⟩
end TP

/-! W28 -/
set_option Elab.async false
set_option linter.all false
set_option maxRecDepth 100000
set_option maxHeartbeats 4000000
-- k_mem: a fact of the heap as it is now, from an older one; k_upd: one step of a reading; k_all: as many as go

namespace TP
open PySem PySem.Spec PyProof.Rows L2 LamX
open PySem.W (minOf maxOf Tup DatumOrd Datum T4)
variable {P : Program} {w : World} {K : PySem.W.Frag} {mg : Str → Option Value} {base : Heap}
/-! ### _law_pass -/
def absI (d : Int) : Int := if d < 0 then -d else d
def gapM (s : T3) (sc : Int) (pl d : T3) (i : Int) : Int := if 0 < d.get i then s.get i * sc - pl.get i else pl.get i
def passStep (s : T3) (sc : Int) (pl d : T3) (b : Option (Int × Int)) (i : Int) : Option (Int × Int) :=
  if d.get i = 0 then b else match b with
    | none => some (gapM s sc pl d i, absI (d.get i))
    | some (g, z) => if gapM s sc pl d i * z < g * absI (d.get i) then some (gapM s sc pl d i, absI (d.get i)) else some (g, z)
def bestM (s : T3) (sc : Int) (pl d : T3) : Nat → Option (Int × Int)
  | 0 => none
  | i + 1 => passStep s sc pl d (bestM s sc pl d i) (i : Int)
def endM (pl d : T3) (g z : Int) : T3 := (pl.1 + d.1 * g / z, pl.2.1 + d.2.1 * g / z, pl.2.2 + d.2.2 * g / z)
def overStep (s : T3) (sc : Int) (d e : T3) (i : Int) : List Int := (if 0 < d.get i ∧ e.get i = s.get i * sc then [2 * i + 1] else []) ++ (if d.get i < 0 ∧ e.get i = 0 then [2 * i] else [])
def oversM (s : T3) (sc : Int) (d e : T3) : Nat → List Int
  | 0 => []
  | i + 1 => oversM s sc d e i ++ overStep s sc d e (i : Int)
def oneOf : List Int → Option Int
  | [f] => some f
  | _ => none
structure Pass where
  stop : T3
  len : Int
  over : Option Int
def passM (s : T3) (sc many : Int) (pl d : T3) : Pass :=
  match bestM s sc pl d 3 with
  | some (g, z) => ⟨endM pl d g z, g * (many / z), oneOf (oversM s sc d (endM pl d g z) 3)⟩
  | none => ⟨pl, 0, none⟩
def oi : Option Int → V
  | none => .non
  | some n => .int n
def DirB (d : T3) : Prop := (∀ i, -1000000 < d.get i ∧ d.get i < 1000000) ∧ (d.get 0 ≠ 0 ∨ d.get 1 ≠ 0 ∨ d.get 2 ≠ 0)
def SideB (s : T3) : Prop := ∀ i, 0 ≤ s.get i ∧ s.get i < 1000000
def BestAt (K : PySem.W.Frag) (H : Hp) (v : V) : Option (Int × Int) → Prop
  | none => v = .non
  | some (g, z) => ∃ p, v = .ref p ∧ SqT K H p (vi [g, z])
theorem BestAt.ex {H H' : Hp} {v : V} {b : Option (Int × Int)} (h : BestAt K H v b) (e : Ex H H') : BestAt K H' v b := by
  cases b with
  | none => exact h
  | some p => obtain ⟨a, ev, h1⟩ := h; exact ⟨a, ev, ex_t e h1⟩
theorem bestM_ok {s : T3} {sc : Int} {pl d : T3} (hd : DirB d) : ∀ (n : Nat) g z, bestM s sc pl d n = some (g, z) → 0 < z ∧ z < 1000000
  | 0, g, z, h => by cases h
  | n + 1, g, z, h => by
    have ih := bestM_ok (s := s) (sc := sc) (pl := pl) hd n
    have hb := hd.1 (n : Int)
    unfold bestM passStep at h
    split at h
    · exact ih g z h
    · rename_i h0
      have ha : 0 < absI (d.get n) ∧ absI (d.get n) < 1000000 := by unfold absI; split <;> omega
      cases hB : bestM s sc pl d n with
      | none => rw [hB] at h; cases h; exact ha
      | some q =>
        obtain ⟨g', z'⟩ := q
        rw [hB] at h
        dsimp only at h
        split at h
        · cases h; exact ha
        · cases h; exact ih _ _ hB
theorem bestM_some {s : T3} {sc : Int} {pl d : T3} (hd : DirB d) : ∃ g z, bestM s sc pl d 3 = some (g, z) := by
  have keep : ∀ b i, b ≠ none → passStep s sc pl d b i ≠ none := fun b i h => by
    unfold passStep
    split
    · exact h
    · cases b with
      | none => exact absurd rfl h
      | some q => dsimp only; split <;> exact fun z => by cases z
  have new : ∀ b i, d.get i ≠ 0 → passStep s sc pl d b i ≠ none := fun b i h => by
    unfold passStep
    rw [if_neg h]
    cases b with
    | none => exact fun z => by cases z
    | some q => dsimp only; split <;> exact fun z => by cases z
  have h3 : bestM s sc pl d 3 ≠ none := by
    rcases hd.2 with h | h | h
    · exact keep _ _ (keep _ _ (new _ _ h))
    · exact keep _ _ (new _ _ h)
    · exact new _ _ h
  cases hB : bestM s sc pl d 3 with
  | none => exact absurd hB h3
  | some q => exact ⟨q.1, q.2, rfl⟩
theorem overs_len {s : T3} {sc : Int} {d e : T3} : ∀ n : Nat, (oversM s sc d e n).length ≤ 2 * n
  | 0 => Nat.le_refl _
  | n + 1 => by
    have ih := overs_len (s := s) (sc := sc) (d := d) (e := e) n
    unfold oversM overStep
    rw [List.length_append, List.length_append]
    have h1 : (if 0 < d.get (n : Int) ∧ e.get (n : Int) = s.get (n : Int) * sc then [2 * (n : Int) + 1] else []).length ≤ 1 := by split <;> simp
    have h2 : (if d.get (n : Int) < 0 ∧ e.get (n : Int) = 0 then [2 * (n : Int)] else []).length ≤ 1 := by split <;> simp
    omega
def spPass (K : PySem.W.Frag) : Sp := fun vs H Q _ => ∃ a sc many b c s pl d, vs = [.ref a, .int sc, .int many, .ref b, .ref c] ∧ SqL K H a (vi (T3.l s)) ∧ SqT K H b (vi (T3.l pl)) ∧ SqT K H c (vi (T3.l d)) ∧ SideB s ∧ DirB d ∧ (0 ≤ many ∧ many < 1000000) ∧
  ∀ p t H', Ex H H' → H p = none → H' p = some (.tup [.ref t, .int (passM s sc many pl d).len, oi (passM s sc many pl d).over]) → SqT K H' t (vi (T3.l (passM s sc many pl d).stop)) → Q (.ref p) H'
theorem C_law_pass (E : Env K mg) : FnC P w K mg base "_law_pass" 1 ["_law_sides_here", "_law_scale", "_law_many", "_law_place", "_law_steps_here"] [] (spPass K) := by
  refine .of E.d_law_pass E.g_law_pass sc_law_pass (fun vs H Q E h => ?_) (fun _ _ _ _ _ _ us hl => match us, hl with | [_, _, _, _, _], _ => rfl) (fun cdv A outer s0 H vs Q E' hr h => ?_)
  · obtain ⟨a, sc, many, b, c, s, pl, d, rfl, _⟩ := h
    rfl
  · obtain ⟨a, sc, many, b, c, s, pl, d, rfl, ha, hb, hc, hs, hd, hm, q⟩ := h
    refine ⟨_, (pss_cons (ps_set (i := 5) sc_law_pass.nd rfl (by first | exact Or.inl rfl | exact Or.inr rfl) pe_non)
      (pss_cons (ps_for PassesOwn.never rfl (pi_range1 rfl E.b_range (pa_cons pe_int pa_nil)) (pg_name (i := 6) sc_law_pass.nd rfl (by first | exact Or.inl rfl | exact Or.inr rfl)) (pss_one (ps_if (pt_cmpR op_ne (pe_ix ix_tup (pv 4) (pv 6) (fun _ _ => rfl)) pe_int (nomark _)) (pss_cons (ps_set (i := 7) sc_law_pass.nd rfl (by first | exact Or.inl rfl | exact Or.inr rfl) (pe_ifExp (pt_cmpR op_gt (pe_ix ix_tup (pv 4) (pv 6) (fun _ _ => rfl)) pe_int (nomark _)) (pe_op op_sub (pe_op op_mul (pe_ix ix_list (pv 0) (pv 6) (fun _ _ => rfl)) (pv 1)) (pe_ix ix_tup (pv 3) (pv 6) (fun _ _ => rfl))) (pe_ix ix_tup (pv 3) (pv 6) (fun _ _ => rfl))))
      (pss_cons (ps_set (i := 8) sc_law_pass.nd rfl (by first | exact Or.inl rfl | exact Or.inr rfl) (pe_callB call_abs (by rfl) E.b_abs (by decide +kernel) (pa_cons (pe_ix ix_tup (pv 4) (pv 6) (fun _ _ => rfl)) pa_nil)))
      (pss_one (ps_if (PW.pt (pw_or (pt_cmpR op_isN (pv 5) pe_non (nomark _)) (pw_or1 (pt_cmpR op_lt (pe_op op_mul (pv 7) (pe_ix ix_tup (pv 5) pe_int (fun _ _ => rfl))) (pe_op op_mul (pe_ix ix_tup (pv 5) pe_int (fun _ _ => rfl)) (pv 8)) (nomark _))))) (pss_one (ps_set (i := 5) sc_law_pass.nd rfl (by first | exact Or.inl rfl | exact Or.inr rfl) (pe_tup (pa_cons (pv 7) (pa_cons (pv 8) pa_nil))))) pss_nil)))) pss_nil)))
      (pss_cons (ps_set (i := 9) sc_law_pass.nd rfl (by first | exact Or.inl rfl | exact Or.inr rfl) (pe_callTy call_tuple_of (by rfl) E.b_tuple (by decide +kernel) (pa_cons (pe_lc (own := [("_law_axis", 6)]) rfl sc_law_pass.nd (pi_range1 rfl E.b_range (pa_cons pe_int pa_nil)) (blkOk_by (own := [("_law_axis", 6)]) (N := ["_law_sides_here", "_law_scale", "_law_many", "_law_place", "_law_steps_here", "_law_best", "_law_axis", "_law_gap", "_law_size", "_law_end", "_law_over_here"]) (sc := defScope s_law_pass) (by decide +kernel)) (fun _ _ _ _ _ => by exact (pg_cast (pg_name (i := 6) sc_law_pass.nd rfl (by first | exact Or.inl rfl | exact Or.inr rfl)) (by (try simp only [blk_K]); rfl))) (fun _ _ _ _ _ => by exact (pts_cast pts_nil (by (try simp only [blk_K]); rfl))) (fun _ _ _ _ _ => by exact (pe_cast (pe_op op_add (pe_ix ix_tup (pv 3) (pv 6) (fun _ _ => rfl)) (pe_op op_fdiv (pe_op op_mul (pe_ix ix_tup (pv 4) (pv 6) (fun _ _ => rfl)) (pe_ix ix_tup (pv 5) pe_int (fun _ _ => rfl))) (pe_ix ix_tup (pv 5) pe_int (fun _ _ => rfl)))) (by (try simp only [blk_K]); rfl)))) pa_nil)))
      (pss_cons (ps_set (i := 10) sc_law_pass.nd rfl (by first | exact Or.inl rfl | exact Or.inr rfl) (pe_lst pa_nil))
      (pss_cons (ps_for PassesOwn.never rfl (pi_range1 rfl E.b_range (pa_cons pe_int pa_nil)) (pg_name (i := 6) sc_law_pass.nd rfl (by first | exact Or.inl rfl | exact Or.inr rfl)) (pss_cons (ps_if (PW.pt (pw_and (pt_cmpR op_gt (pe_ix ix_tup (pv 4) (pv 6) (fun _ _ => rfl)) pe_int (nomark _)) (pw_and1 (pt_cmpR op_eq (pe_ix ix_tup (pv 9) (pv 6) (fun _ _ => rfl)) (pe_op op_mul (pe_ix ix_list (pv 0) (pv 6) (fun _ _ => rfl)) (pv 1)) (nomark _))))) (pss_one (ps_expr (pe_bm PySem.F.plainAttrs_list PySem.F.slot_list_append PySem.F.type_list_append mt_append (pv 10) (pa_cons (pe_op op_add (pe_op op_mul pe_int (pv 6)) pe_int) pa_nil)))) pss_nil)
      (pss_one (ps_if (PW.pt (pw_and (pt_cmpR op_lt (pe_ix ix_tup (pv 4) (pv 6) (fun _ _ => rfl)) pe_int (nomark _)) (pw_and1 (pt_cmpR op_eq (pe_ix ix_tup (pv 9) (pv 6) (fun _ _ => rfl)) pe_int (nomark _))))) (pss_one (ps_expr (pe_bm PySem.F.plainAttrs_list PySem.F.slot_list_append PySem.F.type_list_append mt_append (pv 10) (pa_cons (pe_op op_mul pe_int (pv 6)) pa_nil)))) pss_nil))))
      (pss_one (ps_ret (pe_tup (pa_cons (pv 9) (pa_cons (pe_op op_mul (pe_ix ix_tup (pv 5) pe_int (fun _ _ => rfl)) (pe_op op_fdiv (pv 2) (pe_ix ix_tup (pv 5) pe_int (fun _ _ => rfl)))) (pa_cons (pe_ifExp (pt_cmpR op_eq (pe_callB call_len_seq (by rfl) E.b_len PySem.boot_len (pa_cons (pv 10) pa_nil)) pe_int (nomark _)) (pe_ix ix_list (pv 10) pe_int (fun _ _ => rfl)) pe_non) pa_nil))))))))))), ?_⟩
    k_all
    refine for_range (n := 3) (fun i σ H' => ∃ v z6 z7 z8, σ = [some (.ref a), some (.int sc), some (.int many), some (.ref b), some (.ref c), some v, z6, z7, z8, none, none] ∧ Ex H H' ∧ BestAt K H' v (bestM s sc pl d i)) ⟨_, _, _, _, rfl, Evl.Ex.refl _, rfl⟩ (fun i σ H' hi h' => ?_) (fun σ H' h' => ?_)
    · obtain ⟨v, z6, z7, z8, rfl, e, hv⟩ := h'
      have i0 : (0 : Int) ≤ (0 : Int) + (i : Int) := by omega
      have i2 : (0 : Int) + (i : Int) ≤ 2 := by omega
      have ei : (0 : Int) + (i : Int) = (i : Int) := by omega
      have di := hd.1 (i : Int)
      have si := hs (i : Int)
      k_all
      refine w_ixT (ex_t e hc) (at3 d i0 i2) ?_
      rw [ei]
      k_all
      refine if_nint (fun h1 => ?_) (fun h1 => ?_)
      · have j0 : (0 : Int) ≤ (i : Int) := by omega
        have j2 : (i : Int) ≤ 2 := by omega
        k_all
        refine w_ixT (ex_t e hc) (at3 d j0 j2) ?_
        k_all
        refine if_dec (fun h2 => ?_) (fun h2 => ?_)
        focus
          k_all
          refine w_ixL (ex_l e ha) (at3 s j0 j2) ?_
          k_all
          refine w_ixT (ex_t e hb) (at3 pl j0 j2) ?_
          have hg : s.get i * sc - pl.get i = gapM s sc pl d i := by unfold gapM; rw [if_pos h2]
          refine w_I0 ?_
          dsimp only
          rw [hg]
        rotate_left
        focus
          k_all
          refine w_ixT (ex_t e hb) (at3 pl j0 j2) ?_
          have hg : pl.get i = gapM s sc pl d i := by unfold gapM; rw [if_neg h2]
          rw [hg]
        all_goals
          k_all
          refine w_ixT (ex_t e hc) (at3 d j0 j2) ?_
          k_all
          generalize hB : bestM s sc pl d i = bb at hv
          match bb, hv with
          | none, hv =>
            cases hv
            k_all
            refine ⟨_, _, _, _, rfl, e.trans (by assumption), ?_⟩
            show BestAt K _ _ (passStep s sc pl d (bestM s sc pl d i) i)
            unfold passStep
            rw [if_neg h1, hB]
            exact ⟨_, rfl, st_at (by assumption)⟩
          | some (g, z), hv =>
            obtain ⟨pb, rfl, hpb⟩ := hv
            obtain ⟨z0, z1⟩ := bestM_ok hd i g z hB
            k_all
            refine if_dec (fun h3 => ?_) (fun h3 => ?_)
            · have h4 : gapM s sc pl d i * z < g * absI (d.get i) := h3
              k_all
              refine ⟨_, _, _, _, rfl, e.trans (by assumption), ?_⟩
              show BestAt K _ _ (passStep s sc pl d (bestM s sc pl d i) i)
              unfold passStep
              rw [if_neg h1, hB]
              dsimp only
              rw [if_pos h4]
              exact ⟨_, rfl, st_at (by assumption)⟩
            · have h4 : ¬ gapM s sc pl d i * z < g * absI (d.get i) := h3
              k_all
              refine ⟨_, _, _, _, rfl, e, ?_⟩
              show BestAt K _ _ (passStep s sc pl d (bestM s sc pl d i) i)
              unfold passStep
              rw [if_neg h1, hB]
              dsimp only
              rw [if_neg h4]
              exact ⟨_, rfl, hpb⟩
      · k_all
        refine ⟨v, _, _, _, rfl, e, ?_⟩
        show BestAt K H' v (passStep s sc pl d (bestM s sc pl d i) i)
        unfold passStep
        rw [if_pos h1]
        exact hv
    · obtain ⟨v, z6, z7, z8, rfl, e, hv⟩ := h'
      obtain ⟨g, z, hB⟩ := bestM_some (s := s) (sc := sc) (pl := pl) hd
      obtain ⟨z0, z1⟩ := bestM_ok hd 3 g z hB
      rw [hB] at hv
      obtain ⟨pb, rfl, hpb⟩ := hv
      have hM : passM s sc many pl d = ⟨endM pl d g z, g * (many / z), oneOf (oversM s sc d (endM pl d g z) 3)⟩ := by
        unfold passM
        rw [hB]
      rw [hM] at q
      generalize hE : endM pl d g z = en at q
      k_all
      refine lcR (n := 3) (G := fun i y _ => (vi (T3.l en))[i]? = some y) (fun i y H1 H2 e h => h) (fun i y H1 D acc acc' hD h => h) (by decide) (fun i H2 hi e2 => ?_) mg_name (fun p2 H2 zs np2 e2 l3 told => ?_)
      · refine ⟨rfl, rfl, fun QV qv => ?_⟩
        have j0 : (0 : Int) ≤ (0 : Int) + (i : Int) := by omega
        have j2 : (0 : Int) + (i : Int) ≤ 2 := by omega
        have dj := hd.1 ((0 : Int) + (i : Int))
        have ec := e.trans e2
        have hp2 := ex_t e2 hpb
        k_all
        refine w_ixT (ex_t ec hb) (at3 pl j0 j2) ?_
        k_all
        refine w_ixT (ex_t ec hc) (at3 d j0 j2) ?_
        k_all
        refine qv _ _ (Evl.Ex.refl _) ?_
        rw [← hE]
        match i, hi with
        | 0, _ => rfl
        | 1, _ => rfl
        | 2, _ => rfl
      · have hz : zs = vi (T3.l en) := by
          have h3 : zs.length = 3 := told.1
          match zs, h3, told.2 with
          | [a, b, c], _, t =>
            have t0 := t 0 a rfl
            have t1 := t 1 b rfl
            have t2 := t 2 c rfl
            cases t0
            cases t1
            cases t2
            rfl
        rw [hz] at l3
        k_all
        refine w_tupL (sl_at l3) fun t nt => ?_
        generalize hG : upd _ _ _ = H3
        have e3 := (e.trans e2).trans (ex_of hG nt)
        have l4 := st_at (K := K) (at_of hG)
        have hp3 := ex_t (e2.trans (ex_of hG nt)) hpb
        k_all
        rename_i lo nlo H4 e4 l5
        have e04 := e3.trans e4
        have nl0 := Evl.fresh_back e3 nlo
        have he4 := ex_t e4 l4
        have hp4 := ex_t e4 hp3
        refine for_range (n := 3) (fun i σ H' => ∃ z6, σ = [some (.ref a), some (.int sc), some (.int many), some (.ref b), some (.ref c), some (.ref pb), z6, z7, z8, some (.ref t), some (.ref lo)] ∧ Ex H H' ∧ SqT K H' t (vi (T3.l en)) ∧ SqT K H' pb (vi [g, z]) ∧ H' lo = some (.lst (vi (oversM s sc d en i)))) ⟨_, rfl, e04, he4, hp4, l5⟩ (fun i σ H' hi h' => ?_) (fun σ H' h' => ?_)
        · obtain ⟨z6, rfl, e, ht, hp, hl⟩ := h'
          have i0 : (0 : Int) ≤ (0 : Int) + (i : Int) := by omega
          have i2 : (0 : Int) + (i : Int) ≤ 2 := by omega
          have ei : (0 : Int) + (i : Int) = (i : Int) := by omega
          have j0 : (0 : Int) ≤ (i : Int) := by omega
          have j2 : (i : Int) ≤ 2 := by omega
          have si := hs (i : Int)
          have nov : (oversM s sc d en i).length ≤ 2 * i := overs_len i
          have nv : ∀ L : List Int, (vi L).length = L.length := fun L => by unfold vi; rw [List.length_map]
          have step : oversM s sc d en (i + 1) = oversM s sc d en i ++ overStep s sc d en (i : Int) := rfl
          k_all
          refine w_ixT (ex_t e hc) (at3 d i0 i2) ?_
          rw [ei]
          k_all
          refine if_dec (fun h1 => ?_) (fun h1 => ?_)
          · k_all
            refine w_ixT ht (at3 en j0 j2) ?_
            k_all
            refine w_ixL (ex_l e ha) (at3 s j0 j2) ?_
            k_all
            refine if_int (fun h2 => ?_) (fun h2 => ?_)
            · have eo : overStep s sc d en (i : Int) = [2 * (i : Int) + 1] := by unfold overStep; rw [if_pos ⟨h1, h2⟩, if_neg (fun z => by omega)]; rfl
              have hl0 := sl_at (K := K) hl
              k_all
              refine w_app hl (by rw [nv]; omega) ?_
              generalize hG2 : upd _ _ _ = H5
              have e5 : Ex H H5 := ex_mut hG2 e nl0
              have l5 := at_of hG2
              have ht5 : SqT K H5 t (vi (T3.l en)) := hG2 ▸ mu_t ht hl
              have hp5 : SqT K H5 pb (vi [g, z]) := hG2 ▸ mu_t hp hl
              k_all
              refine w_ixT (ex_t e5 hc) (at3 d j0 j2) ?_
              k_all
              refine if_dec (fun h3 => absurd h3 (by omega)) (fun h3 => ?_)
              k_all
              refine ⟨_, rfl, e5, ht5, hp5, ?_⟩
              rw [step, eo]
              unfold vi at l5 ⊢
              rw [List.map_append]
              exact l5
            · have eo : overStep s sc d en (i : Int) = [] := by unfold overStep; rw [if_neg (fun z => h2 z.2), if_neg (fun z => by omega)]; rfl
              k_all
              refine w_ixT (ex_t e hc) (at3 d j0 j2) ?_
              k_all
              refine if_dec (fun h3 => absurd h3 (by omega)) (fun h3 => ?_)
              k_all
              refine ⟨_, rfl, e, ht, hp, ?_⟩
              rw [step, eo, List.append_nil]
              exact hl
          · k_all
            refine w_ixT (ex_t e hc) (at3 d j0 j2) ?_
            k_all
            refine if_dec (fun h3 => ?_) (fun h3 => ?_)
            · k_all
              refine w_ixT ht (at3 en j0 j2) ?_
              k_all
              refine if_int (fun h2 => ?_) (fun h2 => ?_)
              · have eo : overStep s sc d en (i : Int) = [2 * (i : Int)] := by unfold overStep; rw [if_neg (fun z => h1 z.1), if_pos ⟨h3, h2⟩]; rfl
                have hl0 := sl_at (K := K) hl
                k_all
                refine w_app hl (by rw [nv]; omega) ?_
                generalize hG2 : upd _ _ _ = H5
                have e5 : Ex H H5 := ex_mut hG2 e nl0
                have l5 := at_of hG2
                have ht5 : SqT K H5 t (vi (T3.l en)) := hG2 ▸ mu_t ht hl
                have hp5 : SqT K H5 pb (vi [g, z]) := hG2 ▸ mu_t hp hl
                k_all
                refine ⟨_, rfl, e5, ht5, hp5, ?_⟩
                rw [step, eo]
                unfold vi at l5 ⊢
                rw [List.map_append]
                exact l5
              · have eo : overStep s sc d en (i : Int) = [] := by unfold overStep; rw [if_neg (fun z => h1 z.1), if_neg (fun z => h2 z.2)]; rfl
                k_all
                refine ⟨_, rfl, e, ht, hp, ?_⟩
                rw [step, eo, List.append_nil]
                exact hl
            · have eo : overStep s sc d en (i : Int) = [] := by unfold overStep; rw [if_neg (fun z => h1 z.1), if_neg (fun z => h3 z.1)]; rfl
              k_all
              refine ⟨_, rfl, e, ht, hp, ?_⟩
              rw [step, eo, List.append_nil]
              exact hl
        · obtain ⟨z6, rfl, e, ht, hp, hl⟩ := h'
          have dz1 : 0 ≤ many / z := Int.ediv_nonneg hm.1 (by omega)
          have dz2 : many / z ≤ many := Int.ediv_le_self _ hm.1
          have nv : ∀ L : List Int, (vi L).length = L.length := fun L => by unfold vi; rw [List.length_map]
          k_all
          refine w_lenL (sl_at hl) ?_
          rw [nv]
          k_all
          refine if_int (fun h1 => ?_) (fun h1 => ?_)
          · obtain ⟨f, hf⟩ : ∃ f, oversM s sc d en 3 = [f] := by
              match oversM s sc d en 3, h1 with
              | [f], _ => exact ⟨f, rfl⟩
              | [], h1 => exact absurd h1 (by decide)
              | _ :: _ :: _, h1 => simp at h1; omega
            rw [hf] at hl q
            k_all
            rename_i p5 np5 H5 e5 l5
            exact q p5 t H5 (e.trans e5) (Evl.fresh_back e np5) l5 (ex_t e5 ht)
          · have ho : oneOf (oversM s sc d en 3) = none := by
              match oversM s sc d en 3, h1 with
              | [f], h1 => exact absurd rfl h1
              | [], h1 => rfl
              | _ :: _ :: _, h1 => rfl
            rw [ho] at q
            k_all
            rename_i p5 np5 H5 e5 l5
            exact q p5 t H5 (e.trans e5) (Evl.fresh_back e np5) l5 (ex_t e5 ht)
end TP

/-! W29 -/
set_option Elab.async false
set_option linter.all false
set_option maxRecDepth 100000
set_option maxHeartbeats 4000000
-- k_mem: a fact of the heap as it is now, from an older one; k_upd: one step of a reading; k_all: as many as go

namespace TP
open PySem PySem.Spec PyProof.Rows L2 LamX
open PySem.W (minOf maxOf Tup DatumOrd Datum T4)
variable {P : Program} {w : World} {K : PySem.W.Frag} {mg : Str → Option Value} {base : Heap}
/-! ### _law_ray -/
abbrev Ray3 := PySem.W.T3 (Tup Int) Int (Tup Int)
theorem d_t3 {α β γ : Type} [DecidableEq α] [Datum α] [DecidableEq β] [Datum β] [DecidableEq γ] [Datum γ] {H : Hp} {a : Addr} {v1 v2 v3 : V} {t : PySem.W.T3 α β γ} (h : SqT K H a [v1, v2, v3]) (h1 : DAt K H v1 t.a) (h2 : DAt K H v2 t.b) (h3 : DAt K H v3 t.c) : DAt K H (.ref a) t :=
  .tup h (.cons h1 (.cons h2 (.cons h3 .nil)))
theorem w_par3 {i j l : Nat} {ta : TA} {D : Ends} {σ : L2.St} {H : Hp} (h : ta σ H fun vs H1 => ∃ u v w, vs = [u, v, w] ∧ D.nx (((σ.set i (some u)).set j (some v)).set l (some w)) H1) : tPar3 i j l ta D σ H := h
structure RaySt where
  pt : T3
  on : Int
  way : T3
structure RayRow where
  on : Int
  way : T3
  pt : T3
  stop : T3
  len : Int
def rayNext (s : T3) (sc many : Int) (t : RaySt) : Option RaySt := match (passM s sc many t.pt t.way).over with
  | none => none
  | some f => some ⟨(passM s sc many t.pt t.way).stop, f, goneOver t.on f t.way⟩
def rayRow (s : T3) (sc many : Int) (t : RaySt) : RayRow := ⟨t.on, t.way, t.pt, (passM s sc many t.pt t.way).stop, (passM s sc many t.pt t.way).len⟩
def RRowAt (K : PySem.W.Frag) (H : Hp) (v : V) (r : RayRow) : Prop := ∃ p w a e, v = .ref p ∧ SqT K H p [.int r.on, .ref w, .ref a, .ref e, .int r.len] ∧ SqT K H w (vi (T3.l r.way)) ∧ SqT K H a (vi (T3.l r.pt)) ∧ SqT K H e (vi (T3.l r.stop))
theorem RRowAt.ex {H H' : Hp} {v : V} {r : RayRow} (h : RRowAt K H v r) (e : Ex H H') : RRowAt K H' v r := by
  obtain ⟨p, w, a, en, ev, h1, h2, h3, h4⟩ := h
  exact ⟨p, w, a, en, ev, ex_t e h1, ex_t e h2, ex_t e h3, ex_t e h4⟩
theorem RRowAt.mu {H : Hp} {v : V} {r : RayRow} {l : Addr} {o : HO} {ys : List V} (h : RRowAt K H v r) (hl : H l = some (.lst ys)) : RRowAt K (upd H l o) v r := by
  obtain ⟨p, w, a, en, ev, h1, h2, h3, h4⟩ := h
  exact ⟨p, w, a, en, ev, mu_t h1 hl, mu_t h2 hl, mu_t h3 hl, mu_t h4 hl⟩
def RayOrb (s : T3) (sc many : Int) (n : Nat) (ts : Nat → RaySt) : Prop := 0 < n ∧ n ≤ 400 ∧ (∀ i, i < n → rayNext s sc many (ts i) = some (ts (i + 1))) ∧ ts n = ts 0 ∧ (∀ i, 0 < i → i < n → ts i ≠ ts 0) ∧ ∀ i, i ≤ n → FaceOk (ts i).on ∧ DirB (ts i).way
def rayRows (s : T3) (sc many : Int) (n : Nat) (ts : Nat → RaySt) : List RayRow := (List.range n).map fun i => rayRow s sc many (ts i)
theorem rayRows_succ {s : T3} {sc many : Int} {n : Nat} {ts : Nat → RaySt} : rayRows s sc many (n + 1) ts = rayRows s sc many n ts ++ [rayRow s sc many (ts n)] := by
  unfold rayRows
  rw [List.range_succ, List.map_append]
  rfl
def t3of (t : RaySt) : Ray3 := ⟨⟨T3.l t.pt⟩, t.on, ⟨T3.l t.way⟩⟩
theorem t3l_inj {a b : T3} (h : T3.l a = T3.l b) : a = b := by
  obtain ⟨a1, a2, a3⟩ := a
  obtain ⟨b1, b2, b3⟩ := b
  unfold T3.l at h
  simp only [List.cons.injEq, and_true] at h
  obtain ⟨h1, h2, h3⟩ := h
  rw [h1, h2, h3]
theorem t3of_inj {t u : RaySt} (h : t3of t = t3of u) : t = u := by
  obtain ⟨a, o, w⟩ := t
  obtain ⟨a', o', w'⟩ := u
  have h1 : T3.l a = T3.l a' := congrArg (fun z : Ray3 => z.a.items) h
  have h2 : o = o' := congrArg (fun z : Ray3 => z.b) h
  have h3 : T3.l w = T3.l w' := congrArg (fun z : Ray3 => z.c.items) h
  rw [t3l_inj h1, h2, t3l_inj h3]
def spRay (K : PySem.W.Frag) : Sp := fun vs H Q _ => ∃ a sc many b c most s n ts, vs = [.ref a, .int sc, .int many, .ref b, .int (ts 0).on, .ref c, .int most] ∧ SqL K H a (vi (T3.l s)) ∧ SqT K H b (vi (T3.l (ts 0).pt)) ∧ SqT K H c (vi (T3.l (ts 0).way)) ∧ SideB s ∧ (0 ≤ many ∧ many < 1000000) ∧ RayOrb s sc many n ts ∧ ((n : Int) ≤ most ∧ most < 1000000) ∧
  ∀ p l x H' ys, Ex H H' → H p = none → H' p = some (.lst [.ref l, x]) → H' l = some (.lst ys) → Al (RRowAt K H') ys (rayRows s sc many n ts) → Q (.ref p) H'
theorem C_law_ray (E : Env K mg) : FnC P w K mg base "_law_ray" 3 ["_law_sides_here", "_law_scale", "_law_many", "_law_place", "_law_face", "_law_steps_here", "_law_most"] [] (spRay K) := by
  have C_law_pass := C_law_pass (P := P) (w := w) (base := base) E
  have C_law_over := C_law_over (P := P) (w := w) (base := base) E
  refine .of E.d_law_ray E.g_law_ray sc_law_ray (fun vs H Q E h => ?_) (fun _ _ _ _ _ _ us hl => match us, hl with | [_, _, _, _, _, _, _], _ => rfl) (fun cdv A outer s0 H vs Q E' hr h => ?_)
  · obtain ⟨a, sc, many, b, c, most, s, n, ts, rfl, _⟩ := h
    rfl
  · obtain ⟨a, sc, many, b, c, most, s, n, ts, rfl, ha, hb, hc, hs, hm, ⟨n0, n4, step, back, ne, ok⟩, ⟨m1, m2⟩, q⟩ := h
    refine ⟨_, (pss_cons (ps_set (i := 7) sc_law_ray.nd rfl (by first | exact Or.inl rfl | exact Or.inr rfl) (pe_lst pa_nil))
      (pss_cons (ps_par3 (i := 8) (j := 9) (l := 10) rfl sc_law_ray.nd rfl rfl rfl (by decide) (by decide) (by decide) rfl rfl rfl (pa_cons (pe_callTy call_tuple_of (by rfl) E.b_tuple (by decide +kernel) (pa_cons (pv 3) pa_nil)) (pa_cons (pv 4) (pa_cons (pe_callTy call_tuple_of (by rfl) E.b_tuple (by decide +kernel) (pa_cons (pv 5) pa_nil)) pa_nil))) (by rfl))
      (pss_cons (ps_for PassesOwn.never rfl (pi_range1 rfl E.b_range (pa_cons (pv 6) pa_nil)) (pg_name (i := 11) sc_law_ray.nd rfl (by first | exact Or.inl rfl | exact Or.inr rfl)) (pss_cons (ps_asg (pe_c C_law_pass (hr.mono (by decide)) rfl (pa_cons (pv 0) (pa_cons (pv 1) (pa_cons (pv 2) (pa_cons (pv 8) (pa_cons (pv 10) pa_nil)))))) (pg_tup (n := 3) rfl (pgs_cons (pg_name (i := 12) sc_law_ray.nd rfl (by first | exact Or.inl rfl | exact Or.inr rfl)) (pgs_cons (pg_name (i := 13) sc_law_ray.nd rfl (by first | exact Or.inl rfl | exact Or.inr rfl)) (pgs_cons (pg_name (i := 14) sc_law_ray.nd rfl (by first | exact Or.inl rfl | exact Or.inr rfl)) pgs_nil)))))
      (pss_cons (ps_expr (pe_bm PySem.F.plainAttrs_list PySem.F.slot_list_append PySem.F.type_list_append mt_append (pv 7) (pa_cons (pe_tup (pa_cons (pv 9) (pa_cons (pv 10) (pa_cons (pv 8) (pa_cons (pv 12) (pa_cons (pv 13) pa_nil)))))) pa_nil)))
      (pss_cons (ps_if (pt_cmpR op_isN (pv 14) pe_non (nomark _)) (pss_one (ps_ret (pe_lst (pa_cons (pv 7) (pa_cons pe_str pa_nil))))) pss_nil)
      (pss_cons (ps_par3 (i := 8) (j := 9) (l := 10) rfl sc_law_ray.nd rfl rfl rfl (by decide) (by decide) (by decide) rfl rfl rfl (pa_cons (pv 12) (pa_cons (pv 14) (pa_cons (pe_c C_law_over (hr.mono (by decide)) rfl (pa_cons (pv 9) (pa_cons (pv 14) (pa_cons (pv 10) pa_nil)))) pa_nil))) (by rfl))
      (pss_one (ps_if (pt_cmpR (op_eqX (α := Ray3) hr.units) (pe_tup (pa_cons (pv 8) (pa_cons (pv 9) (pa_cons (pv 10) pa_nil)))) (pe_tup (pa_cons (pe_callTy call_tuple_of (by rfl) E.b_tuple (by decide +kernel) (pa_cons (pv 3) pa_nil)) (pa_cons (pv 4) (pa_cons (pe_callTy call_tuple_of (by rfl) E.b_tuple (by decide +kernel) (pa_cons (pv 5) pa_nil)) pa_nil)))) (nomark _)) (pss_one (ps_ret (pe_lst (pa_cons (pv 7) (pa_cons pe_str pa_nil))))) pss_nil)))))))
      (pss_one (ps_ret (pe_lst (pa_cons (pv 7) (pa_cons pe_str pa_nil)))))))), ?_⟩
    k_all
    rename_i l nl H1 e1 l1
    refine w_par3 ?_
    k_all
    refine w_tupT (ex_t e1 hb) ?_
    k_all
    refine w_tupT (ex_t e1 hc) ?_
    k_all
    refine ⟨_, _, _, rfl, ?_⟩
    k_all
    refine for_range (n := most.toNat) (fun i σ H' => i < n ∧ ∃ z11 z12 z13 z14 pa pw ys, σ = [some (.ref a), some (.int sc), some (.int many), some (.ref b), some (.int (ts 0).on), some (.ref c), some (.int most), some (.ref l), some (.ref pa), some (.int (ts i).on), some (.ref pw), z11, z12, z13, z14] ∧ Ex H H' ∧ SqT K H' pa (vi (T3.l (ts i).pt)) ∧ SqT K H' pw (vi (T3.l (ts i).way)) ∧ H' l = some (.lst ys) ∧ Al (RRowAt K H') ys (rayRows s sc many i ts)) ⟨n0, _, _, _, _, _, _, _, rfl, e1, ex_t e1 hb, ex_t e1 hc, l1, Al.nil⟩ (fun i σ H' hi h' => ?_) (fun σ H' h' => ?_)
    · obtain ⟨hin, z11, z12, z13, z14, pa, pw, ys, rfl, e, hpa, hpw, hl, al⟩ := h'
      have st := step i hin
      obtain ⟨fo, db⟩ := ok i (by omega)
      unfold rayNext at st
      k_all
      refine ⟨_, _, _, _, _, s, (ts i).pt, (ts i).way, rfl, ex_l e ha, hpa, hpw, hs, db, hm, fun p2 t2 H2 e2 np2 l2 ht2 => ?_⟩
      have hrow : rayRow s sc many (ts i) = ⟨(ts i).on, (ts i).way, (ts i).pt, (passM s sc many (ts i).pt (ts i).way).stop, (passM s sc many (ts i).pt (ts i).way).len⟩ := rfl
      generalize passM s sc many (ts i).pt (ts i).way = ps at *
      obtain ⟨stop, len, over⟩ := ps
      cases over with
      | none => cases st
      | some f =>
        dsimp only at st
        have st' := Option.some.inj st
        have h2 := st_at (K := K) l2
        dsimp only at h2 ht2
        have oe : oi (some f) = .int f := rfl
        rw [oe] at h2
        have hl2 := e2 _ _ hl
        have hq2 := sl_at (K := K) hl2
        have nl0 := nl
        k_all
        rename_i p3 np3 H3 e3 l3
        have ee := e2.trans e3
        have hl3 := e3 _ _ hl2
        refine w_app hl3 (by have := al.1; unfold rayRows at this; rw [List.length_map, List.length_range] at this; omega) ?_
        generalize hG : upd _ _ _ = H4
        have e4 : Ex H H4 := ex_mut hG (e.trans ee) nl
        have l4 := at_of hG
        have e0 : Ex H H3 := e.trans ee
        have mt : ∀ {a xs}, SqT K H3 a xs → SqT K H4 a xs := fun h => hG ▸ mu_t h hl3
        have hpa4 := mt (ex_t ee hpa)
        have hpw4 := mt (ex_t ee hpw)
        have ht4 := mt (ex_t e3 ht2)
        have row4 : RRowAt K H4 (.ref p3) (rayRow s sc many (ts i)) := by
          rw [hrow]
          exact ⟨p3, pw, pa, t2, rfl, mt (st_at l3), hpw4, hpa4, ht4⟩
        have al4 : Al (RRowAt K H4) (ys ++ [.ref p3]) (rayRows s sc many (i + 1) ts) := by
          rw [rayRows_succ]
          exact (al.imp fun v x h => hG ▸ (h.ex ee).mu hl3).snoc row4
        k_all
        refine w_par3 ?_
        k_all
        refine ⟨_, _, _, _, rfl, fo, ?_, hpw4, fun p5 H5 e5 np5 l5 => ?_⟩
        · have := (ok (i + 1) (by omega)).1
          rw [← st'] at this
          exact this
        k_all
        refine ⟨_, _, _, rfl, ?_⟩
        k_all
        rename_i p6 np6 H6 e6 l6
        have eb := (e4.trans e5).trans e6
        refine w_tupT (ex_t eb hb) ?_
        k_all
        refine w_tupT (ex_t eb hc) ?_
        k_all
        rename_i p7 np7 H7 e7 l7
        have hT : ts (i + 1) = ⟨stop, f, goneOver (ts i).on f (ts i).way⟩ := st'.symm
        have e57 := (e5.trans e6).trans e7
        have ec := e4.trans e57
        have d1 : DAt K H7 (.ref p6) (t3of (ts (i + 1))) := by
          rw [hT]
          exact d_t3 (ex_t e7 (st_at l6)) (d_ints (ex_t e57 ht4)) d_int (d_ints (ex_t (e6.trans e7) (st_at l5)))
        have d2 : DAt K H7 (.ref p7) (t3of (ts 0)) := d_t3 (st_at l7) (d_ints (ex_t ec hb)) d_int (d_ints (ex_t ec hc))
        have al7 := al4.imp fun v x h => RRowAt.ex h e57
        have l47 := e57 _ _ l4
        refine w_eqX _ _ d1 d2 ?_
        k_all
        refine if_dec (fun h1 => ?_) (fun h1 => ?_)
        · have hn : i + 1 = n := by
            have h3 := t3of_inj h1
            by_cases h4 : i + 1 < n
            · exact absurd h3 (ne _ (by omega) h4)
            · omega
          rw [hn] at al7
          k_all
          rename_i p8 np8 H8 e8 l8
          exact q p8 l _ H8 _ (ec.trans e8) (Evl.fresh_back ec np8) l8 (e8 _ _ l47) (al7.imp fun v x h => RRowAt.ex h e8)
        · have hn : i + 1 < n := by
            by_cases h4 : i + 1 = n
            · exact absurd (congrArg t3of (by rw [h4, back])) h1
            · omega
          k_all
          refine ⟨hn, some (.int ((0 : Int) + (i : Int))), some (.ref t2), some (.int len), some (.int f), t2, p5, _, ?_, ec, ?_, ?_, l47, al7⟩
          · rw [hT]
            rfl
          · rw [hT]
            exact ex_t e57 ht4
          · rw [hT]
            exact ex_t (e6.trans e7) (st_at l5)
    · obtain ⟨hin, _⟩ := h'
      omega
end TP

/-! H -/
set_option linter.all false
namespace TP
open PySem PySem.Spec PyProof.Rows L2 LamX
open PySem.W (minOf maxOf Tup DatumOrd Datum T4)
/-! ### what _law_halves and _law_lanes make -/
def alongOf (f g : Int) : Int := 3 - f / 2 - g / 2
def hPlace (s : T3) (sc : Int) (f g : Int) (x : Int) : T3 := T3.set (T3.set (T3.set (0, 0, 0) (f / 2) (s.get (f / 2) * sc * (f % 2))) (g / 2) (s.get (g / 2) * sc * (g % 2))) (alongOf f g) x
/-- a half entrance: a place on the edge of f and g, on the face g, going the way -/
def hK (s : T3) (p q f g : Int) (d : T3) (k : Nat) : RaySt := ⟨hPlace s (2 * p * q) f g ((2 * (k : Int) + 1) * (p * q / outward g d)), g, goneOver f g d⟩
def hD (s : T3) (p q f g : Int) (d : T3) : List RaySt := (List.range (outward g d * s.get (alongOf f g)).toNat).map fun k => hK s p q f g d k
def hG (s : T3) (p q f g : Int) : List RaySt := if f / 2 = g / 2 then [] else (dirs4 f p q).flatMap fun d => hD s p q f g d
def hF (s : T3) (p q f : Int) : List RaySt := (List.range 6).flatMap fun g => hG s p q f (g : Nat)
def halves (s : T3) (p q : Int) : List RaySt := (List.range 6).flatMap fun f => hF s p q (f : Nat)
/-- a place, a face and a way as a key -/
def hkey (pt : T3) (on : Int) (way : T3) : NestedKey := .tup [.tup [.num pt.1, .num pt.2.1, .num pt.2.2], .num on, .tup [.num way.1, .num way.2.1, .num way.2.2]]
abbrev OutD := List (List Int × Int × Int)
def oput (os : OutD) (k : List Int) (v : Int × Int) : OutD := if k ∈ os.map (·.1) then os.map (fun e => if e.1 = k then (k, v) else e) else os ++ [(k, v)]
def oget (os : OutD) (k : List Int) : Int × Int := match os.find? (fun e => decide (e.1 = k)) with
  | some e => e.2
  | none => (0, 0)
abbrev LawSt := List NestedKey × OutD
def rowsKeys (ks : List NestedKey) (rows : List RayRow) : List NestedKey := rows.foldl (fun ks r => addK ks (hkey r.pt r.on r.way)) ks
def rowsFaces (rows : List RayRow) : List Int := leastBegun (rows.map (·.on))
def rowsLen (p q : Int) (rows : List RayRow) : Int := (rows.map (·.len)).sum / (2 * (p * q) * (p * q))
def halfStep (p q : Int) (ry : RaySt → List RayRow) (st : LawSt) (h : RaySt) : LawSt :=
  if hkey h.pt h.on h.way ∈ st.1 then st else (rowsKeys st.1 (ry h), oput st.2 (rowsFaces (ry h)) (rowsLen p q (ry h), (oget st.2 (rowsFaces (ry h))).2 + 1))
def lawScan (s : T3) (p q : Int) (ry : RaySt → List RayRow) : LawSt := (halves s p q).foldl (halfStep p q ry) ([], [])
def lawRows (s : T3) (p q : Int) (ry : RaySt → List RayRow) : List LRow :=
  (((lawScan s p q ry).2.map fun e => Tup.mk e.1).mergeSort fun a b => leX a b).map fun k => ⟨k.items, (oget (lawScan s p q ry).2 k.items).1, (oget (lawScan s p q ry).2 k.items).2⟩
/-- what the code needs to know of the rays -/
structure LawIn (s : T3) (p q : Int) (ry : RaySt → List RayRow) : Prop where
  ray : ∀ h ∈ halves s p q, ∃ n ts, ts 0 = h ∧ RayOrb s (2 * (p * q)) (p * q) n ts ∧ (n : Int) ≤ 4 * (p + q) * (s.1 + s.2.1 + s.2.2) ∧ ry h = rayRows s (2 * (p * q)) (p * q) n ts
  len : (halves s p q).length ≤ 3600
  keys : (lawScan s p q ry).1.length ≤ 50000
  out : (lawScan s p q ry).2.length ≤ 50000
end TP

/-! W30 -/
set_option Elab.async false
set_option linter.all false
set_option maxRecDepth 100000
set_option maxHeartbeats 4000000
-- k_mem: a fact of the heap as it is now, from an older one; k_upd: one step of a reading; k_all: as many as go

namespace TP
open PySem PySem.Spec PyProof.Rows L2 LamX
open PySem.W (minOf maxOf Tup DatumOrd Datum T4)
variable {P : Program} {w : World} {K : PySem.W.Frag} {mg : Str → Option Value} {base : Heap}
/-! ### _law_halves -/
def HalfAt (K : PySem.W.Frag) (H : Hp) (v : V) (t : RaySt) : Prop := ∃ p a c, v = .ref p ∧ SqT K H p [.ref a, .int t.on, .ref c] ∧ SqT K H a (vi (T3.l t.pt)) ∧ SqT K H c (vi (T3.l t.way))
theorem HalfAt.ex {H H' : Hp} {v : V} {t : RaySt} (h : HalfAt K H v t) (e : Ex H H') : HalfAt K H' v t := by
  obtain ⟨p, a, c, ev, h1, h2, h3⟩ := h
  exact ⟨p, a, c, ev, ex_t e h1, ex_t e h2, ex_t e h3⟩
theorem HalfAt.mu {H : Hp} {v : V} {t : RaySt} {l : Addr} {o : HO} {ys : List V} (h : HalfAt K H v t) (hl : H l = some (.lst ys)) : HalfAt K (upd H l o) v t := by
  obtain ⟨p, a, c, ev, h1, h2, h3⟩ := h
  exact ⟨p, a, c, ev, mu_t h1 hl, mu_t h2 hl, mu_t h3 hl⟩
theorem set_le {t : T3} {B : Int} (h : ∀ i, -B ≤ t.get i ∧ t.get i ≤ B) {v : Int} (hv : -B ≤ v ∧ v ≤ B) (j : Int) : ∀ i, -B ≤ (t.set j v).get i ∧ (t.set j v).get i ≤ B := by
  have h0 := h 0
  have h1 := h 1
  have h2 := h 2
  have g0 : t.get 0 = t.1 := rfl
  have g1 : t.get 1 = t.2.1 := rfl
  have g2 : t.get 2 = t.2.2 := rfl
  rw [g0] at h0
  rw [g1] at h1
  rw [g2] at h2
  intro i
  unfold T3.set T3.get
  (repeat' split) <;> first | exact hv | exact h0 | exact h1 | exact h2
theorem zero_le5 : ∀ i, -5 ≤ T3.get (0, 0, 0) i ∧ T3.get (0, 0, 0) i ≤ 5 := by
  intro i
  unfold T3.get
  split
  · decide
  · split <;> decide
theorem dirs4_le {f p q : Int} (hp : 1 ≤ p ∧ p ≤ 5) (hq : 1 ≤ q ∧ q ≤ 5) : ∀ d ∈ dirs4 f p q, ∀ i, -5 ≤ d.get i ∧ d.get i ≤ 5 := by
  intro d hd
  unfold dirs4 at hd
  simp only [List.mem_cons, List.not_mem_nil, or_false] at hd
  rcases hd with e | e | e | e <;> rw [e] <;> unfold unfr <;> exact set_le (set_le zero_le5 (by omega) _) (by omega) _
theorem out_le {g : Int} {d : T3} (h : ∀ i, -5 ≤ d.get i ∧ d.get i ≤ 5) : -5 ≤ outward g d ∧ outward g d ≤ 5 := by
  have := h (g / 2)
  unfold outward
  split <;> omega
theorem mul_25 {a b : Int} (h1 : -5 ≤ a ∧ a ≤ 5) (h2 : 0 ≤ b ∧ b ≤ 5) : (a * b).toNat ≤ 25 ∧ -25 ≤ a * b ∧ a * b ≤ 25 := by
  obtain rfl | rfl | rfl | rfl | rfl | rfl : b = 0 ∨ b = 1 ∨ b = 2 ∨ b = 3 ∨ b = 4 ∨ b = 5 := by omega
  all_goals omega
theorem flat_succ {β : Type} (f : Nat → List β) (n : Nat) : (List.range (n + 1)).flatMap f = (List.range n).flatMap f ++ f n := by
  rw [List.range_succ, List.flatMap_append]
  simp
theorem flat_take {α β : Type} (f : α → List β) {xs : List α} {i : Nat} {x : α} (h : xs[i]? = some x) : (xs.take (i + 1)).flatMap f = (xs.take i).flatMap f ++ f x := by
  rw [take_snoc h, List.flatMap_append]
  simp
theorem hD_succ {s : T3} {p q f g : Int} {d : T3} {n : Nat} : ((List.range (n + 1)).map fun k => hK s p q f g d k) = ((List.range n).map fun k => hK s p q f g d k) ++ [hK s p q f g d n] := by
  rw [List.range_succ, List.map_append]
  rfl
def spHalves (K : PySem.W.Frag) : Sp := fun vs H Q _ => ∃ a b s p q, vs = [.ref a, .ref b] ∧ SqL K H a (vi (T3.l s)) ∧ SqT K H b (vi [p, q]) ∧ (∀ i, 0 ≤ s.get i ∧ s.get i ≤ 5) ∧ (1 ≤ p ∧ p ≤ 5) ∧ (1 ≤ q ∧ q ≤ 5) ∧ ∀ l H' ys, Ex H H' → H l = none → H' l = some (.lst ys) → Al (HalfAt K H') ys (halves s p q) → Q (.ref l) H'
theorem C_law_halves (E : Env K mg) : FnC P w K mg base "_law_halves" 4 ["_law_sides_here", "_law_slope_here"] [] (spHalves K) := by
  have C_law_four := C_law_four (P := P) (w := w) (base := base) E
  have C_law_out := C_law_out (P := P) (w := w) (base := base) E
  have C_law_over := C_law_over (P := P) (w := w) (base := base) E
  refine .of E.d_law_halves E.g_law_halves sc_law_halves (fun vs H Q E h => ?_) (fun _ _ _ _ _ _ us hl => match us, hl with | [_, _], _ => rfl) (fun cdv A outer s0 H vs Q E' hr h => ?_)
  · obtain ⟨a, b, s, p, q, rfl, _⟩ := h
    rfl
  · obtain ⟨a, b, s, p, q, rfl, ha, hb, hs, hp, hq, k⟩ := h
    refine ⟨_, (pss_cons (ps_asg (pv 1) (pg_tup (n := 2) rfl (pgs_cons (pg_name (i := 2) sc_law_halves.nd rfl (by first | exact Or.inl rfl | exact Or.inr rfl)) (pgs_cons (pg_name (i := 3) sc_law_halves.nd rfl (by first | exact Or.inl rfl | exact Or.inr rfl)) pgs_nil))))
      (pss_cons (ps_set (i := 4) sc_law_halves.nd rfl (by first | exact Or.inl rfl | exact Or.inr rfl) (pe_op op_mul (pe_op op_mul pe_int (pv 2)) (pv 3)))
      (pss_cons (ps_set (i := 5) sc_law_halves.nd rfl (by first | exact Or.inl rfl | exact Or.inr rfl) (pe_lst pa_nil))
      (pss_cons (ps_for PassesOwn.never rfl (pi_range1 rfl E.b_range (pa_cons pe_int pa_nil)) (pg_name (i := 6) sc_law_halves.nd rfl (by first | exact Or.inl rfl | exact Or.inr rfl)) (pss_one (ps_for PassesOwn.never rfl (pi_range1 rfl E.b_range (pa_cons pe_int pa_nil)) (pg_name (i := 7) sc_law_halves.nd rfl (by first | exact Or.inl rfl | exact Or.inr rfl)) (pss_one (ps_if (pt_cmpR op_ne (pe_op op_fdiv (pv 6) pe_int) (pe_op op_fdiv (pv 7) pe_int) (nomark _)) (pss_cons (ps_set (i := 8) sc_law_halves.nd rfl (by first | exact Or.inl rfl | exact Or.inr rfl) (pe_op op_sub (pe_op op_sub pe_int (pe_op op_fdiv (pv 6) pe_int)) (pe_op op_fdiv (pv 7) pe_int)))
      (pss_one (ps_for PassesOwn.never rfl (pi_list (pe_c C_law_four (hr.mono (by decide)) rfl (pa_cons (pv 6) (pa_cons (pv 1) pa_nil)))) (pg_name (i := 9) sc_law_halves.nd rfl (by first | exact Or.inl rfl | exact Or.inr rfl)) (pss_cons (ps_set (i := 10) sc_law_halves.nd rfl (by first | exact Or.inl rfl | exact Or.inr rfl) (pe_c C_law_out (hr.mono (by decide)) rfl (pa_cons (pv 7) (pa_cons (pv 9) pa_nil))))
      (pss_one (ps_for PassesOwn.never rfl (pi_range1 rfl E.b_range (pa_cons (pe_op op_mul (pv 10) (pe_ix ix_list (pv 0) (pv 8) (fun _ _ => rfl))) pa_nil)) (pg_name (i := 11) sc_law_halves.nd rfl (by first | exact Or.inl rfl | exact Or.inr rfl)) (pss_cons (ps_set (i := 12) sc_law_halves.nd rfl (by first | exact Or.inl rfl | exact Or.inr rfl) (pe_lst (pa_cons pe_int (pa_cons pe_int (pa_cons pe_int pa_nil)))))
      (pss_cons (ps_asg (pe_op op_mul (pe_op op_mul (pe_ix ix_list (pv 0) (pe_op op_fdiv (pv 6) pe_int) (fun _ _ => rfl)) (pv 4)) (pe_op op_mod (pe_callTy call_int1 (by rfl) E.b_int (by decide +kernel) (pa_cons (pv 6) pa_nil)) pe_int)) (pg_sub (pv 12) (pe_op op_fdiv (pv 6) pe_int) set_list))
      (pss_cons (ps_asg (pe_op op_mul (pe_op op_mul (pe_ix ix_list (pv 0) (pe_op op_fdiv (pv 7) pe_int) (fun _ _ => rfl)) (pv 4)) (pe_op op_mod (pe_callTy call_int1 (by rfl) E.b_int (by decide +kernel) (pa_cons (pv 7) pa_nil)) pe_int)) (pg_sub (pv 12) (pe_op op_fdiv (pv 7) pe_int) set_list))
      (pss_cons (ps_asg (pe_op op_mul (pe_op op_add (pe_op op_mul pe_int (pv 11)) pe_int) (pe_op op_fdiv (pe_op op_mul (pv 2) (pv 3)) (pv 10))) (pg_sub (pv 12) (pv 8) set_list))
      (pss_one (ps_expr (pe_bm PySem.F.plainAttrs_list PySem.F.slot_list_append PySem.F.type_list_append mt_append (pv 5) (pa_cons (pe_tup (pa_cons (pe_callTy call_tuple_of (by rfl) E.b_tuple (by decide +kernel) (pa_cons (pv 12) pa_nil)) (pa_cons (pv 7) (pa_cons (pe_c C_law_over (hr.mono (by decide)) rfl (pa_cons (pv 6) (pa_cons (pv 7) (pa_cons (pv 9) pa_nil)))) pa_nil)))) pa_nil)))))))))))))) pss_nil)))))
      (pss_one (ps_ret (pv 5))))))), ?_⟩
    k_all
    rename_i l nl H1 e1 l1
    refine for_range (n := 6) (fun i σ H' => ∃ z6 z7 z8 z9 z10 z11 z12 ys, σ = [some (.ref a), some (.ref b), some (.int p), some (.int q), some (.int (2 * p * q)), some (.ref l), z6, z7, z8, z9, z10, z11, z12] ∧ Ex H H' ∧ H' l = some (.lst ys) ∧ Al (HalfAt K H') ys ((List.range i).flatMap fun f => hF s p q (f : Nat)) ∧ ys.length ≤ 600 * i) ⟨_, _, _, _, _, _, _, _, rfl, e1, l1, Al.nil, Nat.zero_le _⟩ (fun i σ H' hi h' => ?_) (fun σ H' h' => ?_)
    · obtain ⟨z6, z7, z8, z9, z10, z11, z12, ys, rfl, e, hl, al, hn⟩ := h'
      have ei : (0 : Int) + (i : Int) = (i : Int) := by omega
      have hf : FaceOk (i : Int) := by constructor <;> omega
      k_all
      rw [ei]
      refine for_range (n := 6) (fun j σ H' => ∃ z7 z8 z9 z10 z11 z12 ys, σ = [some (.ref a), some (.ref b), some (.int p), some (.int q), some (.int (2 * p * q)), some (.ref l), some (.int (i : Int)), z7, z8, z9, z10, z11, z12] ∧ Ex H H' ∧ H' l = some (.lst ys) ∧ Al (HalfAt K H') ys (((List.range i).flatMap fun f => hF s p q (f : Nat)) ++ (List.range j).flatMap fun g => hG s p q (i : Int) (g : Nat)) ∧ ys.length ≤ 600 * i + 100 * j) ⟨_, _, _, _, _, _, _, rfl, e, hl, by simpa using al, by omega⟩ (fun j σ H' hj h' => ?_) (fun σ H' h' => ?_)
      · obtain ⟨z7, z8, z9, z10, z11, z12, ys, rfl, e, hl, al, hn⟩ := h'
        have ej : (0 : Int) + (j : Int) = (j : Int) := by omega
        have hg : FaceOk (j : Int) := by constructor <;> omega
        obtain ⟨f1, f2⟩ := half_ok hf
        obtain ⟨g1, g2⟩ := half_ok hg
        k_all
        rw [ej]
        refine if_nint (fun h1 => ?_) (fun h1 => ?_)
        · k_all
          refine ⟨_, _, p, q, rfl, hf, ⟨_, rfl, ex_t e hb⟩, fun dl H2 dv e2 nd l2 dal => ?_⟩
          k_all
          refine w_itL (sl_at l2) ?_
          have hne : ∀ {H0 : Hp} {ys0 : List V}, H0 l = some (.lst ys0) → H0 dl = none → dl ≠ l := fun h1 h2 e => by rw [e, h1] at h2; cases h2
          have nel : dl ≠ l := hne hl nd
          have al2 := al.imp fun v x h => HalfAt.ex h e2
          refine for_list (xs := dv) (fun m σ H' => ∃ z9 z10 z11 z12 ys, σ = [some (.ref a), some (.ref b), some (.int p), some (.int q), some (.int (2 * p * q)), some (.ref l), some (.int (i : Int)), some (.int (j : Int)), some (.int (alongOf (i : Int) (j : Int))), z9, z10, z11, z12] ∧ Ex H H' ∧ H' dl = some (.lst dv) ∧ Al (TripAt K H') dv (dirs4 (i : Int) p q) ∧ H' l = some (.lst ys) ∧ Al (HalfAt K H') ys (((List.range i).flatMap fun f => hF s p q (f : Nat)) ++ ((List.range j).flatMap fun g => hG s p q (i : Int) (g : Nat)) ++ ((dirs4 (i : Int) p q).take m).flatMap fun d => hD s p q (i : Int) (j : Int) d) ∧ ys.length ≤ 600 * i + 100 * j + 25 * m) ⟨_, _, _, _, _, rfl, e.trans e2, l2, dal, e2 _ _ hl, by simpa using al2, by omega⟩ (fun m σ H' _ h' => ?_) (fun m x σ H' hm h' => ?_) (fun σ H' h' => ?_)
          · obtain ⟨_, _, _, _, _, _, _, h3, _⟩ := h'
            exact sl_at h3
          · obtain ⟨z9, z10, z11, z12, ys, rfl, e, hdl, dal, hl, al, hn⟩ := h'
            obtain ⟨d, hd⟩ : ∃ d, (dirs4 (i : Int) p q)[m]? = some d := by
              have := (List.getElem?_eq_some_iff.mp hm).1
              rw [dal.1] at this
              exact ⟨_, List.getElem?_eq_getElem this⟩
            obtain ⟨c, rfl, hc⟩ := dal.2 m x d hm hd
            have dle := dirs4_le hp hq d (List.mem_of_getElem? hd)
            have ole := out_le (g := (j : Int)) dle
            have a0 : 0 ≤ alongOf (i : Int) (j : Int) ∧ alongOf (i : Int) (j : Int) ≤ 2 := by unfold alongOf; omega
            obtain ⟨m1, m2, m3⟩ := mul_25 ole (hs (alongOf (i : Int) (j : Int)))
            have hm4 : m < 4 := by
              have := (List.getElem?_eq_some_iff.mp hd).1
              exact this
            k_all
            refine ⟨_, _, d, rfl, hg, .inr hc, ?_⟩
            k_all
            refine w_ixL (ex_l e ha) (at3 s a0.1 a0.2) ?_
            k_all
            have hsig : -(2 ^ 62) ≤ outward (j : Int) d * s.get (alongOf (i : Int) (j : Int)) ∧ outward (j : Int) d * s.get (alongOf (i : Int) (j : Int)) < 2 ^ 62 := by omega
            refine for_range (n := (outward (j : Int) d * s.get (alongOf (i : Int) (j : Int))).toNat) (fun kk σ H' => ∃ z11 z12 ys, σ = [some (.ref a), some (.ref b), some (.int p), some (.int q), some (.int (2 * p * q)), some (.ref l), some (.int (i : Int)), some (.int (j : Int)), some (.int (alongOf (i : Int) (j : Int))), some (.ref c), some (.int (outward (j : Int) d)), z11, z12] ∧ Ex H H' ∧ H' dl = some (.lst dv) ∧ Al (TripAt K H') dv (dirs4 (i : Int) p q) ∧ SqT K H' c (vi (T3.l d)) ∧ H' l = some (.lst ys) ∧ Al (HalfAt K H') ys (((List.range i).flatMap fun f => hF s p q (f : Nat)) ++ ((List.range j).flatMap fun g => hG s p q (i : Int) (g : Nat)) ++ (((dirs4 (i : Int) p q).take m).flatMap fun d => hD s p q (i : Int) (j : Int) d) ++ (List.range kk).map fun k => hK s p q (i : Int) (j : Int) d k) ∧ ys.length ≤ 600 * i + 100 * j + 25 * m + kk) ⟨_, _, _, rfl, e, hdl, dal, hc, hl, by simpa using al, by omega⟩ (fun kk σ H' hkk h' => ?_) (fun σ H' h' => ?_)
            · obtain ⟨z11, z12, ys, rfl, e, hdl, dal, hc, hl, al, hn⟩ := h'
              have ek : (0 : Int) + (kk : Int) = (kk : Int) := by omega
              have o0 : 0 < outward (j : Int) d := by
                refine Classical.byContradiction fun hn => ?_
                have := Int.mul_nonpos_of_nonpos_of_nonneg (show outward (j : Int) d ≤ 0 by omega) (hs (alongOf (i : Int) (j : Int))).1
                omega
              have hpq : 0 ≤ p * q ∧ p * q ≤ 25 := by
                have := mul_25 (a := p) (b := q) (by omega) (by omega)
                have := Int.mul_pos (show 0 < p by omega) (show 0 < q by omega)
                omega
              have hsc : 0 ≤ 2 * p * q ∧ 2 * p * q ≤ 50 := by
                have : 2 * p * q = 2 * (p * q) := by grind
                omega
              have hi2 := hs ((i : Int) / 2)
              have hj2 := hs ((j : Int) / 2)
              k_all
              rename_i pl npl H3 e3 l3
              have l3' : H3 pl = some (.lst (vi (T3.l (0, 0, 0)))) := l3
              refine w_ixL (ex_l (e.trans e3) ha) (at3 s f1 f2) ?_
              k_all
              refine w_s3 l3' f1 f2 ?_
              generalize hG4 : upd _ _ _ = H4
              have e4 : Ex H' H4 := ex_mut hG4 e3 npl
              have l4 := at_of hG4
              k_all
              refine w_ixL (ex_l (e.trans e4) ha) (at3 s g1 g2) ?_
              k_all
              refine w_s3 l4 g1 g2 ?_
              generalize hG5 : upd _ _ _ = H5
              have e5 : Ex H' H5 := ex_mut hG5 e4 npl
              have l5 := at_of hG5
              k_all
              rw [ek]
              refine w_s3 l5 a0.1 a0.2 ?_
              generalize hG6 : upd _ _ _ = H6
              have e6 : Ex H' H6 := ex_mut hG6 e5 npl
              have l6 := at_of hG6
              have hl6 := sl_at (K := K) (e6 _ _ hl)
              k_all
              refine w_tupL (sl_at l6) fun t nt => ?_
              generalize hG7 : upd _ _ _ = H7
              have e7 : Ex H6 H7 := ex_of hG7 nt
              have l7 := at_of hG7
              k_all
              refine ⟨_, _, _, d, rfl, hf, hg, ex_t (e6.trans e7) hc, fun c8 H8 e8 n8 l8 => ?_⟩
              k_all
              rename_i p9 n9 H9 e9 l9
              have e69 := (e6.trans e7).trans (e8.trans e9)
              have hl9 := e69 _ _ hl
              refine w_app hl9 (by omega) ?_
              generalize hG10 : upd _ _ _ = H10
              have e10 : Ex H H10 := ex_mut hG10 (e.trans e69) nl
              have l10 := at_of hG10
              have mt : ∀ {a xs}, SqT K H9 a xs → SqT K H10 a xs := fun h => hG10 ▸ mu_t h hl9
              have ndl : dl ≠ l := nel
              have hdl10 : H10 dl = some (.lst dv) := by
                rw [← hG10, upd_ne ndl]
                exact e69 _ _ hdl
              have al10 : Al (HalfAt K H10) (ys ++ [.ref p9]) (((List.range i).flatMap fun f => hF s p q (f : Nat)) ++ ((List.range j).flatMap fun g => hG s p q (i : Int) (g : Nat)) ++ (((dirs4 (i : Int) p q).take m).flatMap fun d => hD s p q (i : Int) (j : Int) d) ++ (List.range (kk + 1)).map fun k => hK s p q (i : Int) (j : Int) d k) := by
                rw [hD_succ, ← List.append_assoc]
                exact (al.imp fun v x h => hG10 ▸ (HalfAt.ex h e69).mu hl9).snoc ⟨p9, t, c8, rfl, mt (st_at l9), mt (st_at ((e8.trans e9) _ _ l7)), mt (st_at (e9 _ _ l8))⟩
              have dal10 : Al (TripAt K H10) dv (dirs4 (i : Int) p q) := dal.imp fun v x h => by
                obtain ⟨a', ev, h1⟩ := h
                exact ⟨a', ev, mt (ex_t e69 h1)⟩
              k_all
              exact ⟨_, _, _, rfl, e10, hdl10, dal10, mt (ex_t e69 hc), l10, al10, by rw [List.length_append, List.length_singleton]; omega⟩
            · obtain ⟨z11, z12, ys, rfl, e, hdl, dal, hc, hl, al, hn⟩ := h'
              k_all
              refine ⟨_, _, _, _, _, rfl, e, hdl, dal, hl, ?_, by omega⟩
              rw [flat_take _ hd, ← List.append_assoc]
              exact al
          · obtain ⟨z9, z10, z11, z12, ys, rfl, e, _, _, hl, al, hn⟩ := h'
            have hd4 : dv.length = 4 := dal.1
            rw [hd4] at al hn
            k_all
            refine ⟨_, _, _, _, _, _, _, rfl, e, hl, ?_, by omega⟩
            rw [flat_succ, show hG s p q (i : Int) (j : Int) = (dirs4 (i : Int) p q).flatMap fun d => hD s p q (i : Int) (j : Int) d from if_neg h1, ← List.append_assoc]
            exact al
        · k_all
          refine ⟨_, _, _, _, _, _, _, rfl, e, hl, ?_, by omega⟩
          rw [flat_succ, show hG s p q (i : Int) (j : Int) = [] from if_pos h1, List.append_nil]
          exact al
      · obtain ⟨z7, z8, z9, z10, z11, z12, ys, rfl, e, hl, al, hn⟩ := h'
        k_all
        refine ⟨_, _, _, _, _, _, _, _, rfl, e, hl, ?_, by omega⟩
        rw [flat_succ]
        exact al
    · obtain ⟨z6, z7, z8, z9, z10, z11, z12, ys, rfl, e, hl, al, hn⟩ := h'
      k_all
      exact k l H' ys e nl hl al
end TP

/-! V -/
set_option Elab.async false
set_option linter.all false
set_option maxRecDepth 100000
set_option maxHeartbeats 4000000
namespace TP
open PySem PySem.Spec PyProof.Rows L2
open PySem.W (Datum DatumOrd Holds HoldAll minOf maxOf Tup EachIs)
/-! ### a dict from rows of ints to couples of ints -/
def fkey (F : List Int) : NestedKey := .tup (F.map .num)
theorem datas_num : ∀ F : List Int, NestedKey.datas (F.map .num) = F.map PyData.int
  | [] => by unfold NestedKey.datas; rfl
  | n :: F => by rw [List.map_cons, List.map_cons]; unfold NestedKey.datas NestedKey.data; rw [datas_num F]
theorem depth_num : ∀ F : List Int, NestedKey.depthAll (F.map .num) ≤ 1
  | [] => by unfold NestedKey.depthAll; exact Nat.zero_le _
  | n :: F => by
    rw [List.map_cons]
    unfold NestedKey.depthAll
    have h1 : NestedKey.depth (.num n) ≤ 1 := by unfold NestedKey.depth; omega
    have h2 := depth_num F
    omega
theorem fkey_inj {F G : List Int} (h : fkey F = fkey G) : F = G := by
  unfold fkey at h
  injection h with h
  induction F generalizing G with
  | nil => cases G with
    | nil => rfl
    | cons g G => cases h
  | cons f F ih => cases G with
    | nil => cases h
    | cons g G =>
      rw [List.map_cons, List.map_cons] at h
      injection h with h1 h2
      injection h1 with h1
      rw [h1, ih h2]
theorem fkey_at {K : PySem.W.Frag} {H : Hp} {a : Addr} {F : List Int} (h : SqT K H a (vi F)) : NAt K H a (fkey F) := by
  refine ⟨?_, ?_⟩
  · unfold fkey NestedKey.data
    rw [datas_num]
    have := d_ints h
    exact this
  · unfold fkey NestedKey.depth
    have := depth_num F
    omega
abbrev DX := NestedKey × Addr × Value
def VAt (K : PySem.W.Frag) (H : Hp) (x : DX) (e : List Int × Int × Int) : Prop := x.1 = fkey e.1 ∧ SqT K H x.2.1 (vi e.1) ∧ ∃ b, x.2.2 = .ref b ∧ SqT K H b (vi [e.2.1, e.2.2])
inductive VAll (K : PySem.W.Frag) (H : Hp) : List DX → OutD → Prop
  | nil : VAll K H [] []
  | cons {x : DX} {e : List Int × Int × Int} {xs : List DX} {os : OutD} : VAt K H x e → VAll K H xs os → VAll K H (x :: xs) (e :: os)
def VDict (P : Program) (w : World) (K : PySem.W.Frag) (H : Hp) (d : Addr) (os : OutD) : Prop :=
  ∃ xs : List DX, (H d = some (.ext fun h => DObj P w d xs h ∧ (d == sysModules) = false) ∨ (xs = [] ∧ H d = some (.dK []))) ∧ VAll K H xs os ∧ (os.map (·.1)).Nodup
section
variable {P : Program} {w : World} {K : PySem.W.Frag} {H H' : Hp} {d : Addr} {xs : List DX} {os : OutD}
theorem VAt.imp {x : DX} {e : List Int × Int × Int} (h : VAt K H x e) (k : ∀ a ys, SqT K H a ys → SqT K H' a ys) : VAt K H' x e := by
  obtain ⟨h1, h2, b, h3, h4⟩ := h
  exact ⟨h1, k _ _ h2, b, h3, k _ _ h4⟩
theorem VAll.imp (h : VAll K H xs os) (k : ∀ a ys, SqT K H a ys → SqT K H' a ys) : VAll K H' xs os := by
  induction h with
  | nil => exact .nil
  | cons h _ ih => exact .cons (h.imp k) ih
theorem VAll.len (h : VAll K H xs os) : xs.length = os.length := by
  induction h with
  | nil => rfl
  | cons _ _ ih => rw [List.length_cons, List.length_cons, ih]
theorem VAll.keys (h : VAll K H xs os) : xs.map (·.1) = os.map fun e => fkey e.1 := by
  induction h with
  | nil => rfl
  | cons h _ ih => rw [List.map_cons, List.map_cons, ih, h.1]
theorem VAll.mem (h : VAll K H xs os) : ∀ x ∈ xs, ∃ e ∈ os, VAt K H x e := by
  induction h with
  | nil => intro x hx; cases hx
  | cons h _ ih =>
    intro x hx
    rcases List.mem_cons.mp hx with rfl | hx
    · exact ⟨_, List.mem_cons_self, h⟩
    · obtain ⟨e, he, hv⟩ := ih x hx
      exact ⟨e, List.mem_cons_of_mem _ he, hv⟩
theorem VAll.app {x : DX} {e : List Int × Int × Int} (h : VAll K H xs os) (hx : VAt K H x e) : VAll K H (xs ++ [x]) (os ++ [e]) := by
  induction h with
  | nil => exact .cons hx .nil
  | cons h _ ih => exact .cons h ih
theorem VAll.put {F : List Int} {n m : Int} {b : Addr} (h : VAll K H xs os) (hb : SqT K H b (vi [n, m])) : VAll K H (xs.map (putAt (fkey F) (.ref b))) (os.map fun e => if e.1 = F then (F, n, m) else e) := by
  induction h with
  | nil => exact .nil
  | @cons x e xs os h _ ih =>
    rw [List.map_cons, List.map_cons]
    refine .cons ?_ ih
    unfold putAt
    by_cases hk : e.1 = F
    · rw [if_pos hk, if_pos (by rw [h.1, hk])]
      exact ⟨by rw [← hk]; exact h.1, by rw [← hk]; exact h.2.1, b, rfl, hb⟩
    · rw [if_neg hk, if_neg (fun e2 => hk (fkey_inj (by rw [← h.1, e2])))]
      exact h
theorem VAll.at_ (h : VAll K H xs os) (F : List Int) : (∃ a b, atKey xs (fkey F) = some (a, .ref b) ∧ SqT K H b (vi [(oget os F).1, (oget os F).2]) ∧ F ∈ os.map (·.1)) ∨ (atKey xs (fkey F) = none ∧ F ∉ os.map (·.1)) := by
  induction h with
  | nil => exact .inr ⟨rfl, by simp⟩
  | @cons x e xs os h _ ih =>
    obtain ⟨h1, h2, b, h3, h4⟩ := h
    by_cases hk : e.1 = F
    · refine .inl ⟨x.2.1, b, ?_, ?_, ?_⟩
      · unfold atKey
        rw [List.find?_cons, decide_eq_true (by rw [h1, hk])]
        show some (x.2.1, x.2.2) = _
        rw [h3]
      · unfold oget
        rw [List.find?_cons, decide_eq_true hk]
        exact h4
      · rw [List.map_cons, hk]
        exact List.mem_cons_self
    · have hn : ¬ x.1 = fkey F := fun e2 => hk (fkey_inj (by rw [← h1, e2]))
      have e1 : atKey (x :: xs) (fkey F) = atKey xs (fkey F) := by
        unfold atKey
        rw [List.find?_cons, decide_eq_false hn]
      have e2 : oget (e :: os) F = oget os F := by
        unfold oget
        rw [List.find?_cons, decide_eq_false hk]
      rw [e1, e2]
      rcases ih with ⟨a, b, i1, i2, i3⟩ | ⟨i1, i2⟩
      · exact .inl ⟨a, b, i1, i2, List.mem_cons_of_mem _ i3⟩
      · refine .inr ⟨i1, fun hm => ?_⟩
        rcases List.mem_cons.mp hm with hm | hm
        · exact hk hm.symm
        · exact i2 hm
theorem VDict.mono (h : VDict P w K H d os) (e : Ex H H') : VDict P w K H' d os := by
  obtain ⟨xs, h1, h2, h3⟩ := h
  refine ⟨xs, ?_, h2.imp fun _ _ h => ex_t e h, h3⟩
  rcases h1 with h | ⟨h, h'⟩
  · exact .inl (e _ _ h)
  · exact .inr ⟨h, e _ _ h'⟩
theorem VDict.obj (h : VDict P w K H d os) : ∃ u, H d = some u ∧ NoTup u ∧ Mut (H d) := by
  obtain ⟨xs, h1, _⟩ := h
  rcases h1 with h | ⟨_, h⟩
  · exact ⟨_, h, noTup_ext, by rw [h]; trivial⟩
  · exact ⟨_, h, noTup_dK, by rw [h]; trivial⟩
/-- another thing is written -/
theorem VDict.other {l : Addr} {o u : HO} (h : VDict P w K H d os) (hl : H l = some u) (nt : NoTup u) (ne : d ≠ l) : VDict P w K (upd H l o) d os := by
  obtain ⟨xs, h1, h2, h3⟩ := h
  refine ⟨xs, ?_, h2.imp fun _ _ h => mu_tg h hl nt.1 nt.2, h3⟩
  rw [upd_ne ne]
  exact h1
theorem nodup_keys (nd : (os.map (·.1)).Nodup) : (os.map fun e => fkey e.1).Nodup := by
  have : (os.map fun e => fkey e.1) = (os.map (·.1)).map fkey := by rw [List.map_map]; rfl
  rw [this]
  exact List.Pairwise.map fkey (fun a b h e => h (fkey_inj e)) nd
theorem oput_nodup (nd : (os.map (·.1)).Nodup) (F : List Int) (v : Int × Int) : ((oput os F v).map (·.1)).Nodup := by
  unfold oput
  split
  · have : (os.map fun e => if e.1 = F then (F, v) else e).map (·.1) = os.map (·.1) := by
      rw [List.map_map]
      refine List.map_congr_left fun e _ => ?_
      show (if e.1 = F then (F, v) else e).1 = e.1
      split
      · rename_i h; exact h.symm
      · rfl
    rw [this]
    exact nd
  · rename_i h
    rw [List.map_append, List.nodup_append]
    exact ⟨nd, by simp, fun a ha b hb e => h (by rw [List.mem_singleton.mp hb] at e; rw [show F = a from e.symm]; exact ha)⟩
end
section
variable {X : Cx} {pins : List (Addr × Obj)} {σ : L2.St} {H : Hp} {s : Shared}
theorem VDict.dictOf (I : Inv X pins σ H s) {d : Addr} {xs : List DX} {os : OutD} (h1 : H d = some (.ext fun h => DObj X.prog X.w d xs h ∧ (d == sysModules) = false) ∨ (xs = [] ∧ H d = some (.dK []))) (h2 : VAll X.K H xs os) (h3 : (os.map (·.1)).Nodup) :
    s.heap.DictOfH (nestedKind X.prog X.w) d xs ∧ (d == sysModules) = false := by
  refine NDict.dictOf I h1 (fun x hx => ?_) (by rw [h2.keys]; exact nodup_keys h3)
  obtain ⟨e, _, hv⟩ := h2.mem x hx
  rw [hv.1]
  exact fkey_at hv.2.1
end
section
variable {X : Cx}
def rSetV (P : Program) (w : World) (K : PySem.W.Frag) : TSet := fun o i v H Q => ∃ d a b F n m os, o = .ref d ∧ i = .ref a ∧ v = .ref b ∧ SqT K H a (vi F) ∧ SqT K H b (vi [n, m]) ∧ VDict P w K H d os ∧ os.length ≤ 50000 ∧ ∀ φ, VDict P w K (upd H d (.ext φ)) d (oput os F (n, m)) → Q (upd H d (.ext φ))
theorem set_V (hu : X.A.units + 64 < cLine) : PSet X (rSetV X.prog X.w X.K) := by
  intro pins s σ H o i v ov iv u Q I ro ri rv h
  obtain ⟨d, a, b, F, n, m, os, rfl, rfl, rfl, hF, hb, hnd, hz, q⟩ := h
  obtain ⟨u0, hu0, nt, hmut⟩ := hnd.obj
  obtain ⟨xs, h1, h2, h3⟩ := hnd
  cases ro
  cases ri
  cases rv
  obtain ⟨D, hs⟩ := VDict.dictOf I h1 h2 h3
  have hk := fkey_at hF
  refine wpAny_setItem_heap (knd := nestedKind X.prog X.w) (hsz := by rw [h2.len]; exact Evl.sz_of (by omega)) (by show X.A.units + 1 + 8 < cLine; omega) ⟨dp_nested I (fkey F) _ _ hk.1 rfl, hk.2⟩ D fun h' D' sb => ?_
  obtain ⟨o', es', ep', e1, e2, e3, e4, e5, e6⟩ := D'
  have hnew : ObjOk X.prog X.w (upd H d (.ext fun h => DObj X.prog X.w d (storedH xs (fkey F) a (.ref b)) h ∧ (d == sysModules) = false)) h' d (.ext fun h => DObj X.prog X.w d (storedH xs (fkey F) a (.ref b)) h ∧ (d == sysModules) = false) :=
    ⟨⟨⟨o', es', ep', e1, e2, e3, e4⟩, hs⟩, ⟨o', e1⟩, fun g1 g2 hg1 hg => ⟨hg1.1.dep hg, hg1.2⟩⟩
  refine ⟨_, I.write (x := d) (e := d) hmut (.inl rfl) (fun b ob hb z => (sb.2 b hb).trans z) ⟨o', e1⟩ hnew, q _ ⟨storedH xs (fkey F) a (.ref b), .inl upd_same, ?_, oput_nodup h3 F (n, m)⟩⟩
  have mt : ∀ a ys, SqT X.K H a ys → SqT X.K (upd H d (.ext fun h => DObj X.prog X.w d (storedH xs (fkey F) a (.ref b)) h ∧ (d == sysModules) = false)) a ys := fun _ _ h => mu_tg h hu0 nt.1 nt.2
  have mt : ∀ {o : HO} a ys, SqT X.K H a ys → SqT X.K (upd H d o) a ys := fun _ _ h => mu_tg h hu0 nt.1 nt.2
  unfold oput
  rcases h2.at_ F with ⟨a', b', i1, i2, i3⟩ | ⟨i1, i2⟩
  · rw [storedH_old i1, if_pos i3]
    exact (h2.imp mt).put (mt _ _ hb)
  · rw [storedH_new i1, if_neg i2]
    exact (h2.imp mt).app ⟨rfl, mt _ _ hF, b, rfl, mt _ _ hb⟩
def rGetV (P : Program) (w : World) (K : PySem.W.Frag) : V → List V → Hp → VK → Prop := fun x vs H Q => ∃ d a z F os, x = .ref d ∧ vs = [.ref a, .ref z] ∧ SqT K H a (vi F) ∧ SqT K H z (vi [0, 0]) ∧ VDict P w K H d os ∧ ∀ b, SqT K H b (vi [(oget os F).1, (oget os F).2]) → Q (.ref b) H
theorem mt_getV (hu : X.A.units + 64 < cLine) : MtR X "dict.get" (rGetV X.prog X.w X.K) := by
  intro pins s σ H x vs v us Q I rx rv h
  obtain ⟨d, a, z, F, os, rfl, rfl, hF, hz, ⟨xs, h1, h2, h3⟩, q⟩ := h
  cases rx
  obtain ⟨u1, u2, rfl, r1, r2⟩ := rv.two
  cases r1
  cases r2
  obtain ⟨D, hs⟩ := VDict.dictOf I h1 h2 h3
  have hk := fkey_at hF
  rcases h2.at_ F with ⟨a', b', i1, i2, i3⟩ | ⟨i1, i2⟩
  · refine call_meetsIn PySem.F.slot_dict_get D.typeIs PySem.F.entry_dict_get (PySem.F.args_dict_get_3 _ _ _) (meetsH_dict_get_default (nestedKind X.prog X.w) d a hs (.ref z)) ⟨by show X.A.units + 1 + 8 < cLine; omega, fkey F, xs, ⟨dp_nested I (fkey F) _ _ hk.1 rfl, hk.2⟩, D, ?_⟩
    rw [i1]
    exact ⟨.ref b', H, I.tok _, rfl, q b' i2⟩
  · refine call_meetsIn PySem.F.slot_dict_get D.typeIs PySem.F.entry_dict_get (PySem.F.args_dict_get_3 _ _ _) (meetsH_dict_get_default (nestedKind X.prog X.w) d a hs (.ref z)) ⟨by show X.A.units + 1 + 8 < cLine; omega, fkey F, xs, ⟨dp_nested I (fkey F) _ _ hk.1 rfl, hk.2⟩, D, ?_⟩
    rw [i1]
    refine ⟨.ref z, H, I.tok _, rfl, q z ?_⟩
    have : oget os F = (0, 0) := by
      unfold oget
      rw [List.find?_eq_none.mpr fun e he hk => i2 (List.mem_map.mpr ⟨e, he, of_decide_eq_true hk⟩)]
    rw [this]
    exact hz
def rIxV (P : Program) (w : World) (K : PySem.W.Frag) : R2 := fun x y H Q => ∃ d a F os, x = .ref d ∧ y = .ref a ∧ SqT K H a (vi F) ∧ VDict P w K H d os ∧ F ∈ os.map (·.1) ∧ ∀ b, SqT K H b (vi [(oget os F).1, (oget os F).2]) → Q (.ref b) H
theorem ix_V (hu : X.A.units + 64 < cLine) : IxR X (rIxV X.prog X.w X.K) := by
  intro value slice pins s σ H x y v u Q I rx ry h hs0
  obtain ⟨d, a, F, os, rfl, rfl, hF, ⟨xs, h1, h2, h3⟩, hm, q⟩ := h
  cases rx
  cases ry
  obtain ⟨D, hs⟩ := VDict.dictOf I h1 h2 h3
  have hk := fkey_at hF
  rcases h2.at_ F with ⟨a', b', i1, i2, i3⟩ | ⟨i1, i2⟩
  · exact tail_any D.typeIs PySem.F.slot_dict_getitem.lookup (wpAny_getItem_heap (knd := nestedKind X.prog X.w) (by show X.A.units + 1 + 8 < cLine; omega) ⟨dp_nested I (fkey F) _ _ hk.1 rfl, hk.2⟩ D i1 ⟨.ref b', H, I.tok _, rfl, q b' i2⟩) hs0
  · exact absurd hm i2
/-- the keys' tuples, in order -/
theorem VAll.zs {K : PySem.W.Frag} {H : Hp} {xs : List DX} {os : OutD} (h : VAll K H xs os) : ∃ zs : List (V × Tup Int), Vals (zs.map (·.1)) (xs.map fun x => Value.ref x.2.1) ∧ zs.map (·.2) = (os.map fun e => Tup.mk e.1) ∧ ∀ z ∈ zs, DAt K H z.1 z.2 ∧ ∃ a, z.1 = .ref a ∧ SqT K H a (vi z.2.items) := by
  induction h with
  | nil => exact ⟨[], .nil, rfl, fun z hz => by cases hz⟩
  | @cons x e xs os h _ ih =>
    obtain ⟨zs, i1, i2, i3⟩ := ih
    refine ⟨(.ref x.2.1, Tup.mk e.1) :: zs, .cons rfl i1, by rw [List.map_cons, List.map_cons, i2], fun z hz => ?_⟩
    rcases List.mem_cons.mp hz with rfl | hz
    · exact ⟨d_ints h.2.1, _, rfl, h.2.1⟩
    · exact i3 z hz
def rSortV (P : Program) (w : World) (K : PySem.W.Frag) : List V → Hp → VK → Prop := fun vs H Q => ∃ d os, vs = [.ref d] ∧ VDict P w K H d os ∧ os.length ≤ 50000 ∧ (∀ e ∈ os, 0 < e.1.length) ∧
  ∀ p H' ys, H p = none → Ex H H' → H' p = some (.lst ys) → DAll K H' ys ((os.map fun e => Tup.mk e.1).mergeSort fun a b => leX a b) → Q (.ref p) H'
theorem ints_vals : ∀ {F : List Int} {us : List Value}, Vals (vi F) us → IntsAre us F
  | [], _, r => by cases r; exact .nil
  | n :: F, _, r => by
    cases r with
    | cons h t =>
      obtain ⟨tk, rfl⟩ := h
      exact .cons _ _ (ints_vals t)
theorem cr_sortV (hc : X.calm = true) (hu : X.A.units + 100 < cLine) : CallR X (.builtin "sorted") (rSortV X.prog X.w X.K) := by
  intro pins s σ H vs us Q I r h
  obtain ⟨d, os, rfl, ⟨xs, h1, h2, h3⟩, hl, hpos, q⟩ := h
  obtain ⟨u, rfl, rx⟩ := r.one
  cases rx
  obtain ⟨D, hs⟩ := VDict.dictOf I h1 h2 h3
  obtain ⟨o, es, ep, ho, hx, hdt, he, his, hn⟩ := D
  have l1 : es.size = xs.length := size_of_entries he
  have l2 := h2.len
  obtain ⟨zs, z1, z2, z3⟩ := h2.zs
  have lz : zs.length = os.length := by
    have := congrArg List.length z2
    rw [List.length_map, List.length_map] at this
    exact this
  refine Calls.call_function_entry PyProof.Rows.kind_sorted PyProof.Rows.plain_sorted PyProof.Rows.entry_sorted (PyProof.Rows.args_sorted1 _) ?_
  unfold Builtin.«sorted»
  refine wpAny_bind (m := checkCount "sorted" 1 1 _) (wpAny_pure ?_)
  refine wpAny_bind (PySem.W.kdu_collect (A := X.A.in1) (kdl_raw hs hx hdt) (I.ok.hd hc) ho (Evl.sz_of (by omega)) fun h' tk acc hk it => ?_)
  have ea : acc.toList = xs.map fun x => Value.ref x.2.1 := by
    have hlen : acc.toList.length = xs.length := by rw [Array.length_toList, it.1]; exact l1
    apply List.ext_getElem?
    intro j
    rw [List.getElem?_map]
    cases hj : acc.toList[j]? with
    | none =>
      have h1 := List.getElem?_eq_none_iff.mp hj
      rw [List.getElem?_eq_none (by omega)]
      rfl
    | some v =>
      obtain ⟨en, hen, hv⟩ := it.2 j v (by rw [← Array.getElem?_toList]; exact hj)
      have qe := entry_at he j
      rw [hen] at qe
      cases hb : xs[j]? with
      | none => rw [hb] at qe; cases qe
      | some x =>
        rw [hb] at qe
        have qe := Option.some.inj qe
        rw [hv, qe]
        rfl
  have I1 : Inv X pins σ H { s with heap := h', toks := tk } := I.kept hk
  have hal : acc.toList.length = os.length := by rw [ea, List.length_map, l2]
  refine wpAny_bind (wpAny_newList ?_ (Evl.sz_of (by omega)))
  have hoL : (h'.push (seqObj "list" acc.toList.toArray 0)).get? h'.objs.size = some (seqObj "list" acc.toList.toArray 0) := Heap.get?_push_size _ rfl
  show wpAny _ _ _ _ _ { s with heap := h'.push (seqObj "list" acc.toList.toArray 0), toks := tk }
  have e1 : EachIs (fun u (z : V × Tup Int) => RelV z.1 u) acc.toList zs := by rw [ea]; exact each_rel z1
  have er : EachIs (fun v (z : V × Tup Int) => ∃ as, Reads (h'.push (seqObj "list" acc.toList.toArray 0)) v (Datum.toD z.2) as ∧ h'.objs.size ∉ as) acc.toList zs := each_mono2 e1 fun u z hm hr => by
    obtain ⟨_, a, ez, hz⟩ := z3 z hm
    rw [ez] at hr
    cases hr
    obtain ⟨its, rv, pt, _⟩ := I1.tuple hz
    refine ⟨[], ?_, by simp⟩
    have hR : Reads h' (.ref a) (.tuple (z.2.items.map .int)) [] := reads_tuple_ints pt (by simpa using ints_vals rv)
    exact Reads.keeps (fun _ _ e => Heap.get?_push_of_some _ e) hR
  have hsk : PySem.W.Sortable (zs.map fun z => Datum.toD z.2) := by
    refine .inl fun dd hd => ?_
    obtain ⟨z, hz, rfl⟩ := List.mem_map.mp hd
    have hz2 : z.2 ∈ zs.map (·.2) := List.mem_map.mpr ⟨z, hz, rfl⟩
    rw [z2] at hz2
    obtain ⟨e, he, ez⟩ := List.mem_map.mp hz2
    have := hpos e he
    rw [← ez]
    cases hF : e.1 with
    | nil => rw [hF] at this; simp at this
    | cons f F => exact ⟨_, _, rfl⟩
  have hdep : ∀ b ∈ zs, X.A.in1.units + 1 + (Datum.toD b.2).depth < cLine := fun b hb => by
    have h4 := Datum.depth_le b.2
    have h3 : Datum.depth (Tup Int) ≤ 62 := by decide
    show X.A.units + 1 + 1 + _ < _
    omega
  refine wpAny_bind (wpAny_holding ?_)
  refine PySem.W.list_sort_data (s := { s with heap := h'.push (seqObj "list" acc.toList.toArray 0), toks := tk }) (R := fun u (z : V × Tup Int) => RelV z.1 u) (enc := fun z => Datum.toD z.2) (bs := zs) hoL e1 er
    (PySem.W.AllAlike.of fun b b' => DatumOrd.alike b.2 b'.2) hsk (Evl.sz_of (by omega)) hdep fun out ho2 hs2 => ?_
  rw [le_data] at hs2
  obtain ⟨ep', he'⟩ := PyProof.Rows.sortedHeap_at (vs := acc.toList) (out := List.toArray out) hoL
  have hlen : ((zs.mergeSort fun a b => leX a.2 b.2).map (·.1)).length ≤ sizeLine := by rw [List.length_map, List.length_mergeSort]; exact Evl.sz_of (by omega)
  have np : H h'.objs.size = none := I1.hok.fresh (Nat.le_refl _)
  refine wpAny_pure ⟨_, rfl, .ref h'.objs.size, upd H h'.objs.size (.lst ((zs.mergeSort fun a b => leX a.2 b.2).map (·.1))), I1.laid (t' := tk) (fun b u e => ?_) (Nat.le_refl _)
    (show ObjOk X.prog X.w _ _ _ (.lst ((zs.mergeSort fun a b => leX a.2 b.2).map (·.1))) from ⟨hlen, out, ep', rel_each hs2, he'⟩), rfl, ?_⟩
  · have hb : b < h'.objs.size := Heap.lt_size e
    rw [PyProof.Rows.sortedHeap_old (Nat.ne_of_lt hb) (by rw [size_push']; exact Nat.lt_succ_of_lt hb)]
    exact Heap.get?_push_of_some _ e
  · refine q _ _ _ np (Evl.Ex.new np) upd_same ?_
    have e2 : ((os.map fun e => Tup.mk e.1).mergeSort fun a b => leX a b) = ((zs.mergeSort fun a b => leX a.2 b.2).map (·.2)) := by
      rw [List.map_mergeSort (s := fun a b => leX a b) (fun _ _ _ _ => rfl), z2]
    rw [e2]
    refine DAll.of (by rw [List.length_map, List.length_map]) fun i v x g1 g2 => ?_
    rw [List.getElem?_map] at g1 g2
    cases hi : (zs.mergeSort fun a b => leX a.2 b.2)[i]? with
    | none => rw [hi] at g1; cases g1
    | some z =>
      rw [hi] at g1 g2
      cases g1
      cases g2
      exact ((z3 z ((List.mergeSort_perm _ _).mem_iff.mp (List.mem_of_getElem? hi))).1).ex (Evl.Ex.new np)
end
end TP
namespace TP
open PySem PySem.Spec PyProof.Rows L2
open PySem.W (Datum DatumOrd Holds HoldAll minOf maxOf Tup EachIs)
def tBMV (P : Program) (w : World) (K : PySem.W.Frag) (r : V → List V → Hp → VK → Prop) (to : TE) (t : TA) : TE := fun σ H Q => to σ H fun x H1 => (∃ d os, x = .ref d ∧ VDict P w K H1 d os) ∧ t σ H1 fun xs H2 => r x xs H2 Q
theorem w_bmV {P : Program} {w : World} {K : PySem.W.Frag} {r : V → List V → Hp → VK → Prop} {to : TE} {t : TA} {σ : L2.St} {H : Hp} {Q : VK} (h : to σ H fun x H1 => (∃ d os, x = .ref d ∧ VDict P w K H1 d os) ∧ t σ H1 fun xs H2 => r x xs H2 Q) : tBMV P w K r to t σ H Q := h
section
variable {X : Cx} {o e : Expr} {es : List Expr} {to : TE} {t : TA} {name : Str} {apos cpos : Pos} {id : String} {r : V → List V → Hp → VK → Prop}
/-- a method of a dict from rows to couples -/
theorem pe_bmV (pa : PlainAttrs "dict") (slot : Slot "dict" name id) (hty : typeOf (.builtin id) = pure (.type "method_descriptor")) (hm : MtR X id r) (ho : PE X o to) (ha : PA X (e :: es) t)
    (hbase : attributeBase o name X.env (eval o X.env) = eval o X.env := by rfl)
    (hfew : ((backTo cpos (starEach (e :: es) X.env)).all (fun x => !x.1) && (backToKw cpos (keywordEach [] X.env)).all (fun x => x.1.isSome)
      && decide ((e :: es).length + ([] : List Keyword).length + (if ([] : List Keyword).isEmpty then 0 else 1) < 30)) = true := by rfl)
    (hline : (apos.endLine == cpos.line) = true := by rfl) (hs : starEach (e :: es) X.env = (false, eval e X.env) :: starEach es X.env := by rfl) (hplain : (backTo cpos (starEach es X.env)).any (·.1) = false := by rfl) :
    PE X (.Call (.Attribute o name apos) (e :: es) [] cpos) (tBMV X.prog X.w X.K r to t) := by
  refine ⟨fun pins s σ H Q I h => ?_⟩
  refine wpAny_Call_method_late hbase hfew hline rfl (thn (ho.run pins s σ H _ I h) fun v s1 ⟨x, H1, I1, r1, ⟨d, os, ex, xs, h1, h2, h3⟩, q1⟩ => ?_)
  have r1' := r1
  subst ex
  obtain rfl : v = Value.ref d := r1
  obtain ⟨D, _⟩ := VDict.dictOf I1 h1 h2 h3
  have ht := D.typeIs
  obtain ⟨ob, es', ep, g1, g2, _⟩ := D
  refine ⟨"dict", id, pa, slot, hty, ht, fun a e => ?_, ?_⟩
  · cases e
    exact ⟨ob, g1, g2.2.1⟩
  have hA := ha.run cpos pins s1 σ H1 _ I1 q1
  rw [hs] at hA ⊢
  refine Calls.callWith_builtin (by show (false || (backTo cpos (starEach es X.env)).any (·.1)) = false; rw [hplain] <;> rfl) (Calls.evalArgs_plain ?_)
  exact thn hA fun us s2 ⟨vs, H2, I2, r2, q2⟩ => hm pins s2 σ H2 (.ref d) vs (.ref d) us Q I2 r1' r2 q2
end
/-! ### a comprehension that makes new lists -/
section
variable {K : PySem.W.Frag} {σ : L2.St} {H : Hp} {Q : VK} {te : TE} {g : TG} {vs : List Nat}
def LcN (G : Nat → V → Hp → Prop) (H : Hp) (D : Addr) (i : Nat) (H' : Hp) : Prop := H D = none ∧ Ex H H' ∧ ∃ ys, H' D = some (.lst ys) ∧ Told (fun i y H => G i y H ∧ y ≠ .ref D) i ys H'
theorem lcLN {G : Nat → V → Hp → Prop} {a : Addr} {xs : List V} (m : ∀ i y H1 H2, Ex H1 H2 → G i y H1 → G i y H2) (mu : ∀ i y H1 D acc acc', H1 D = some (.lst acc) → y ≠ .ref D → G i y H1 → G i y (upd H1 D (.lst acc'))) (hn : xs.length ≤ 100000) (hx : SqL K H a xs)
    (turn : ∀ i x H', xs[i]? = some x → Ex H H' → g x (wipe σ vs) H' fun σ2 H2 => H2 = H' ∧ wipe σ2 vs = wipe σ vs ∧ ∀ QV : VK, (∀ p H3, Ex H' H3 → H' p = none → G i (.ref p) H3 → QV (.ref p) H3) → te σ2 H' QV)
    (mg : ∀ x σ H Q Q', (∀ σ' H', Q σ' H' → Q' σ' H') → g x σ H Q → g x σ H Q')
    (k : ∀ p H2 ys, H p = none → Ex H H2 → H2 p = some (.lst ys) → Told G xs.length ys H2 → Q (.ref p) H2) : LcG g tYes te vs σ Q (Itl K a) H := by
  intro D hD
  refine lc_list (xs := xs) (LcN G H D) ⟨hD, Evl.Ex.new hD, [], upd_same, rfl, fun i y h => by simp at h⟩ (fun i H' _ p => ex_l p.2.1 hx) (fun i x H' hi p => ?_) (fun H' p => ?_)
  · refine mg _ _ _ _ _ (fun σ' H'' q => ?_) (turn i x H' hi p.2.1)
    obtain ⟨rfl, q1, q2⟩ := q
    refine ⟨q1, tYes_ (iteT ?_)⟩
    obtain ⟨_, e, ys, hy, t⟩ := p
    refine q2 _ fun pn H3 e3 np hg => ⟨ys, e3 D _ hy, ?_, hD, Evl.Ex.mut (e.trans e3) hD, ys ++ [.ref pn], upd_same, ?_⟩
    · rw [t.1]
      have := (List.getElem?_eq_some_iff.mp hi).1
      exact Evl.sz_lt (by omega)
    · have hd3 := e3 D _ hy
      have nD : V.ref pn ≠ V.ref D := fun e => by
        injection e with e
        rw [e, hy] at np
        cases np
      exact t.snoc (fun j z hz => ⟨mu j z H3 D ys _ hd3 hz.2 (m j z _ _ e3 hz.1), hz.2⟩) ⟨mu i _ H3 D ys _ hd3 nD hg, nD⟩
  · obtain ⟨a, b, ys, c, d⟩ := p
    exact k D H' ys a b c ⟨d.1, fun i y h => (d.2 i y h).1⟩
end
end TP

/-! W31 -/
set_option Elab.async false
set_option linter.all false
set_option maxRecDepth 100000
set_option maxHeartbeats 4000000
-- k_mem: a fact of the heap as it is now, from an older one; k_upd: one step of a reading; k_all: as many as go

namespace TP
open PySem PySem.Spec PyProof.Rows L2 LamX
open PySem.W (minOf maxOf Tup DatumOrd Datum T4)
variable {P : Program} {w : World} {K : PySem.W.Frag} {mg : Str → Option Value} {base : Heap}
/-! ### _law_lanes -/
structure DD (H : Hp) (l m : Addr) : Prop where
  one : ∃ u, H l = some u ∧ NoObj u
  two : ∃ u, H m = some u ∧ NoObj u
section
variable {l m : Addr} {H H' : Hp}
theorem exd_t {a : Addr} {xs : List V} (e : ExB l m H H') (t : DD H l m) (h : SqT K H a xs) : SqT K H' a xs := by
  obtain ⟨⟨u, hl, nu⟩, u', hm, nu'⟩ := t
  rcases h with (h | ⟨ob, h⟩) | h
  · exact .inl (.inl (e _ _ (ne_of h hl (fun z => nu.1.1 _ z.symm)) (ne_of h hm (fun z => nu'.1.1 _ z.symm)) h))
  · exact .inl (.inr ⟨ob, e _ _ (ne_of h hl (fun z => nu.1.2 _ _ z.symm)) (ne_of h hm (fun z => nu'.1.2 _ _ z.symm)) h⟩)
  · exact .inr h
theorem exd_l {a : Addr} {xs : List V} (e : ExB l m H H') (t : DD H l m) (h : H a = some (.lst xs)) : H' a = some (.lst xs) := by
  obtain ⟨⟨u, hl, nu⟩, u', hm, nu'⟩ := t
  exact e _ _ (ne_of h hl (fun z => nu.2.2 _ z.symm)) (ne_of h hm (fun z => nu'.2.2 _ z.symm)) h
theorem HalfAt.exd {v : V} {t : RaySt} (h : HalfAt K H v t) (e : ExB l m H H') (tw : DD H l m) : HalfAt K H' v t := by
  obtain ⟨p, a, c, ev, h1, h2, h3⟩ := h
  exact ⟨p, a, c, ev, exd_t e tw h1, exd_t e tw h2, exd_t e tw h3⟩
theorem RRowAt.exd {v : V} {t : RayRow} (h : RRowAt K H v t) (e : ExB l m H H') (tw : DD H l m) : RRowAt K H' v t := by
  obtain ⟨p, a, c, d, ev, h1, h2, h3, h4⟩ := h
  exact ⟨p, a, c, d, ev, exd_t e tw h1, exd_t e tw h2, exd_t e tw h3, exd_t e tw h4⟩
end
theorem VDict.objN {H : Hp} {d : Addr} {os : OutD} (h : VDict P w K H d os) : ∃ u, H d = some u ∧ NoObj u := by
  obtain ⟨xs, h1, _⟩ := h
  rcases h1 with h | ⟨_, h⟩
  · exact ⟨_, h, noTup_ext, (fun _ _ _ z => by cases z), fun _ z => by cases z⟩
  · exact ⟨_, h, noTup_dK, (fun _ _ _ z => by cases z), fun _ z => by cases z⟩
/-- the state of the scan, in the heap -/
structure LSt (P : Program) (w : World) (K : PySem.W.Frag) (H : Hp) (sd od : Addr) (st : LawSt) : Prop where
  nd : NDict P w K H sd st.1
  vd : VDict P w K H od st.2
  pos : ∀ e ∈ st.2, 0 < e.1.length
theorem LSt.mono {H H' : Hp} {sd od : Addr} {st : LawSt} (h : LSt P w K H sd od st) (e : Ex H H') : LSt P w K H' sd od st := ⟨h.nd.mono e, h.vd.mono e, h.pos⟩
theorem LSt.dd {H : Hp} {sd od : Addr} {st : LawSt} (h : LSt P w K H sd od st) : DD H sd od := ⟨h.nd.objN, h.vd.objN⟩
theorem hkey_at {H : Hp} {tk a c : Addr} {on : Int} {pt way : T3} (h : SqT K H tk [.ref a, .int on, .ref c]) (ha : SqT K H a (vi (T3.l pt))) (hc : SqT K H c (vi (T3.l way))) : NAt K H tk (hkey pt on way) := by
  have e : (hkey pt on way).data = .tuple [.tuple [.int pt.1, .int pt.2.1, .int pt.2.2], .int on, .tuple [.int way.1, .int way.2.1, .int way.2.2]] := by
    simp only [hkey, NestedKey.data, NestedKey.datas]
  refine ⟨?_, by simp [hkey, NestedKey.depth, NestedKey.depthAll]⟩
  rw [e]
  exact .tup h (.cons (.tup ha (.cons (.int _) (.cons (.int _) (.cons (.int _) .nil)))) (.cons (.int on) (.cons (.tup hc (.cons (.int _) (.cons (.int _) (.cons (.int _) .nil)))) .nil)))
theorem oput_len (os : OutD) (k : List Int) (v : Int × Int) : os.length ≤ (oput os k v).length := by
  unfold oput
  split
  · rw [List.length_map]; exact Nat.le_refl _
  · rw [List.length_append]; exact Nat.le_add_right _ _
theorem rowsKeys_len (ks : List NestedKey) (rows : List RayRow) : ks.length ≤ (rowsKeys ks rows).length := fold_le (μ := List.length) (fun b r => addK_le b _) rows ks
theorem halfStep_le (p q : Int) (ry : RaySt → List RayRow) (st : LawSt) (h : RaySt) : Scan.le st (halfStep p q ry st h) := by
  unfold halfStep
  split
  · exact Scan.le_refl _
  · exact ⟨rowsKeys_len _ _, oput_len _ _ _⟩
theorem oput_pos {os : OutD} {k : List Int} {v : Int × Int} (h : ∀ e ∈ os, 0 < e.1.length) (hk : 0 < k.length) : ∀ e ∈ oput os k v, 0 < e.1.length := by
  intro e he
  unfold oput at he
  split at he
  · obtain ⟨a, ha, rfl⟩ := List.mem_map.mp he
    split
    · exact hk
    · exact h a ha
  · rcases List.mem_append.mp he with he | he
    · exact h e he
    · rw [List.mem_singleton.mp he]; exact hk
theorem told_vi {L : List Int} {zs : List V} {H : Hp} (told : Told (fun i y _ => (vi L)[i]? = some y) L.length zs H) : zs = vi L := by
  refine List.ext_getElem? fun k => ?_
  cases hk : zs[k]? with
  | some y => exact (told.2 k y hk).symm
  | none =>
    have h1 := List.getElem?_eq_none_iff.mp hk
    rw [told.1] at h1
    refine (List.getElem?_eq_none_iff.mpr ?_).symm
    unfold vi
    rw [List.length_map]
    exact h1
def spLawLanes (P : Program) (w : World) (K : PySem.W.Frag) : Sp := fun vs H Q _ => ∃ a b s p q ry, vs = [.ref a, .ref b] ∧ SqL K H a (vi (T3.l s)) ∧ SqT K H b (vi [p, q]) ∧ (∀ i, 1 ≤ s.get i ∧ s.get i ≤ 5) ∧ (1 ≤ p ∧ p ≤ 5) ∧ (1 ≤ q ∧ q ≤ 5) ∧ LawIn s p q ry ∧
  ∀ l H' ys, Ex H H' → H l = none → H' l = some (.lst ys) → Al (LRowAt K H') ys (lawRows s p q ry) → Q (.ref l) H'
theorem C_law_lanes (E : Env K mg) : FnC P w K mg base "_law_lanes" 5 ["_law_sides_here", "_law_slope_here"] [] (spLawLanes P w K) := by
  have C_law_halves := C_law_halves (P := P) (w := w) (base := base) E
  have C_law_ray := C_law_ray (P := P) (w := w) (base := base) E
  have C_law_turned_least := C_law_turned_least (P := P) (w := w) (base := base) E
  refine .of E.d_law_lanes E.g_law_lanes sc_law_lanes (fun vs H Q E h => ?_) (fun _ _ _ _ _ _ us hl => match us, hl with | [_, _], _ => rfl) (fun cdv A outer s0 H vs Q E' hr h => ?_)
  · obtain ⟨a, b, s, p, q, ry, rfl, _⟩ := h
    rfl
  · obtain ⟨a, b, s, p, q, ry, rfl, ha, hb, hs, hp, hq, hin, k⟩ := h
    have hsr : ∀ {A : Around}, Room 4 A → A.units + 100 < cLine := fun r => by have := r.un; omega
    refine ⟨_, (pss_cons (ps_set (i := 2) sc_law_lanes.nd rfl (by first | exact Or.inl rfl | exact Or.inr rfl) (pe_op op_mul (pe_ix ix_tup (pv 1) pe_int (fun _ _ => rfl)) (pe_ix ix_tup (pv 1) pe_int (fun _ _ => rfl))))
      (pss_cons (ps_set (i := 3) sc_law_lanes.nd rfl (by first | exact Or.inl rfl | exact Or.inr rfl) (pe_op op_mul pe_int (pv 2)))
      (pss_cons (ps_set (i := 4) sc_law_lanes.nd rfl (by first | exact Or.inl rfl | exact Or.inr rfl) pe_dnewK)
      (pss_cons (ps_set (i := 5) sc_law_lanes.nd rfl (by first | exact Or.inl rfl | exact Or.inr rfl) pe_dnewK)
      (pss_cons (ps_for PassesOwn.never rfl (pi_list (pe_c C_law_halves (hr.mono (by decide)) rfl (pa_cons (pv 0) (pa_cons (pv 1) pa_nil)))) (pg_tup (n := 3) rfl (pgs_cons (pg_name (i := 6) sc_law_lanes.nd rfl (by first | exact Or.inl rfl | exact Or.inr rfl)) (pgs_cons (pg_name (i := 7) sc_law_lanes.nd rfl (by first | exact Or.inl rfl | exact Or.inr rfl)) (pgs_cons (pg_name (i := 8) sc_law_lanes.nd rfl (by first | exact Or.inl rfl | exact Or.inr rfl)) pgs_nil)))) (pss_one (ps_if (pt_cmpR (op_notInN hr.units) (pe_tup (pa_cons (pv 6) (pa_cons (pv 7) (pa_cons (pv 8) pa_nil)))) (pv 4) (by rfl)) (pss_cons (ps_set (i := 9) sc_law_lanes.nd rfl (by first | exact Or.inl rfl | exact Or.inr rfl) (pe_ix ix_list (pe_c C_law_ray (hr.mono (by decide)) rfl (pa_cons (pv 0) (pa_cons (pv 3) (pa_cons (pv 2) (pa_cons (pv 6) (pa_cons (pv 7) (pa_cons (pv 8) (pa_cons (pe_op op_mul (pe_op op_mul pe_int (pe_op op_add (pe_ix ix_tup (pv 1) pe_int (fun _ _ => rfl)) (pe_ix ix_tup (pv 1) pe_int (fun _ _ => rfl)))) (pe_callB (cr_sum rfl) (by rfl) E.b_sum (by decide +kernel) (pa_cons (pv 0) pa_nil))) pa_nil)))))))) pe_int (fun _ _ => rfl)))
      (pss_cons (ps_for PassesOwn.never rfl (pi_list (pv 9)) (pg_name (i := 10) sc_law_lanes.nd rfl (by first | exact Or.inl rfl | exact Or.inr rfl)) (pss_one (ps_asg pe_bl (pg_sub (pv 4) (pe_tup (pa_cons (pe_ix ix_tup (pv 10) pe_int (fun _ _ => rfl)) (pa_cons (pe_ix ix_tup (pv 10) pe_int (fun _ _ => rfl)) (pa_cons (pe_ix ix_tup (pv 10) pe_int (fun _ _ => rfl)) pa_nil)))) (set_N hr.units)))))
      (pss_cons (ps_set (i := 11) sc_law_lanes.nd rfl (by first | exact Or.inl rfl | exact Or.inr rfl) (pe_c C_law_turned_least (hr.mono (by decide)) rfl (pa_cons (pe_lc (own := [("_law_row", 10)]) rfl sc_law_lanes.nd (pi_list (pv 9)) (blkOk_by (own := [("_law_row", 10)]) (N := ["_law_sides_here", "_law_slope_here", "_law_many", "_law_scale", "_law_seen", "_law_out_here", "_law_place", "_law_face", "_law_steps_here", "_law_rows", "_law_row", "_law_faces", "_law_old"]) (sc := defScope s_law_lanes) (by decide +kernel)) (fun _ _ _ _ _ => by exact (pg_cast (pg_name (i := 10) sc_law_lanes.nd rfl (by first | exact Or.inl rfl | exact Or.inr rfl)) (by (try simp only [blk_K]); rfl))) (fun _ _ _ _ _ => by exact (pts_cast pts_nil (by (try simp only [blk_K]); rfl))) (fun _ _ _ _ _ => by exact (pe_cast (pe_ix ix_tup (pv 10) pe_int (fun _ _ => rfl)) (by (try simp only [blk_K]); rfl)))) pa_nil)))
      (pss_cons (ps_set (i := 12) sc_law_lanes.nd rfl (by first | exact Or.inl rfl | exact Or.inr rfl) (pe_bmV PySem.F.plainAttrs_dict PySem.F.slot_dict_get PySem.F.type_dict_get (mt_getV hr.units) (pv 5) (pa_cons (pv 11) (pa_cons (pe_tup (pa_cons pe_int (pa_cons pe_int pa_nil))) pa_nil))))
      (pss_one (ps_asg (pe_tup (pa_cons (pe_op op_fdiv (pe_callB (cr_sum rfl) (by rfl) E.b_sum (by decide +kernel) (pa_cons (pe_lc (own := [("_law_row", 10)]) rfl sc_law_lanes.nd (pi_list (pv 9)) (blkOk_by (own := [("_law_row", 10)]) (N := ["_law_sides_here", "_law_slope_here", "_law_many", "_law_scale", "_law_seen", "_law_out_here", "_law_place", "_law_face", "_law_steps_here", "_law_rows", "_law_row", "_law_faces", "_law_old"]) (sc := defScope s_law_lanes) (by decide +kernel)) (fun _ _ _ _ _ => by exact (pg_cast (pg_name (i := 10) sc_law_lanes.nd rfl (by first | exact Or.inl rfl | exact Or.inr rfl)) (by (try simp only [blk_K]); rfl))) (fun _ _ _ _ _ => by exact (pts_cast pts_nil (by (try simp only [blk_K]); rfl))) (fun _ _ _ _ _ => by exact (pe_cast (pe_ix ix_tup (pv 10) pe_int (fun _ _ => rfl)) (by (try simp only [blk_K]); rfl)))) pa_nil)) (pe_op op_mul (pv 3) (pv 2))) (pa_cons (pe_op op_add (pe_ix ix_tup (pv 12) pe_int (fun _ _ => rfl)) pe_int) pa_nil))) (pg_sub (pv 5) (pv 11) (set_V hr.units)))))))) pss_nil)))
      (pss_one (ps_ret (pe_lc (own := [("_law_faces", 11)]) rfl sc_law_lanes.nd (pi_list (pe_callB (cr_sortV rfl (hsr hr)) (by rfl) E.b_sorted (by decide +kernel) (pa_cons (pv 5) pa_nil))) (blkOk_by (own := [("_law_faces", 11)]) (N := ["_law_sides_here", "_law_slope_here", "_law_many", "_law_scale", "_law_seen", "_law_out_here", "_law_place", "_law_face", "_law_steps_here", "_law_rows", "_law_row", "_law_faces", "_law_old"]) (sc := defScope s_law_lanes) (by decide +kernel)) (fun _ _ _ _ _ => by exact (pg_cast (pg_name (i := 11) sc_law_lanes.nd rfl (by first | exact Or.inl rfl | exact Or.inr rfl)) (by (try simp only [blk_K]); rfl))) (fun _ _ _ _ _ => by exact (pts_cast pts_nil (by (try simp only [blk_K]); rfl))) (fun _ _ _ _ _ => by exact (pe_cast (pe_lst (pa_cons (pv 11) (pa_cons (pe_ix ix_tup (pe_ix (ix_V hr.units) (pv 5) (pv 11) (fun _ _ => rfl)) pe_int (fun _ _ => rfl)) (pa_cons (pe_ix ix_tup (pe_ix (ix_V hr.units) (pv 5) (pv 11) (fun _ _ => rfl)) pe_int (fun _ _ => rfl)) pa_nil)))) (by (try simp only [blk_K]); rfl))))))))))), ?_⟩
    have hpq : 0 ≤ p * q ∧ p * q ≤ 25 := by
      have := mul_25 (a := p) (b := q) (by omega) (by omega)
      have := Int.mul_pos (show 0 < p by omega) (show 0 < q by omega)
      omega
    have hpq1 : 0 < p * q := Int.mul_pos (show 0 < p by omega) (show 0 < q by omega)
    have hscm : 0 < 2 * (p * q) * (p * q) ∧ 2 * (p * q) * (p * q) ≤ 1250 := by
      refine ⟨Int.mul_pos (by omega) hpq1, ?_⟩
      have h1 : p * q * (p * q) ≤ 25 * 25 := Int.mul_le_mul hpq.2 hpq.2 hpq.1 (by omega)
      have h2 : 2 * (p * q) * (p * q) = 2 * (p * q * (p * q)) := by grind
      omega
    have hsum : (T3.l s).sum = s.1 + s.2.1 + s.2.2 := by simp [T3.l]; omega
    have hs0 := hs 0
    have hs1 := hs 1
    have hs2 := hs 2
    simp [T3.get] at hs0 hs1 hs2
    have hmost : 4 * (p + q) * (s.1 + s.2.1 + s.2.2) < 1000000 := by
      have h1 : (p + q) * (s.1 + s.2.1 + s.2.2) ≤ 10 * 15 := Int.mul_le_mul (by omega) (by omega) (by omega) (by omega)
      have h2 : 4 * (p + q) * (s.1 + s.2.1 + s.2.2) = 4 * ((p + q) * (s.1 + s.2.1 + s.2.2)) := by grind
      omega
    k_all
    refine w_dnew fun sd nsd => ?_
    generalize hG2 : upd _ _ _ = H2
    have e2 : Ex H H2 := ex_of hG2 nsd
    have l2 := at_of hG2
    k_all
    refine w_dnew fun od nod2 => ?_
    generalize hG3 : upd _ _ _ = H3
    have e3 : Ex H2 H3 := ex_of hG3 nod2
    have l3 := at_of hG3
    have nod := Evl.fresh_back e2 nod2
    have e13 := e2.trans e3
    have hso : sd ≠ od := fun h => by rw [h] at l2; rw [nod2] at l2; cases l2
    have l23 := e3 _ _ l2
    k_all
    refine ⟨a, b, s, p, q, rfl, ex_l e13 ha, ex_t e13 hb, fun i => by have := hs i; omega, hp, hq, fun hl H4 hv e4 nhl3 l4 al4 => ?_⟩
    k_all
    have e14 := e13.trans e4
    have hlen : hv.length ≤ 3600 := by rw [al4.1]; exact hin.len
    have st0 : LSt P w K H4 sd od ([], []) := ⟨⟨[], .inr ⟨rfl, e4 _ _ l23⟩, (fun x hx => by cases hx), List.nodup_nil, rfl⟩, ⟨[], .inr ⟨rfl, e4 _ _ l3⟩, .nil, List.nodup_nil⟩, fun e he => by cases he⟩
    refine w_itL (sl_at l4) (for_list (xs := hv) (fun i σ H' => ∃ z6 z7 z8 z9 z10 z11 z12, σ = [some (.ref a), some (.ref b), some (.int (p * q)), some (.int (2 * (p * q))), some (.ref sd), some (.ref od), z6, z7, z8, z9, z10, z11, z12] ∧ Ex H H' ∧ ExB sd od H4 H' ∧ LSt P w K H' sd od (((halves s p q).take i).foldl (halfStep p q ry) ([], [])))
      ⟨_, _, _, _, _, _, _, rfl, e14, ExB.refl _ _ _, st0⟩ (fun i σ H' _ h => ?_) (fun i x σ H' hi h => ?_) (fun σ H' h => ?_))
    · obtain ⟨_, _, _, _, _, _, _, _, _, eb, _⟩ := h
      exact sl_at (exd_l eb st0.dd l4)
    · obtain ⟨z6, z7, z8, z9, z10, z11, z12, rfl, e, eb, hst⟩ := h
      obtain ⟨t, ht⟩ : ∃ t, (halves s p q)[i]? = some t := by
        have := (List.getElem?_eq_some_iff.mp hi).1
        rw [al4.1] at this
        exact ⟨_, List.getElem?_eq_getElem this⟩
      obtain ⟨pp, pa, pc, rfl, hpp, hpa, hpc⟩ := (al4.2 i x t hi ht).exd eb st0.dd
      have hstep := fold_snoc (F := halfStep p q ry) (b := (([], []) : LawSt)) ht
      have hfin : Scan.le (halfStep p q ry (((halves s p q).take i).foldl (halfStep p q ry) ([], [])) t) (lawScan s p q ry) := by
        rw [← hstep]
        exact fold_take_le (halfStep_le p q ry) _ _ _
      rw [hstep]
      generalize ((halves s p q).take i).foldl (halfStep p q ry) ([], []) = st at hst hfin
      k_all
      rename_i tk ntk H5 e5 l5
      have hst5 := hst.mono e5
      refine ⟨tk, sd, hkey t.pt t.on t.way, st.1, rfl, rfl, hkey_at (st_at l5) (ex_t e5 hpa) (ex_t e5 hpc), hst5.nd, ?_⟩
      k_all
      refine if_ndec (fun hmem => ?_) (fun hmem => ?_)
      · have e0 : halfStep p q ry st t = (rowsKeys st.1 (ry t), oput st.2 (rowsFaces (ry t)) (rowsLen p q (ry t), (oget st.2 (rowsFaces (ry t))).2 + 1)) := if_neg hmem
        rw [e0] at hfin
        rw [e0]
        obtain ⟨n, ts, ht0, horb, hnm, hry⟩ := hin.ray t (List.mem_of_getElem? ht)
        rw [hry] at hfin
        rw [hry]
        have n0 := horb.1
        have n4 := horb.2.1
        subst ht0
        have e15 := e.trans e5
        have hb5 := ex_t e15 hb
        have ha5 := ex_l e15 ha
        have hpa5 := ex_t e5 hpa
        have hpc5 := ex_t e5 hpc
        k_all
        refine ⟨a, T3.l s, rfl, ha5, ?_⟩
        rw [hsum]
        k_all
        refine ⟨a, _, _, pa, pc, _, s, n, ts, rfl, ha5, hpa5, hpc5, fun i => by have := hs i; omega, by omega, horb, ⟨hnm, hmost⟩, fun p6 l6 x6 H6 ys6 e6 np6 h6 h6l al6 => ?_⟩
        k_all
        have e16 := e15.trans e6
        have hst6 := hst5.mono e6
        have eb6 : ExB sd od H4 H6 := eb.trans (ExB.of (e5.trans e6))
        have hrl : ys6.length = n := by rw [al6.1]; unfold rayRows; rw [List.length_map, List.length_range]
        have hszr : (rowsKeys st.1 (rayRows s (2 * (p * q)) (p * q) n ts)).length ≤ 50000 := Nat.le_trans hfin.1 hin.keys
        have hszo : (oput st.2 (rowsFaces (rayRows s (2 * (p * q)) (p * q) n ts)) (rowsLen p q (rayRows s (2 * (p * q)) (p * q) n ts), (oget st.2 (rowsFaces (rayRows s (2 * (p * q)) (p * q) n ts))).2 + 1)).length ≤ 50000 := Nat.le_trans hfin.2 hin.out
        have hrn : (rayRows s (2 * (p * q)) (p * q) n ts).length = n := by unfold rayRows; rw [List.length_map, List.length_range]
        generalize rayRows s (2 * (p * q)) (p * q) n ts = rows at al6 hszr hszo hrn
        refine w_itL (sl_at h6l) (for_list (xs := ys6) (fun g σ H' => ∃ z10 z11 z12, σ = [some (.ref a), some (.ref b), some (.int (p * q)), some (.int (2 * (p * q))), some (.ref sd), some (.ref od), some (.ref pa), some (.int (ts 0).on), some (.ref pc), some (.ref l6), z10, z11, z12] ∧ Ex H H' ∧ ExB sd od H6 H' ∧ LSt P w K H' sd od (rowsKeys st.1 (rows.take g), st.2))
          ⟨_, _, _, rfl, e16, ExB.refl _ _ _, hst6⟩ (fun g σ H' _ h => ?_) (fun g x σ H' hg h => ?_) (fun σ H' h => ?_))
        · obtain ⟨_, _, _, _, _, eb, _⟩ := h
          exact sl_at (exd_l eb hst6.dd h6l)
        · obtain ⟨z10, z11, z12, rfl, e7, eb7, hst7⟩ := h
          obtain ⟨r, hr0⟩ : ∃ r, rows[g]? = some r := by
            have := (List.getElem?_eq_some_iff.mp hg).1
            rw [al6.1] at this
            exact ⟨_, List.getElem?_eq_getElem this⟩
          obtain ⟨pr, wr, ar, er, rfl, hpr, hwr, har, _⟩ := (al6.2 g x r hg hr0).exd eb7 hst6.dd
          have hsn : rowsKeys st.1 (rows.take (g + 1)) = addK (rowsKeys st.1 (rows.take g)) (hkey r.pt r.on r.way) := fold_snoc (F := fun (ks : List NestedKey) (r : RayRow) => addK ks (hkey r.pt r.on r.way)) hr0
          have hszg : (rowsKeys st.1 (rows.take g)).length ≤ 50000 := by
            refine Nat.le_trans ?_ hszr
            conv => rhs; rw [← List.take_append_drop g rows]
            unfold rowsKeys
            rw [List.foldl_append]
            exact rowsKeys_len _ _
          rw [hsn]
          generalize rowsKeys st.1 (rows.take g) = kg at hst7 hszg
          k_all
          rename_i tk2 ntk2 H8 e8 l8
          have hst8 := hst7.mono e8
          refine ⟨sd, tk2, hkey r.pt r.on r.way, kg, rfl, rfl, hkey_at (st_at l8) (ex_t e8 har) (ex_t e8 hwr), hst8.nd, hszg, fun φ nd' => ?_⟩
          obtain ⟨u9, hu9, nt9, _⟩ := hst8.nd.obj
          refine ⟨_, _, _, rfl, ex_mut rfl (e7.trans e8) nsd, (eb7.trans (ExB.of e8)).trans ExB.upd1, nd', hst8.vd.other hu9 nt9 (fun h => hso h.symm), hst8.pos⟩
        · obtain ⟨z10, z11, z12, rfl, e7, eb7, hst7⟩ := h
          rw [hrl, ← hrn, List.take_length] at hst7
          have h6l7 := exd_l eb7 hst6.dd h6l
          have al7 : Al (RRowAt K H') ys6 rows := al6.imp fun _ _ h => h.exd eb7 hst6.dd
          have eb47 : ExB sd od H4 H' := eb6.trans eb7
          have row_at : ∀ {H8 : Hp} {g : Nat} {y : V}, ys6[g]? = some y → Ex H' H8 → ∃ pr wr ar er r, y = .ref pr ∧ rows[g]? = some r ∧ SqT K H8 pr [.int r.on, .ref wr, .ref ar, .ref er, .int r.len] := fun {H8 g y} hg e8 => by
            obtain ⟨r, hr0⟩ : ∃ r, rows[g]? = some r := by
              have := (List.getElem?_eq_some_iff.mp hg).1
              rw [al7.1] at this
              exact ⟨_, List.getElem?_eq_getElem this⟩
            obtain ⟨pr, wr, ar, er, rfl, hpr, _⟩ := al7.2 g _ r hg hr0
            exact ⟨pr, wr, ar, er, r, rfl, hr0, ex_t e8 hpr⟩
          have hon : (rows.map (·.on)).length = ys6.length := by rw [List.length_map, hrn, hrl]
          have hle : (rows.map (·.len)).length = ys6.length := by rw [List.length_map, hrn, hrl]
          have hF : rowsFaces rows = leastBegun (rows.map (·.on)) := rfl
          have hFl : 0 < (rowsFaces rows).length := by rw [hF, minTup_len _ (by omega)]; omega
          have hL : rowsLen p q rows = (rows.map (·.len)).sum / (2 * (p * q) * (p * q)) := rfl
          k_all
          refine w_itL (sl_at h6l7) ?_
          refine lcL (G := fun i y _ => (vi (rows.map (·.on)))[i]? = some y) (fun _ _ _ _ _ h => h) (fun _ _ _ _ _ _ _ h => h) (by omega) (sl_at h6l7) (fun g y H8 hg e8 => ?_) mg_name (fun p9 H9 zs np9 e9 l9 told => ?_)
          · obtain ⟨pr, wr, ar, er, r, rfl, hr0, hpr⟩ := row_at hg e8
            refine ⟨rfl, rfl, fun QV qv => ?_⟩
            k_all
            refine qv _ _ (Evl.Ex.refl _) ?_
            unfold vi
            rw [List.getElem?_map, List.getElem?_map, hr0]
            rfl
          · rw [← hon] at told
            rw [told_vi told] at l9
            k_all
            refine ⟨_, _, rfl, .inl (sl_at l9), by omega, by omega, fun p10 H10 e10 h10 => ?_⟩
            change SqT K H10 p10 (vi (rowsFaces rows)) at h10
            have hst10 := (hst7.mono e9).mono e10
            k_all
            refine w_bmV ?_
            k_all
            refine ⟨⟨od, _, rfl, hst10.vd⟩, ?_⟩
            k_all
            rename_i z11a nz H11 e11 l11
            refine ⟨od, p10, z11a, _, _, rfl, rfl, ex_t e11 h10, st_at l11, hst10.vd.mono e11, fun b12 hb12 => ?_⟩
            have e911 := (e9.trans e10).trans e11
            have h6l11 := e911 _ _ h6l7
            k_all
            refine w_itL (sl_at h6l11) ?_
            refine lcL (G := fun i y _ => (vi (rows.map (·.len)))[i]? = some y) (fun _ _ _ _ _ h => h) (fun _ _ _ _ _ _ _ h => h) (by omega) (sl_at h6l11) (fun g y H8 hg e8 => ?_) mg_name (fun p13 H13 zs2 np13 e13' l13 told2 => ?_)
            · obtain ⟨pr, wr, ar, er, r, rfl, hr0, hpr⟩ := row_at hg (e911.trans e8)
              refine ⟨rfl, rfl, fun QV qv => ?_⟩
              k_all
              refine qv _ _ (Evl.Ex.refl _) ?_
              unfold vi
              rw [List.getElem?_map, List.getElem?_map, hr0]
              rfl
            · rw [← hle] at told2
              rw [told_vi told2] at l13
              have hb13 := ex_t e13' hb12
              k_all
              refine ⟨p13, rows.map fun r : RayRow => r.len, rfl, sl_at l13, ?_⟩
              k_all
              rename_i tq ntq H14 e14 l14
              have e1114 := e13'.trans e14
              have hst14 := (hst10.mono e11).mono e1114
              have h10' := ex_t ((e11.trans e13').trans e14) h10
              obtain ⟨u9, hu9, nt9, _⟩ := hst14.vd.obj
              refine ⟨od, p10, tq, _, _, _, _, rfl, rfl, rfl, h10', st_at l14, hst14.vd, Nat.le_trans (oput_len _ _ _) hszo, fun φ vd' => ?_⟩
              have ee := e7.trans ((e9.trans e10).trans (e11.trans e1114))
              have eb2 := eb47.trans (ExB.of ((e9.trans e10).trans (e11.trans e1114)))
              exact ⟨_, _, _, _, _, _, _, rfl, ex_mut rfl ee nod, eb2.trans ExB.upd2, hst14.nd.other hu9 nt9 hso, vd', oput_pos hst14.pos hFl⟩
      · have e0 : halfStep p q ry st t = st := if_pos hmem
        rw [e0]
        k_all
        exact ⟨_, _, _, _, _, _, _, rfl, e.trans e5, eb.trans (ExB.of e5), hst5⟩
    · obtain ⟨z6, z7, z8, z9, z10, z11, z12, rfl, e, eb, hst⟩ := h
      rw [al4.1, List.take_length] at hst
      change LSt P w K H' sd od (lawScan s p q ry) at hst
      k_all
      have hos := hin.out
      refine ⟨od, _, rfl, hst.vd, hos, hst.pos, fun p5 H5 ys5 np5 e5 l5 hd5 => ?_⟩
      have hst5 := hst.mono e5
      have hlen5 : ys5.length = (lawRows s p q ry).length := by
        rw [hd5.len]
        unfold lawRows
        rw [List.length_map]
      have hll : (lawRows s p q ry).length = (lawScan s p q ry).2.length := by
        unfold lawRows
        rw [List.length_map, List.length_mergeSort, List.length_map]
      k_all
      refine w_itL (sl_at l5) ?_
      refine lcLN (G := fun i y H => ∃ r pn tn, (lawRows s p q ry)[i]? = some r ∧ y = .ref pn ∧ H pn = some (.lst [.ref tn, .int r.len, .int r.wide]) ∧ SqT K H tn (vi r.faces)) (fun i y H1 H2 e h => ?_) (fun i y H1 D acc acc' hD hn h => ?_) (by omega) (sl_at l5) (fun i x H6 hx e6 => ?_) mg_name (fun p7 H7 ys7 np7 e7 l7 told => ?_)
      · obtain ⟨r, pn, tn, h1, h2, h3, h4⟩ := h
        exact ⟨r, pn, tn, h1, h2, e _ _ h3, ex_t e h4⟩
      · obtain ⟨r, pn, tn, h1, rfl, h3, h4⟩ := h
        exact ⟨r, pn, tn, h1, rfl, by rw [upd_ne (fun z => hn (by rw [z]))]; exact h3, mu_t h4 hD⟩
      · obtain ⟨F, hF⟩ : ∃ F, (((lawScan s p q ry).2.map fun e => Tup.mk e.1).mergeSort fun a b => leX a b)[i]? = some F := by
          have := (List.getElem?_eq_some_iff.mp hx).1
          rw [hd5.len] at this
          exact ⟨_, List.getElem?_eq_getElem this⟩
        have hmF : F.items ∈ (lawScan s p q ry).2.map (·.1) := by
          have := (List.mergeSort_perm _ _).mem_iff.mp (List.mem_of_getElem? hF)
          obtain ⟨e, he, rfl⟩ := List.mem_map.mp this
          exact List.mem_map.mpr ⟨e, he, rfl⟩
        obtain ⟨t, rfl, htF⟩ := d_tup_inv (show DAt K H6 x (Tup.mk F.items) from (hd5.at hx hF).ex e6)
        have hst6 := hst5.mono e6
        refine ⟨rfl, rfl, fun QV qv => ?_⟩
        k_all
        refine ⟨od, t, F.items, _, rfl, rfl, htF, hst6.vd, hmF, fun b8 hb8 => ?_⟩
        k_all
        refine ⟨od, t, F.items, _, rfl, rfl, htF, hst6.vd, hmF, fun b9 hb9 => ?_⟩
        k_all
        rename_i pn npn H7 e7 l7
        refine qv pn H7 e7 npn ⟨⟨F.items, (oget (lawScan s p q ry).2 F.items).1, (oget (lawScan s p q ry).2 F.items).2⟩, pn, t, ?_, rfl, l7, ex_t e7 htF⟩
        unfold lawRows
        rw [List.getElem?_map, hF]
        rfl
      · refine k p7 H7 ys7 (e.trans (e5.trans e7)) (Evl.fresh_back (e.trans e5) np7) l7 ⟨by rw [told.1, hlen5], fun i v x h1 h2 => ?_⟩
        obtain ⟨r, pn, tn, g1, rfl, g3, g4⟩ := told.2 i v h1
        rw [h2] at g1
        cases g1
        exact ⟨pn, tn, rfl, sl_at g3, g4⟩
end TP

/-! W32 -/
set_option Elab.async false
set_option linter.all false
set_option maxRecDepth 100000
set_option maxHeartbeats 4000000
-- k_mem: a fact of the heap as it is now, from an older one; k_upd: one step of a reading; k_all: as many as go

namespace TP
open PySem PySem.Spec PyProof.Rows L2 LamX
open PySem.W (minOf maxOf Tup DatumOrd Datum T4)
variable {P : Program} {w : World} {K : PySem.W.Frag} {mg : Str → Option Value} {base : Heap}
/-! ### the law -/
theorem rgC2 {N : Nat} (h : N ≤ 50000) : RgC 0 (N : Int) 2 ((N + 1) / 2) := by
  have hs : Builtin.Range.rangeSize 0 (N : Int) 2 = (((N + 1) / 2 : Nat) : Int) := by
    unfold Builtin.Range.rangeSize
    rw [if_pos (by decide)]
    split <;> omega
  refine ⟨by decide, by decide, ?_, hs⟩
  unfold Builtin.Range.small
  rw [hs]
  have f : ∀ i : Int, -100000 ≤ i → i ≤ 100000 → Builtin.Range.rangeFitsLong i = true := fun i h1 h2 => by
    unfold Builtin.Range.rangeFitsLong
    rw [decide_eq_true (by omega), decide_eq_true (by omega)]
    rfl
  rw [f 0 (by omega) (by omega), f N (by omega) (by omega), f 2 (by omega) (by omega), f (((N + 1) / 2 : Nat) : Int) (by omega) (by omega), if_pos (by decide), f ((N : Int) + (2 - 1)) (by omega) (by omega), Bool.or_true]
  rfl
theorem sl_off {H H' : Hp} {a c b : Addr} {xs : List V} (o : Off a H H') (hh : HandAt H a c) (n : xs.length ≠ 4) (h : SqL K H b xs) : SqL K H' b xs := by
  obtain ⟨cs, i, r, t, h1, _⟩ := hh
  rcases h with (h | ⟨ob, h⟩) | h
  · refine .inl (.inl (o _ _ (fun e => ?_) h))
    rw [e, h1] at h
    injection h with h
    injection h with h
    rw [← h] at n
    exact n rfl
  · refine .inl (.inr ⟨ob, o _ _ (fun e => ?_) h⟩)
    rw [e, h1] at h
    injection h with h
    cases h
  · exact .inr h
theorem LRowAt.off {H H' : Hp} {a c : Addr} {v : V} {r : LRow} (h : LRowAt K H v r) (o : Off a H H') (hh : HandAt H a c) : LRowAt K H' v r := by
  obtain ⟨p, t, ev, h1, h2⟩ := h
  exact ⟨p, t, ev, sl_off o hh (show 3 ≠ 4 by decide) h1, off_t o hh.lst h2⟩
theorem LRowAt.nx {H H' : Hp} {v : V} {r : LRow} (h : LRowAt K H v r) (e : ExtN H H') : LRowAt K H' v r := by
  obtain ⟨p, t, ev, h1, h2⟩ := h
  exact ⟨p, t, ev, nx_l e h1, nx_t e h2⟩
theorem HowAt.off {H H' : Hp} {a : Addr} {v : V} {x : How} (h : HowAt K H v x) (o : Off a H H') (hl : ∃ ys, H a = some (.lst ys)) : HowAt K H' v x := by
  obtain ⟨p, o1, g1, ev, h1, h2, h3⟩ := h
  exact ⟨p, o1, g1, ev, off_t o hl h1, off_t o hl h2, off_t o hl h3⟩
theorem HowAt.nx {H H' : Hp} {v : V} {x : How} (h : HowAt K H v x) (e : ExtN H H') : HowAt K H' v x := by
  obtain ⟨p, o1, g1, ev, h1, h2, h3⟩ := h
  exact ⟨p, o1, g1, ev, nx_t e h1, nx_t e h2, nx_t e h3⟩
theorem BoxAt.nx {H H' : Hp} {v : V} {s : T3} (h : BoxAt K H v s) (e : ExtN H H') : BoxAt K H' v s := by
  obtain ⟨p, dx, a, ev, h1, h2⟩ := h
  exact ⟨p, dx, a, ev, e _ _ h1 (fun _ z => by cases z), nx_t e h2⟩
theorem tabs_off {T : List (Addr × Str)} {H H' : Hp} {a : Addr} (t : Tabs T H) (o : Off a H H') (hl : ∃ ys, H a = some (.lst ys)) : Tabs T H' := fun p hp => by
  obtain ⟨ys, hl⟩ := hl
  obtain ⟨ps, h1, h2, h3⟩ := t p hp
  refine ⟨ps, o _ _ (ne_of h1 hl (fun z => by cases z)) h1, h2, fun pos cv hc => ?_⟩
  obtain ⟨c, e1, e2⟩ := h3 pos cv hc
  exact ⟨c, e1, o _ _ (ne_of e2 hl (fun z => by cases z)) e2⟩
/-- what the law finds of a lane -/
def rowF (l : Lane) : Row4 := ⟨⟨leastRow l.1⟩, ⟨l.1⟩, l.2.1, l.2.2⟩
/-- what is asked, in the plain -/
structure LawOk (s : T3) (p q : Int) (ry : RaySt → List RayRow) (h : How) (rg : Int → T3 → Int → List StV) : Prop where
  inn : LanesIn (ledBox s h) rg (ledSlope p q h).1 (ledSlope p q h).2
  rows : (lanesM (ledBox s h) rg (ledSlope p q h).1 (ledSlope p q h).2).map rowF = dueM h (lawRows s p q ry)
  twins : ∀ k, 2 * k < (lanesM (ledBox s h) rg (ledSlope p q h).1 (ledSlope p q h).2).length → ∃ a b, (lanesM (ledBox s h) rg (ledSlope p q h).1 (ledSlope p q h).2)[2 * k]? = some a ∧ (lanesM (ledBox s h) rg (ledSlope p q h).1 (ledSlope p q h).2)[2 * k + 1]? = some b ∧ leastRow a.1 = a.1 ∧ leastRow b.1 = leastRow a.1 ∧ b.1 ≠ a.1
  wide : ∀ l ∈ lanesM (ledBox s h) rg (ledSlope p q h).1 (ledSlope p q h).2, 0 ≤ l.2.2 ∧ l.2.2 ≤ 100000
  area : ((lanesM (ledBox s h) rg (ledSlope p q h).1 (ledSlope p q h).2).map fun l => l.2.1 * l.2.2).sum = 8 * ((ledBox s h).1 * (ledBox s h).2.1 + (ledBox s h).2.1 * (ledBox s h).2.2 + (ledBox s h).2.2 * (ledBox s h).1)
theorem d_t4_inv {H : Hp} {v : V} {r : Row4} (h : DAt K H v r) : ∃ p v1 v2, v = .ref p ∧ SqT K H p [v1, v2, .int r.c, .int r.d] ∧ DAt K H v1 r.a ∧ DAt K H v2 r.b := by
  have h' : Dp K H v (.tuple [Datum.toD r.a, Datum.toD r.b, .int r.c, .int r.d]) := h
  cases h' with
  | tup hs ha =>
    cases ha with
    | cons h1 ha =>
      cases ha with
      | cons h2 ha =>
        cases ha with
        | cons h3 ha =>
          cases ha with
          | cons h4 ha =>
            cases ha
            cases h3
            cases h4
            exact ⟨_, _, _, rfl, hs, h1, h2⟩
theorem w_iR3 {ta : TA} {σ : L2.St} {H : Hp} {R : It → Hp → Prop} (h : ta σ H fun vs H1 => ∃ (i j c : Int) (n : Nat), vs = [.int i, .int j, .int c] ∧ RgC i j c n ∧ R (Itc i c n) H1) : iRng3 ta σ H R := h
def AllOk : Prop := ∀ s p q, WorldOk s p q → ∃ ry, LawIn s p q ry ∧ (lawRows s p q ry).length ≤ 50000 ∧ (∀ r ∈ lawRows s p q ry, r.Ok) ∧ ∀ h, HowOk h → ∃ rg, LawOk s p q ry h rg
def spLaw (K : PySem.W.Frag) (pt : Addr) : Sp := fun vs H Q _ => ∃ a ns, vs = [.ref a] ∧ SqL K H a (vi ns) ∧ ns.length ≤ 63 ∧ Tabs [(pt, lamQ)] H ∧ ∀ H', Q (.bl true) H'
theorem fnOk_of {x : Str} {params : Arguments} {body : List Stmt} {scope : Scope} {f : Addr} {fd : FuncData} {k : Nat} {N ps : List Str} {sp : Sp} (F : FunD K x x params body scope [] [] f fd) (S : FnScope N ps scope) (len : ∀ vs H Q E, sp vs H Q E → vs.length = ps.length)
    (hbody : ∀ (cdv : Value) (A : Around) (outer : List PySem.Env) (s : Shared) (H : Hp) (vs : List V) (Q : VK) (E : XK), Room k (A.deeper (envOfC x scope s.heap.objs.size f cdv)) → sp vs H Q E →
      ∃ t, PSs (cxOf CX0 P w K mg base N x scope f cdv A outer s H E).nox body t ∧ t { nx := fun _ H' => Q .non H', rt := Q } (start N vs) H) : FnOk P w K mg base CX0 (k + 1) f fd ps sp :=
  F.ok S len fun cdv A outer s H vs Q E hr h => by
    obtain ⟨t, h1, h2⟩ := hbody cdv A outer s H vs Q E hr h
    exact ⟨t, h1.nox, h2⟩
theorem C_law {c pt : Addr} (ok : AllOk) (E : Env K mg) (hcode : codeAt K (He.ga K "lanes_of") = some c) (TB : TabB base mg c pt) {fd : FuncData} (F : FunD K "law" "law" (defArgs s_law) (defBody s_law) (defScope s_law) [] [] (He.ga K "law") fd) : FnOk P w K mg base CX0 9 (He.ga K "law") fd ["_law_script"] (spLaw K pt) := by
  have C_law_hand := C_law_hand (P := P) (w := w) (base := base) E
  have C_law_world := C_law_world (P := P) (w := w) (base := base) E
  have C_law_lanes := C_law_lanes (P := P) (w := w) (base := base) E
  have C_law_how := C_law_how (P := P) (w := w) (base := base) E
  have C_led_box := C_led_box (P := P) (w := w) (base := base) E
  have C_led_slope := C_led_slope (P := P) (w := w) (base := base) E
  have C_lanes_of := C_lanes_of (P := P) (w := w) (base := base) E hcode TB
  have C_law_due := C_law_due (P := P) (w := w) (base := base) E
  have C_law_tuples := C_law_tuples (P := P) (w := w) (base := base) E
  have C_law_led_slope := C_law_led_slope (P := P) (w := w) (base := base) E
  have M_Box := M_Box (P := P) (w := w) (base := base) E
  have O_Lanes_len := O_Lanes_len (P := P) (w := w) (base := base) E
  have O_Box_eq := O_Box_eq (P := P) (w := w) (base := base) E
  obtain ⟨N1, N2⟩ := isoB_ne E.iso_Box
  refine fnOk_of F sc_law (fun vs H Q E h => ?_) (fun cdv A outer s0 H vs Q E' hr h => ?_)
  · obtain ⟨a, ns, rfl, _⟩ := h
    rfl
  · obtain ⟨a, ns, rfl, ha, hns, hT, k⟩ := h
    refine ⟨_, (pss_cons (ps_set (i := 1) sc_law.nd rfl (by first | exact Or.inl rfl | exact Or.inr rfl) (pe_c C_law_hand (hr.mono (by decide)) rfl (pa_cons (pv 0) pa_nil)))
      (pss_cons (ps_asg (pe_c C_law_world (hr.mono (by decide)) rfl (pa_cons (pv 1) (pa_cons pe_int (pa_cons pe_int pa_nil)))) (pg_lst (n := 2) rfl (pgs_cons (pg_name (i := 2) sc_law.nd rfl (by first | exact Or.inl rfl | exact Or.inr rfl)) (pgs_cons (pg_name (i := 3) sc_law.nd rfl (by first | exact Or.inl rfl | exact Or.inr rfl)) pgs_nil))))
      (pss_cons (ps_set (i := 4) sc_law.nd rfl (by first | exact Or.inl rfl | exact Or.inr rfl) (pe_c C_law_lanes (hr.mono (by decide)) rfl (pa_cons (pv 2) (pa_cons (pv 3) pa_nil))))
      (pss_cons (ps_for PassesOwn.never rfl (pi_list (pe_lst (pa_cons (pe_tup (pa_cons (pe_tup (pa_cons pe_int (pa_cons pe_int (pa_cons pe_int pa_nil)))) (pa_cons (pe_tup (pa_cons pe_int (pa_cons pe_int (pa_cons pe_int pa_nil)))) pa_nil))) (pa_cons (pe_c C_law_how (hr.mono (by decide)) rfl (pa_cons (pv 1) pa_nil)) (pa_cons (pe_c C_law_how (hr.mono (by decide)) rfl (pa_cons (pv 1) pa_nil)) pa_nil))))) (pg_name (i := 5) sc_law.nd rfl (by first | exact Or.inl rfl | exact Or.inr rfl)) (pss_cons (ps_set (i := 6) sc_law.nd rfl (by first | exact Or.inl rfl | exact Or.inr rfl) (pe_c C_led_box (hr.mono (by decide)) rfl (pa_cons (pe_mk M_Box (hr.mono (by decide)) rfl (pa_cons (pv 2) pa_nil)) (pa_cons (pv 5) pa_nil))))
      (pss_cons (ps_set (i := 7) sc_law.nd rfl (by first | exact Or.inl rfl | exact Or.inr rfl) (pe_c C_lanes_of (hr.mono (by decide)) rfl (pa_cons (pv 6) (pa_cons (pe_c C_led_slope (hr.mono (by decide)) rfl (pa_cons (pv 3) (pa_cons (pv 5) pa_nil))) pa_nil))))
      (pss_cons (ps_setLc (i := 8) (own := [("_law_lane", 13)]) rfl sc_law.nd rfl rfl (sw_true rfl rfl rfl (by decide +kernel)) (pi_lanes E (hr.mono (by decide)) (pv 7)) (blkOk_by (own := [("_law_lane", 13)]) (N := ["_law_script", "_law_hand_here", "_law_sides_here", "_law_slope_here", "_law_lanes_here", "_law_how_here", "_law_box", "_law_seen", "_law_found", "_law_index", "_law_a", "_law_b", "_law_c", "_law_lane", "_law_row"]) (sc := defScope s_law) (by decide +kernel)) (fun _ _ _ _ _ => by exact (pg_cast (pg_name (i := 13) sc_law.nd rfl (by first | exact Or.inl rfl | exact Or.inr rfl)) (by (try simp only [blk_K]); rfl))) (fun _ _ _ _ _ => by exact (pts_cast pts_nil (by (try simp only [blk_K]); rfl))) (fun _ _ _ _ _ => by exact (pe_cast (pe_tup (pa_cons (pe_fld (pv 13) (by rfl)) (pa_cons (pe_fld (pv 13) (by rfl)) (pa_cons (pe_fld (pv 13) (by rfl)) (pa_cons (pe_fld (pv 13) (by rfl)) pa_nil))))) (by (try simp only [blk_K]); rfl))))
      (pss_cons (ps_if (PW.pt (pw_or (pt_cmpR (op_neX (α := List (T4 (Tup Int) (Tup Int) Int Int)) hr.units) (pv 8) (pe_c C_law_due (hr.mono (by decide)) rfl (pa_cons (pv 4) (pa_cons (pv 5) pa_nil))) (nomark _)) (pw_or1 (pt_cmpR op_ne (pe_callB (cr_lenC O_Lanes_len (hr.mono (by decide))) (by rfl) E.b_len PySem.boot_len (pa_cons (pv 7) pa_nil)) (pe_callB call_len_seq (by rfl) E.b_len PySem.boot_len (pa_cons (pv 4) pa_nil)) (nomark _))))) (pss_one (ps_ret pe_bl)) pss_nil)
      (pss_cons (ps_if (PW.pt (pw_or (pt_not (pt_val (pe_c C_law_tuples (hr.mono (by decide)) rfl (pa_cons (pe_callTy call_tuple_of (by rfl) E.b_tuple (by decide +kernel) (pa_cons (pe_lc (own := [("_law_lane", 13)]) rfl sc_law.nd (pi_tup (pe_fld (pv 7) (by rfl))) (blkOk_by (own := [("_law_lane", 13)]) (N := ["_law_script", "_law_hand_here", "_law_sides_here", "_law_slope_here", "_law_lanes_here", "_law_how_here", "_law_box", "_law_seen", "_law_found", "_law_index", "_law_a", "_law_b", "_law_c", "_law_lane", "_law_row"]) (sc := defScope s_law) (by decide +kernel)) (fun _ _ _ _ _ => by exact (pg_cast (pg_name (i := 13) sc_law.nd rfl (by first | exact Or.inl rfl | exact Or.inr rfl)) (by (try simp only [blk_K]); rfl))) (fun _ _ _ _ _ => by exact (pts_cast pts_nil (by (try simp only [blk_K]); rfl))) (fun _ _ _ _ _ => by exact (pe_cast (pe_fld (pv 13) (by rfl)) (by (try simp only [blk_K]); rfl)))) pa_nil)) pa_nil)))) (pw_or (pt_cmpR (op_neX (α := Tup Int) hr.units) (pe_fld (pv 7) (by rfl)) (pe_c C_law_led_slope (hr.mono (by decide)) rfl (pa_cons (pv 3) (pa_cons (pv 5) pa_nil))) (nomark _)) (pw_or1 (pt_cmpR (op_neC O_Box_eq (hr.mono (by decide)) N1 N2) (pe_fld (pv 7) (by rfl)) (pv 6) (nomark _)))))) (pss_one (ps_ret pe_bl)) pss_nil)
      (pss_cons (ps_for PassesOwn.never rfl (pi_range3 rfl E.b_range (pa_cons pe_int (pa_cons (pe_callB call_len_seq (by rfl) E.b_len PySem.boot_len (pa_cons (pv 8) pa_nil)) (pa_cons pe_int pa_nil)))) (pg_name (i := 9) sc_law.nd rfl (by first | exact Or.inl rfl | exact Or.inr rfl)) (pss_one (ps_if (PW.pt (pw_or (pt_cmpR (op_neX (α := Tup Int) hr.units) (pe_ix ix_tup (pe_ix ix_list (pv 8) (pv 9) (fun _ _ => rfl)) pe_int (fun _ _ => rfl)) (pe_ix ix_tup (pe_ix ix_list (pv 8) (pv 9) (fun _ _ => rfl)) pe_int (fun _ _ => rfl)) (nomark _)) (pw_or (pt_cmpR (op_neX (α := Tup Int) hr.units) (pe_ix ix_tup (pe_ix ix_list (pv 8) (pe_op op_add (pv 9) pe_int) (fun _ _ => rfl)) pe_int (fun _ _ => rfl)) (pe_ix ix_tup (pe_ix ix_list (pv 8) (pv 9) (fun _ _ => rfl)) pe_int (fun _ _ => rfl)) (nomark _)) (pw_or1 (pt_cmpR (op_eqX (α := Tup Int) hr.units) (pe_ix ix_tup (pe_ix ix_list (pv 8) (pe_op op_add (pv 9) pe_int) (fun _ _ => rfl)) pe_int (fun _ _ => rfl)) (pe_ix ix_tup (pe_ix ix_list (pv 8) (pv 9) (fun _ _ => rfl)) pe_int (fun _ _ => rfl)) (nomark _)))))) (pss_one (ps_ret pe_bl)) pss_nil)))
      (pss_cons (ps_asg (pe_fld (pv 6) (by rfl)) (pg_tup (n := 3) rfl (pgs_cons (pg_name (i := 10) sc_law.nd rfl (by first | exact Or.inl rfl | exact Or.inr rfl)) (pgs_cons (pg_name (i := 11) sc_law.nd rfl (by first | exact Or.inl rfl | exact Or.inr rfl)) (pgs_cons (pg_name (i := 12) sc_law.nd rfl (by first | exact Or.inl rfl | exact Or.inr rfl)) pgs_nil)))))
      (pss_one (ps_if (pt_cmpR op_ne (pe_callB (cr_sum rfl) (by rfl) E.b_sum (by decide +kernel) (pa_cons (pe_lc (own := [("_law_row", 14)]) rfl sc_law.nd (pi_list (pv 8)) (blkOk_by (own := [("_law_row", 14)]) (N := ["_law_script", "_law_hand_here", "_law_sides_here", "_law_slope_here", "_law_lanes_here", "_law_how_here", "_law_box", "_law_seen", "_law_found", "_law_index", "_law_a", "_law_b", "_law_c", "_law_lane", "_law_row"]) (sc := defScope s_law) (by decide +kernel)) (fun _ _ _ _ _ => by exact (pg_cast (pg_name (i := 14) sc_law.nd rfl (by first | exact Or.inl rfl | exact Or.inr rfl)) (by (try simp only [blk_K]); rfl))) (fun _ _ _ _ _ => by exact (pts_cast pts_nil (by (try simp only [blk_K]); rfl))) (fun _ _ _ _ _ => by exact (pe_cast (pe_op op_mul (pe_ix ix_tup (pv 14) pe_int (fun _ _ => rfl)) (pe_ix ix_tup (pv 14) pe_int (fun _ _ => rfl))) (by (try simp only [blk_K]); rfl)))) pa_nil)) (pe_op op_mul pe_int (pe_op op_add (pe_op op_add (pe_op op_mul (pv 10) (pv 11)) (pe_op op_mul (pv 11) (pv 12))) (pe_op op_mul (pv 12) (pv 10)))) (nomark _)) (pss_one (ps_ret pe_bl)) pss_nil))))))))))
      (pss_one (ps_ret pe_bl)))))), ?_⟩
    k_all
    refine ⟨a, ns, rfl, ha, hns, fun hd c0 H1 e1 nhd hh => ?_⟩
    k_all
    refine ⟨hd, c0, rfl, hh, fun s p q l sl vp H2 wok o2 hh2 hl2 hsl2 nsl pr => ?_⟩
    obtain ⟨ry, hin, hrn, hrok, hhow⟩ := ok s p q wok
    obtain ⟨pv0, rfl, hpv⟩ := pr
    have hpq := wok.2.1
    k_all
    refine w_gL (sl_at hl2) rfl ?_
    k_all
    refine ⟨sl, pv0, s, p, q, ry, rfl, sl_at hsl2, hpv, wok.1, ⟨hpq.1, hpq.2.1⟩, ⟨hpq.2.2.1, hpq.2.2.2.1⟩, hin, fun ll H3 xs e3 nll hll al => ?_⟩
    have hh3 := hh2.mono e3
    k_all
    rename_i p1 np1 H4 e4 l4 p2 np2 H5 e5 l5 p3 np3 H6 e6 l6
    have e36 := (e4.trans e5).trans e6
    have hh6 := hh3.mono e36
    refine ⟨hd, c0, rfl, hh6, fun h1 v1 H7 ok1 o7 hh7 hw1 => ?_⟩
    k_all
    refine ⟨hd, c0, rfl, hh7, fun h2 v2 H8 ok2 o8 hh8 hw2 => ?_⟩
    k_all
    rename_i hl0 nhl0 H9 e9 l9
    have hl6 := hh6.lst
    have hl7 := hh7.lst
    have sl9 : H9 sl = some (.lst (vi (T3.l s))) := e9 _ _ (o8 _ _ nsl (o7 _ _ nsl (e36 _ _ (e3 _ _ hsl2))))
    have pv9 : SqT K H9 pv0 (vi [p, q]) := ex_t e9 (off_t o8 hl7 (off_t o7 hl6 (ex_t (e3.trans e36) hpv)))
    have nllh : ll ≠ hd := ne_new nll hh2.some1
    have ll9 : H9 ll = some (.lst xs) := e9 _ _ (o8 _ _ nllh (o7 _ _ nllh (e36 _ _ hll)))
    have al9 : Al (LRowAt K H9) xs (lawRows s p q ry) := al.imp fun v r h => ((h.ex e36).off o7 hh6 |>.off o8 hh7).ex e9
    have hT9 : Tabs [(pt, lamQ)] H9 := (tabs_off (tabs_off (((tabs_off (hT.ext e1) o2 hh.lst).ext e3).ext e36) o7 hl6) o8 hl7).ext e9
    have hows : ∀ (i : Nat) (x : V), ([.ref p3, v1, v2] : List V)[i]? = some x → ∃ h, HowAt K H9 x h ∧ HowOk h := fun i x hi => by
      rcases i with _ | _ | _ | i
      · cases (show some (V.ref p3) = some x from hi)
        exact ⟨⟨(0, 1, 2), (1, 1, 1)⟩, (((show HowAt K H6 (.ref p3) ⟨(0, 1, 2), (1, 1, 1)⟩ from ⟨p3, p1, p2, rfl, st_at l6, st_at ((e5.trans e6) _ _ l4), st_at (e6 _ _ l5)⟩).off o7 hl6).off o8 hl7).mono e9, by unfold HowOk; decide⟩
      · cases (show some v1 = some x from hi)
        exact ⟨h1, (hw1.off o8 hl7).mono e9, ok1⟩
      · cases (show some v2 = some x from hi)
        exact ⟨h2, hw2.mono e9, ok2⟩
      · simp at hi
    refine w_itL (sl_at l9) (for_list (xs := [.ref p3, v1, v2]) (fun i σ H' => ∃ z5 z6 z7 z8 z9 z10 z11 z12 z13 z14, σ = [some (.ref a), some (.ref hd), some (.ref sl), some (.ref pv0), some (.ref ll), z5, z6, z7, z8, z9, z10, z11, z12, z13, z14] ∧ ExtN H9 H' ∧ Tabs [(pt, lamQ)] H')
      ⟨_, _, _, _, _, _, _, _, _, _, rfl, ExtN.refl _, hT9⟩ (fun i σ H' _ h' => ?_) (fun i x σ H' hi h' => ?_) (fun σ H' h' => ?_))
    · obtain ⟨_, _, _, _, _, _, _, _, _, _, _, en, _⟩ := h'
      exact nx_l en (sl_at l9)
    · obtain ⟨z5, z6, z7, z8, z9, z10, z11, z12, z13, z14, rfl, en, hT'⟩ := h'
      obtain ⟨h, hw, hok⟩ := hows i x hi
      have hw' := hw.nx en
      have sl' : SqL K H' sl (vi (T3.l s)) := nx_l en (sl_at sl9)
      have pv' := nx_t en pv9
      have ll' : SqL K H' ll xs := nx_l en (sl_at ll9)
      have al' : Al (LRowAt K H') xs (lawRows s p q ry) := al9.imp fun v r h => h.nx en
      obtain ⟨rg, hLO⟩ := hhow h hok
      have hbl : BoxLe s := fun i => by have := wok.1 i; omega
      k_all
      intro xb dxb nxb ndxb nxxb
      have ex1 : Ex H' (upd H' dxb (.own xb)) := Evl.Ex.new ndxb
      have nx2 : (upd H' dxb (.own xb)) xb = none := by rw [upd_ne (fun e => nxxb e.symm)]; exact nxb
      refine ⟨H', xb, dxb, sl, s, rfl, ex1.trans (Evl.Ex.new nx2), nxb, upd_same, sl', hbl, fun H10 ab e10 hxb hab => ⟨rfl, ?_⟩⟩
      k_all
      refine ⟨.ref xb, _, s, h, rfl, ⟨xb, dxb, ab, rfl, hxb, hab⟩, hbl, hw'.mono e10, hok, fun bx H11 e11 hbx => ?_⟩
      have e911 := e10.trans e11
      k_all
      refine ⟨pv0, p, q, _, h, rfl, ex_t e911 pv', ⟨hpq.1, by have := hpq.2.1; omega, by have := hpq.2.2.1; omega, by have := hpq.2.2.2.1; omega, hpq.2.2.2.2⟩, by have := hpq.2.2.1; omega, hw'.mono e911, hok, fun b12 H12 e12 hb12 => ?_⟩
      have e912 := e911.trans e12
      k_all
      refine ⟨bx, b12, ledBox s h, rg, _, _, rfl, hbx.mono e12, hb12, hLO.inn, hT'.ext e912, fun u H13 en13 hT13 hls => ?_⟩
      have enT : ExtN H' H13 := (ExtN.of e912).trans en13
      have hbx13 := (hbx.mono e12).nx en13
      obtain ⟨xl, dxl, spl, la, ysl, rfl, hxl, hspl, hla, all⟩ := hls
      have hrows := hLO.rows
      have htw := hLO.twins
      have har := hLO.area
      have hwide := hLO.wide
      generalize lanesM (ledBox s h) rg (ledSlope p q h).1 (ledSlope p q h).2 = ls at all hrows htw har hwide
      have hdl : (dueM h (lawRows s p q ry)).length = (lawRows s p q ry).length := by unfold dueM; rw [List.length_mergeSort, List.length_map]
      have hlsl : ls.length = (lawRows s p q ry).length := by rw [← hdl, ← hrows, List.length_map]
      have hysl : ysl.length = ls.length := all.1
      have hxsl : xs.length = (lawRows s p q ry).length := al9.1
      k_all
      refine w_iO ?_
      k_all
      refine ⟨xl, dxl, _, la, rfl, hxl, lsF_lanes, ⟨_, hla⟩, fun H14 e14 => ?_⟩
      have hla14 := ex_t e14 hla
      have all14 : Al (LaneAt K H14) ysl ls := all.imp fun _ _ h => h.mono e14
      have lane_at : ∀ {H15 : Hp} {i : Nat} {y : V}, ysl[i]? = some y → Ex H14 H15 → ∃ pl dx b fa da lo sl0 rp l, y = .ref pl ∧ ls[i]? = some l ∧ H15 pl = some (.ins (He.ga K "Lane") dx (lnF b (.ref fa) da lo (.int l.2.1) (.int l.2.2) sl0 (.ref rp))) ∧ SqT K H15 fa (vi l.1) ∧ SqT K H15 rp (vi (leastRow l.1)) := fun {H15 i y} hi e => by
        obtain ⟨l, hl0⟩ : ∃ l, ls[i]? = some l := by
          have := (List.getElem?_eq_some_iff.mp hi).1
          rw [all14.1] at this
          exact ⟨_, List.getElem?_eq_getElem this⟩
        obtain ⟨pl, dx, b, fa, da, lo, sl0, rp, rfl, g1, g2, g3⟩ := (all14.2 i y l hi hl0).mono e
        exact ⟨pl, dx, b, fa, da, lo, sl0, rp, l, rfl, hl0, g1, g2, g3⟩
      refine lcT (K := K) (xs := ysl) (G := fun i y H => ∃ l, ls[i]? = some l ∧ DAt K H y (rowF l)) (fun i y H1 H2 e ⟨l, g1, g2⟩ => ⟨l, g1, g2.ex e⟩) (fun i y H1 D acc acc' hD ⟨l, g1, g2⟩ => ⟨l, g1, g2.mu (row4_noL _) hD⟩) (by omega) hla14 (fun i y H15 hi e15 => ?_) mg_name (fun fl H15 ysf nfl e15 l15 told => ?_)
      · refine ⟨rfl, rfl, fun QV qv => ?_⟩
        obtain ⟨pl, dx, b, fa, da, lo, sl0, rp, l, rfl, hl0, g1, g2, g3⟩ := lane_at hi e15
        k_all
        refine w_fl g1 E.c_Lane E.n_Lane_row lnF_row ?_
        k_all
        refine w_fl g1 E.c_Lane E.n_Lane_faces lnF_faces ?_
        k_all
        refine w_fl g1 E.c_Lane E.n_Lane_length lnF_length ?_
        k_all
        refine w_fl g1 E.c_Lane E.n_Lane_breadth lnF_breadth ?_
        k_all
        rename_i p16 np16 H16 e16 l16
        exact qv _ H16 e16 ⟨l, hl0, d_t4 (st_at l16) (d_ints (ex_t e16 g3)) (d_ints (ex_t e16 g2)) d_int d_int⟩
      · have hdf : DAll K H15 ysf (ls.map rowF) := DAll.of (by rw [told.1, List.length_map, hysl]) fun i v r g1 g2 => by
          obtain ⟨l, g3, g4⟩ := told.2 i v g1
          rw [List.getElem?_map, g3] at g2
          cases g2
          exact g4
        have en15 : ExtN H' H15 := enT.trans (ExtN.of (e14.trans e15))
        k_all
        refine ⟨ll, x, xs, lawRows s p q ry, h, rfl, nx_l en15 ll', al'.imp (fun _ _ h => h.nx en15), hrn, hrok, hw'.nx en15, hok, fun pd H16 ysd npd e16 ld dd => ?_⟩
        refine w_neX (α := List Row4) (ls.map rowF) (dueM h (lawRows s p q ry)) (d_lst (sl_at (e16 _ _ l15)) (hdf.ex e16)) (d_lst (sl_at ld) dd) ?_
        rw [decide_eq_false (fun n => n hrows)]
        have e1316 := (e14.trans e15).trans e16
        have hxl16 := e1316 _ _ hxl
        have hla16 := ex_t e1316 hla
        have ll16 := ex_l e16 (nx_l en15 ll')
        k_all
        refine ⟨xl, dxl, _, rfl, hxl16, xl, dxl, _, _, la, ysl, rfl, hxl16, hla16, (ysl.length : Int), rfl, by omega, by omega, ?_⟩
        k_all
        refine w_lenL ll16 ?_
        k_all
        refine if_nint (fun n => absurd (show ((ysl.length : Nat) : Int) = xs.length by omega) n) (fun _ => ?_)
        k_all
        refine w_fl hxl16 E.c_Lanes E.n_Lanes_lanes lsF_lanes ?_
        refine w_itT hla16 ?_
        refine lcT (K := K) (xs := ysl) (G := fun i y H => ∃ l fa, ls[i]? = some l ∧ y = .ref fa ∧ SqT K H fa (vi l.1)) (fun i y H1 H2 e ⟨l, fa, g1, g2, g3⟩ => ⟨l, fa, g1, g2, ex_t e g3⟩) (fun i y H1 D acc acc' hD ⟨l, fa, g1, g2, g3⟩ => ⟨l, fa, g1, g2, mu_t g3 hD⟩) (by omega) hla16 (fun i y H17 hi e17 => ?_) mg_name (fun gl H17 ysg ngl e17 l17 told2 => ?_)
        · refine ⟨rfl, rfl, fun QV qv => ?_⟩
          obtain ⟨pl, dx, b, fa, da, lo, sl0, rp, l, rfl, hl0, g1, g2, g3⟩ := lane_at hi ((e15.trans e16).trans e17)
          k_all
          refine w_fl g1 E.c_Lane E.n_Lane_faces lnF_faces ?_
          exact qv _ _ (Evl.Ex.refl _) ⟨l, fa, hl0, rfl, g2⟩
        · have llen : ∀ l ∈ ls, l.1.length ≤ 400 := fun l hl => by
            have hm : rowF l ∈ dueM h (lawRows s p q ry) := by rw [← hrows]; exact List.mem_map.mpr ⟨l, hl, rfl⟩
            obtain ⟨r, hr1, hr2⟩ := List.mem_map.mp ((List.mergeSort_perm _ _).mem_iff.mp hm)
            have e1 : ledRow h r.faces = l.1 := congrArg (fun z : Row4 => z.b.items) hr2
            obtain ⟨k1, k2, _⟩ := hrok r hr1
            rw [← e1]
            unfold ledRow
            rw [minTup_len _ (by rw [List.length_map]; exact k1), List.length_map]
            exact k2
          k_all
          refine w_tupL (sl_at l17) fun t nt => ?_
          generalize hG : upd _ _ _ = H18
          have e18 : Ex H17 H18 := ex_of hG nt
          have l18 := at_of hG
          k_all
          refine tups_of (st_at l18) (by have := told2.1; omega) (fun y hy => ?_) (fun H19 e19 => ?_)
          · obtain ⟨i, hi⟩ := List.mem_iff_getElem?.mp hy
            obtain ⟨l, fa, g1, rfl, g3⟩ := told2.2 i y hi
            exact ⟨fa, l.1, rfl, ex_t e18 g3, by have := llen l (List.mem_of_getElem? g1); omega⟩
          have e1619 := (e17.trans e18).trans e19
          have e1319 := e1316.trans e1619
          have en19 : ExtN H' H19 := enT.trans (ExtN.of e1319)
          have hxl19 := e1619 _ _ hxl16
          k_all
          refine w_fl hxl19 E.c_Lanes E.n_Lanes_slope lsF_slope ?_
          k_all
          refine ⟨.ref pv0, x, p, q, h, rfl, ⟨pv0, rfl, nx_t en19 pv'⟩, by have := hpq.2.2.1; omega, hw'.nx en19, hok, fun xv H20 e20 ⟨ap, eap, hap⟩ => ?_⟩
          subst eap
          have e1320 := e1319.trans e20
          refine w_neX (α := Tup Int) (Tup.mk [(ledSlope p q h).1, (ledSlope p q h).2]) (Tup.mk [(ledSlope p q h).1, (ledSlope p q h).2]) (d_ints (ex_t e1320 hspl)) (d_ints hap) ?_
          rw [decide_eq_false (fun n => n rfl)]
          have hxl20 := e20 _ _ hxl19
          have hbx20 := hbx13.mono e1320
          obtain ⟨pb, dxb2, ab2, ebx, hb1, hb2⟩ := hbx20
          subst ebx
          have hbA : BoxAt K H20 (.ref pb) (ledBox s h) := ⟨pb, dxb2, ab2, rfl, hb1, hb2⟩
          have e1520 := (e16.trans e1619).trans e20
          have fl20 := sl_at (K := K) (e1520 _ _ l15)
          have hdf20 : DAll K H20 ysf (ls.map rowF) := hdf.ex e1520
          have hfl : ysf.length = ls.length := by rw [told.1, hysl]
          k_all
          refine w_fl hxl20 E.c_Lanes E.n_Lanes_box lsF_box ?_
          k_all
          refine ⟨pb, pb, _, _, _, _, rfl, rfl, hb1, hb1, _, _, ledBox s h, ledBox s h, rfl, hbA, hbA, _, rfl, ?_⟩
          rw [decide_eq_true rfl]
          k_all
          refine w_iR3 ?_
          k_all
          refine w_lenL fl20 ?_
          k_all
          refine ⟨0, _, 2, _, rfl, rgC2 (N := ysf.length) (by omega), ?_⟩
          refine for_rangeC (n := (ysf.length + 1) / 2) (fun i σ H' => ∃ z9 z10 z11 z12 z13 z14, σ = [some (.ref a), some (.ref hd), some (.ref sl), some (.ref pv0), some (.ref ll), some x, some (.ref pb), some (.ref xl), some (.ref fl), z9, z10, z11, z12, z13, z14] ∧ Ex H20 H') ⟨_, _, _, _, _, _, rfl, Evl.Ex.refl _⟩ (fun kk σ H21 hkk h' => ?_) (fun σ H21 h' => ?_)
          · obtain ⟨z9, z10, z11, z12, z13, z14, rfl, e21⟩ := h'
            obtain ⟨l1, l2, g1, g2, g3, g4, g5⟩ := htw kk (by omega)
            obtain ⟨y1, hy1⟩ : ∃ y, ysf[2 * kk]? = some y := ⟨_, List.getElem?_eq_getElem (by omega)⟩
            obtain ⟨y2, hy2⟩ : ∃ y, ysf[2 * kk + 1]? = some y := by
              have := (List.getElem?_eq_some_iff.mp g2).1
              exact ⟨_, List.getElem?_eq_getElem (by omega)⟩
            have d1 : DAt K H21 y1 (rowF l1) := (hdf20.at hy1 (by rw [List.getElem?_map, g1]; rfl)).ex e21
            have d2 : DAt K H21 y2 (rowF l2) := (hdf20.at hy2 (by rw [List.getElem?_map, g2]; rfl)).ex e21
            obtain ⟨q1, v11, v12, rfl, hq1, hv11, hv12⟩ := d_t4_inv d1
            obtain ⟨q2, v21, v22, rfl, hq2, hv21, hv22⟩ := d_t4_inv d2
            have ei : (0 : Int) + (kk : Int) * 2 = ((2 * kk : Nat) : Int) := by omega
            have ei1 : (0 : Int) + (kk : Int) * 2 + 1 = ((2 * kk + 1 : Nat) : Int) := by omega
            have at1 : atI ysf ((0 : Int) + (kk : Int) * 2) = some (.ref q1) := by rw [ei]; exact atI_nat hy1
            have at2 : atI ysf ((0 : Int) + (kk : Int) * 2 + 1) = some (.ref q2) := by rw [ei1]; exact atI_nat hy2
            have fl21 := ex_l e21 fl20
            have E3 : (rowF l1).a = (rowF l1).b := by show Tup.mk (leastRow l1.1) = Tup.mk l1.1; rw [g3]
            have E4 : (rowF l2).a = (rowF l1).a := by show Tup.mk (leastRow l2.1) = Tup.mk (leastRow l1.1); rw [g4]
            have E5 : ¬ (rowF l2).b = (rowF l1).b := fun e => g5 (congrArg Tup.items e)
            k_all
            refine w_ixL fl21 at1 ?_
            k_all
            refine w_ixL fl21 at1 ?_
            k_all
            refine w_neX (α := Tup Int) _ _ hv11 hv12 ?_
            rw [decide_eq_false (fun n => n E3)]
            k_all
            refine w_ixL fl21 at2 ?_
            k_all
            refine w_ixL fl21 at1 ?_
            k_all
            refine w_neX (α := Tup Int) _ _ hv21 hv11 ?_
            rw [decide_eq_false (fun n => n E4)]
            k_all
            refine w_ixL fl21 at2 ?_
            k_all
            refine w_ixL fl21 at1 ?_
            k_all
            refine w_eqX (α := Tup Int) _ _ hv22 hv12 ?_
            rw [decide_eq_false E5]
            k_all
            exact ⟨_, _, _, _, _, _, rfl, e21⟩
          · obtain ⟨z9, z10, z11, z12, z13, z14, rfl, e21⟩ := h'
            have hble := ledBox_le (h := h) hbl
            have bl0 : 1 ≤ (ledBox s h).1 ∧ (ledBox s h).1 ≤ 60 := hble 0
            have bl1 : 1 ≤ (ledBox s h).2.1 ∧ (ledBox s h).2.1 ≤ 60 := hble 1
            have bl2 : 1 ≤ (ledBox s h).2.2 ∧ (ledBox s h).2.2 ≤ 60 := hble 2
            have hab21 : SqT K H21 ab2 [.int (ledBox s h).1, .int (ledBox s h).2.1, .int (ledBox s h).2.2] := ex_t e21 hb2
            have fl21 := ex_l e21 fl20
            generalize ledBox s h = bb at *
            have har2 : (ls.map fun l => l.2.1 * l.2.2).length = ysf.length := by rw [List.length_map, hfl]
            k_all
            refine w_box E (e21 _ _ hb1) ?_
            k_all
            refine w_itL fl21 ?_
            refine lcL (G := fun i y _ => (vi (ls.map fun l => l.2.1 * l.2.2))[i]? = some y) (fun _ _ _ _ _ h => h) (fun _ _ _ _ _ _ _ h => h) (by omega) fl21 (fun i y H22 hi e22 => ?_) mg_name (fun gs H22 zs ngs e22 l22 told3 => ?_)
            · refine ⟨rfl, rfl, fun QV qv => ?_⟩
              obtain ⟨l, hl0⟩ : ∃ l, ls[i]? = some l := by
                have := (List.getElem?_eq_some_iff.mp hi).1
                exact ⟨_, List.getElem?_eq_getElem (by omega)⟩
              have hwl := hwide l (List.mem_of_getElem? hl0)
              have d1 : DAt K H22 y (rowF l) := (hdf20.at hi (by rw [List.getElem?_map, hl0]; rfl)).ex (e21.trans e22)
              obtain ⟨q1, v11, v12, rfl, hq1, _, _⟩ := d_t4_inv d1
              have hq1' : SqT K H22 q1 [v11, v12, .int l.2.1, .int l.2.2] := hq1
              clear hq1
              k_all
              refine qv _ _ (Evl.Ex.refl _) ?_
              unfold vi
              rw [List.getElem?_map, List.getElem?_map, hl0]
              rfl
            · rw [← har2] at told3
              rw [told_vi told3] at l22
              have e1322 := (e1320.trans e21).trans e22
              k_all
              refine ⟨gs, ls.map fun l : Lane => l.2.1 * l.2.2, rfl, sl_at l22, ?_⟩
              rw [har]
              k_all
              refine if_nint (fun n => absurd rfl n) (fun _ => ?_)
              k_all
              exact ⟨_, _, _, _, _, _, _, _, _, _, rfl, (en.trans enT).trans (ExtN.of e1322), hT13.ext e1322⟩
    · obtain ⟨z5, z6, z7, z8, z9, z10, z11, z12, z13, z14, rfl, en, hT'⟩ := h'
      k_all
      exact k H'
end TP

/-! G1 -/
set_option maxHeartbeats 1000000
set_option linter.unusedVariables false
namespace TP
/-! ### the box's faces, one by one -/
theorem face6 {f : Int} (h : FaceOk f) : f = 0 ∨ f = 1 ∨ f = 2 ∨ f = 3 ∨ f = 4 ∨ f = 5 := by unfold FaceOk at h; omega
def T3.neg (d : T3) : T3 := (-d.1, -d.2.1, -d.2.2)
def T3.add (d e : T3) : T3 := (d.1 + e.1, d.2.1 + e.2.1, d.2.2 + e.2.2)
def T3.smul (k : Int) (d : T3) : T3 := (k * d.1, k * d.2.1, k * d.2.2)
def cA (f : Int) (d : T3) : Int := d.get (axes f).1
def cB (f : Int) (d : T3) : Int := d.get (axes f).2
def Jf (f : Int) (d : T3) : T3 := unfr f (-(cB f d)) (cA f d)
def grown (s : T3) (f g : Int) (d : T3) : Int := (edgeEnds s g f (goneOver f g d)).1 - (edgeEnds s f g d).1
section
variable {s d e x : T3} {f g : Int}
theorem over_zero (hf : FaceOk f) (hg : FaceOk g) (n : f / 2 ≠ g / 2) : (goneOver f g d).get (g / 2) = 0 := by
  (rcases face6 (by assumption : FaceOk f) with rfl | rfl | rfl | rfl | rfl | rfl <;> rcases face6 (by assumption : FaceOk g) with rfl | rfl | rfl | rfl | rfl | rfl) <;> first | exact absurd rfl n | rfl
theorem out_over (hf : FaceOk f) (hg : FaceOk g) (n : f / 2 ≠ g / 2) : outward f (goneOver f g d) = -(outward g d) := by
  (rcases face6 (by assumption : FaceOk f) with rfl | rfl | rfl | rfl | rfl | rfl <;> rcases face6 (by assumption : FaceOk g) with rfl | rfl | rfl | rfl | rfl | rfl) <;> first | exact absurd rfl n | rfl | exact (Int.neg_neg _).symm | (simp [goneOver, T3.set, T3.get, outward])
theorem over_back (hf : FaceOk f) (hg : FaceOk g) (n : f / 2 ≠ g / 2) (h : d.get (f / 2) = 0) : goneOver g f (T3.neg (goneOver f g d)) = T3.neg d := by
  obtain ⟨x, y, z⟩ := d
  (rcases face6 (by assumption : FaceOk f) with rfl | rfl | rfl | rfl | rfl | rfl <;> rcases face6 (by assumption : FaceOk g) with rfl | rfl | rfl | rfl | rfl | rfl) <;> first | exact absurd rfl n | (simp [goneOver, T3.neg, T3.set, T3.get, outward] at h ⊢; try omega)
theorem ends_neg : edgeEnds s f g (T3.neg d) = (-(edgeEnds s f g d).1, -(edgeEnds s f g d).2) := by
  obtain ⟨x, y, z⟩ := d
  unfold edgeEnds measure T3.neg T3.get
  dsimp only
  refine Prod.ext ?_ ?_ <;> dsimp only <;> (repeat' split) <;> simp only [Int.neg_mul] <;> omega
theorem ends_shift (hf : FaceOk f) (hg : FaceOk g) (n : f / 2 ≠ g / 2) (h : d.get (f / 2) = 0) : (edgeEnds s g f (goneOver f g d)).2 = (edgeEnds s f g d).2 + grown s f g d := by
  obtain ⟨x, y, z⟩ := d
  obtain ⟨a, b, c⟩ := s
  unfold grown
  (rcases face6 (by assumption : FaceOk f) with rfl | rfl | rfl | rfl | rfl | rfl <;> rcases face6 (by assumption : FaceOk g) with rfl | rfl | rfl | rfl | rfl | rfl) <;> first | exact absurd rfl n | (simp [goneOver, T3.set, T3.get, outward, edgeEnds, measure, axes, spotAt, along, level] at h ⊢; try subst h; try grind)
theorem over_J (hf : FaceOk f) (hg : FaceOk g) (n : f / 2 ≠ g / 2) (h : d.get (f / 2) = 0) : goneOver f g (Jf f d) = Jf g (goneOver f g d) := by
  obtain ⟨x, y, z⟩ := d
  (rcases face6 (by assumption : FaceOk f) with rfl | rfl | rfl | rfl | rfl | rfl <;> rcases face6 (by assumption : FaceOk g) with rfl | rfl | rfl | rfl | rfl | rfl) <;> first | exact absurd rfl n | (simp [goneOver, T3.set, T3.get, outward, Jf, cA, cB, axes, unfr] at h ⊢)

/-- on the common edge the measure of both faces differs by what has grown -/
theorem edge_meas {c : Int} (hf : FaceOk f) (hg : FaceOk g) (n : f / 2 ≠ g / 2) (h : d.get (f / 2) = 0) (h1 : x.get (f / 2) = c * level s f) (h2 : x.get (g / 2) = c * level s g) : measure g (goneOver f g d) x = measure f d x + c * grown s f g d := by
  obtain ⟨d1, d2, d3⟩ := d
  obtain ⟨a, b, z⟩ := s
  obtain ⟨x1, x2, x3⟩ := x
  unfold grown
  (rcases face6 (by assumption : FaceOk f) with rfl | rfl | rfl | rfl | rfl | rfl <;> rcases face6 (by assumption : FaceOk g) with rfl | rfl | rfl | rfl | rfl | rfl) <;> first | exact absurd rfl n | (simp [goneOver, T3.set, T3.get, outward, edgeEnds, measure, axes, spotAt, along, level] at h h1 h2 ⊢; try subst h; try grind)
def slope (f g : Int) (d : T3) : Int := if along f g = (axes f).2 then cA f d else -(cB f d)
theorem edge_lin {c : Int} (hf : FaceOk f) (hg : FaceOk g) (n : f / 2 ≠ g / 2) (h1 : x.get (f / 2) = c * level s f) (h2 : x.get (g / 2) = c * level s g) : measure f d x = c * (edgeEnds s f g d).1 + slope f g d * x.get (along f g) := by
  obtain ⟨d1, d2, d3⟩ := d
  obtain ⟨a, b, z⟩ := s
  obtain ⟨x1, x2, x3⟩ := x
  (rcases face6 (by assumption : FaceOk f) with rfl | rfl | rfl | rfl | rfl | rfl <;> rcases face6 (by assumption : FaceOk g) with rfl | rfl | rfl | rfl | rfl | rfl) <;> first | exact absurd rfl n | (simp [T3.set, T3.get, edgeEnds, measure, axes, spotAt, along, level, slope, cA, cB] at h1 h2 ⊢; try grind)
theorem ends_slope (hf : FaceOk f) (hg : FaceOk g) (n : f / 2 ≠ g / 2) : (edgeEnds s f g d).2 = (edgeEnds s f g d).1 + slope f g d * s.get (along f g) := by
  obtain ⟨d1, d2, d3⟩ := d
  obtain ⟨a, b, z⟩ := s
  (rcases face6 (by assumption : FaceOk f) with rfl | rfl | rfl | rfl | rfl | rfl <;> rcases face6 (by assumption : FaceOk g) with rfl | rfl | rfl | rfl | rfl | rfl) <;> first | exact absurd rfl n | (simp [T3.set, T3.get, edgeEnds, measure, axes, spotAt, along, level, slope, cA, cB]; try grind)
theorem slope_out (hf : FaceOk f) (hg : FaceOk g) (n : f / 2 ≠ g / 2) : slope f g d = outward g d ∨ slope f g d = -(outward g d) := by
  obtain ⟨d1, d2, d3⟩ := d
  (rcases face6 (by assumption : FaceOk f) with rfl | rfl | rfl | rfl | rfl | rfl <;> rcases face6 (by assumption : FaceOk g) with rfl | rfl | rfl | rfl | rfl | rfl) <;> first | exact absurd rfl n | (simp [T3.get, axes, along, slope, cA, cB, outward])
theorem meas_over (hf : FaceOk f) (hg : FaceOk g) (n : f / 2 ≠ g / 2) (h : d.get (f / 2) = 0) (h2 : e.get (f / 2) = 0) : measure g (goneOver f g d) (goneOver f g e) = measure f d e := by
  obtain ⟨d1, d2, d3⟩ := d
  obtain ⟨e1, e2, e3⟩ := e
  (rcases face6 (by assumption : FaceOk f) with rfl | rfl | rfl | rfl | rfl | rfl <;> rcases face6 (by assumption : FaceOk g) with rfl | rfl | rfl | rfl | rfl | rfl) <;> first | exact absurd rfl n | (simp [goneOver, T3.set, T3.get, outward, measure, axes] at h h2 ⊢; try grind)
theorem over_lin {α β : Int} (hf : FaceOk f) (hg : FaceOk g) (n : f / 2 ≠ g / 2) : goneOver f g (T3.add (T3.smul α d) (T3.smul β e)) = T3.add (T3.smul α (goneOver f g d)) (T3.smul β (goneOver f g e)) := by
  obtain ⟨d1, d2, d3⟩ := d
  obtain ⟨e1, e2, e3⟩ := e
  (rcases face6 (by assumption : FaceOk f) with rfl | rfl | rfl | rfl | rfl | rfl <;> rcases face6 (by assumption : FaceOk g) with rfl | rfl | rfl | rfl | rfl | rfl) <;> first | exact absurd rfl n | (simp [goneOver, T3.set, T3.get, outward, T3.add, T3.smul]; try grind)
theorem grown_lin {α β : Int} (hf : FaceOk f) (hg : FaceOk g) (n : f / 2 ≠ g / 2) : grown s f g (T3.add (T3.smul α d) (T3.smul β e)) = α * grown s f g d + β * grown s f g e := by
  obtain ⟨d1, d2, d3⟩ := d
  obtain ⟨e1, e2, e3⟩ := e
  obtain ⟨a, b, z⟩ := s
  unfold grown
  (rcases face6 (by assumption : FaceOk f) with rfl | rfl | rfl | rfl | rfl | rfl <;> rcases face6 (by assumption : FaceOk g) with rfl | rfl | rfl | rfl | rfl | rfl) <;> first | exact absurd rfl n | (simp [goneOver, T3.set, T3.get, outward, T3.add, T3.smul, edgeEnds, measure, axes, spotAt, along, level]; try grind)
theorem over_dirs {a b : Int} (hf : FaceOk f) (hg : FaceOk g) (n : f / 2 ≠ g / 2) : goneOver f g (unfr f a b) ∈ dirs4 g a b := by
  (rcases face6 (by assumption : FaceOk f) with rfl | rfl | rfl | rfl | rfl | rfl <;> rcases face6 (by assumption : FaceOk g) with rfl | rfl | rfl | rfl | rfl | rfl) <;> first | exact absurd rfl n | (simp [goneOver, T3.set, T3.get, outward, dirs4, unfr, axes])
theorem ab_unfr {a b : Int} (hf : FaceOk f) : cA f (unfr f a b) = a ∧ cB f (unfr f a b) = b ∧ (unfr f a b).get (f / 2) = 0 := by
  rcases face6 hf with rfl | rfl | rfl | rfl | rfl | rfl <;> simp [cA, cB, unfr, T3.set, T3.get, axes]
theorem unfr_of (hf : FaceOk f) (h : d.get (f / 2) = 0) : d = unfr f (cA f d) (cB f d) := by
  obtain ⟨d1, d2, d3⟩ := d
  rcases face6 hf with rfl | rfl | rfl | rfl | rfl | rfl <;> simp [cA, cB, unfr, T3.set, T3.get, axes] at h ⊢ <;> exact h
theorem unfr_inj {a b a' b' : Int} (hf : FaceOk f) (h : unfr f a b = unfr f a' b') : a = a' ∧ b = b' := by
  have h1 := ab_unfr (a := a) (b := b) hf
  have h2 := ab_unfr (a := a') (b := b') hf
  rw [h] at h1
  omega
end
end TP

/-! G2 -/
set_option maxHeartbeats 1000000
set_option linter.unusedVariables false
namespace TP
def mn (s : T3) (f g : Int) (d : T3) : Int := min (edgeEnds s f g d).1 (edgeEnds s f g d).2
def mx (s : T3) (f g : Int) (d : T3) : Int := max (edgeEnds s f g d).1 (edgeEnds s f g d).2
/-- the box has sides of at least 1 -/
def Pos3 (s : T3) : Prop := 1 ≤ s.1 ∧ 1 ≤ s.2.1 ∧ 1 ≤ s.2.2
/-- a direction leaves a face over two edges, right and left, that part at a corner -/
structure Spl (s : T3) (f : Int) (d : T3) (gR gL lo mc hi : Int) : Prop where
  okR : FaceOk gR
  okL : FaceOk gL
  nR : gR / 2 ≠ f / 2
  nL : gL / 2 ≠ f / 2
  nRL : gR / 2 ≠ gL / 2
  outR : 0 < outward gR d
  outL : 0 < outward gL d
  leave : ∀ g, FaceOk g → g / 2 ≠ f / 2 → 0 < outward g d → g = gR ∨ g = gL
  eR : mn s f gR d = lo ∧ mx s f gR d = mc
  eL : mn s f gL d = mc ∧ mx s f gL d = hi
  lt : lo < mc ∧ mc < hi
  rng : ∀ g, FaceOk g → g / 2 ≠ f / 2 → lo ≤ mn s f g d ∧ mx s f g d ≤ hi
  len : hi - lo = (cA f d).natAbs * s.get (axes f).2 + (cB f d).natAbs * s.get (axes f).1
theorem all_faces {M : Int → Prop} (h0 : M 0) (h1 : M 1) (h2 : M 2) (h3 : M 3) (h4 : M 4) (h5 : M 5) : ∀ g, FaceOk g → M g := by
  intro g hg
  rcases face6 hg with rfl | rfl | rfl | rfl | rfl | rfl <;> assumption
theorem spl_ex {s : T3} {f a b : Int} (hs : Pos3 s) (hf : FaceOk f) (ha : a ≠ 0) (hb : b ≠ 0) : ∃ gR gL lo mc hi, Spl s f (unfr f a b) gR gL lo mc hi := by
  obtain ⟨A, B, C⟩ := s
  obtain ⟨hA, hB, hC⟩ := hs
  dsimp only at hA hB hC
  have q : ∀ {x y : Int}, 0 < x → 1 ≤ y → 0 < x * y := fun h1 h2 => Int.mul_pos h1 (by omega)
  have r : ∀ {x y : Int}, x < 0 → 1 ≤ y → x * y < 0 := fun h1 h2 => Int.mul_neg_of_neg_of_pos h1 (by omega)
  have nap : ∀ {x : Int}, 0 < x → (x.natAbs : Int) = x := fun h => by omega
  have nan : ∀ {x : Int}, x < 0 → (x.natAbs : Int) = -x := fun h => by omega
  rcases Int.lt_or_gt_of_ne ha with ha | ha <;> rcases Int.lt_or_gt_of_ne hb with hb | hb
  · have a1 := r ha hA; have a2 := r ha hB; have a3 := r ha hC; have b1 := r hb hA; have b2 := r hb hB; have b3 := r hb hC; have na := nan ha; have nb := nan hb
    rcases face6 hf with rfl | rfl | rfl | rfl | rfl | rfl
    · refine ⟨4, 2, a * B, 0, -(b * C), ?_⟩
      constructor
      all_goals (try (first | decide | omega))
      all_goals (try refine all_faces ?_ ?_ ?_ ?_ ?_ ?_)
      all_goals (try simp [mn, mx, edgeEnds, measure, spotAt, T3.set, T3.get, axes, along, level, outward, unfr, cA, cB])
      all_goals (try first | omega | exact ⟨by decide, by decide⟩ | (simp only [na, nb, Int.neg_mul]; omega) | (simp only [na, nb]; done))
    · refine ⟨2, 4, a * C, 0, -(b * B), ?_⟩
      constructor
      all_goals (try (first | decide | omega))
      all_goals (try refine all_faces ?_ ?_ ?_ ?_ ?_ ?_)
      all_goals (try simp [mn, mx, edgeEnds, measure, spotAt, T3.set, T3.get, axes, along, level, outward, unfr, cA, cB])
      all_goals (try first | omega | exact ⟨by decide, by decide⟩ | (simp only [na, nb, Int.neg_mul]; omega) | (simp only [na, nb]; done))
    · refine ⟨0, 4, a * C, 0, -(b * A), ?_⟩
      constructor
      all_goals (try (first | decide | omega))
      all_goals (try refine all_faces ?_ ?_ ?_ ?_ ?_ ?_)
      all_goals (try simp [mn, mx, edgeEnds, measure, spotAt, T3.set, T3.get, axes, along, level, outward, unfr, cA, cB])
      all_goals (try first | omega | exact ⟨by decide, by decide⟩ | (simp only [na, nb, Int.neg_mul]; omega) | (simp only [na, nb]; done))
    · refine ⟨4, 0, a * A, 0, -(b * C), ?_⟩
      constructor
      all_goals (try (first | decide | omega))
      all_goals (try refine all_faces ?_ ?_ ?_ ?_ ?_ ?_)
      all_goals (try simp [mn, mx, edgeEnds, measure, spotAt, T3.set, T3.get, axes, along, level, outward, unfr, cA, cB])
      all_goals (try first | omega | exact ⟨by decide, by decide⟩ | (simp only [na, nb, Int.neg_mul]; omega) | (simp only [na, nb]; done))
    · refine ⟨2, 0, a * A, 0, -(b * B), ?_⟩
      constructor
      all_goals (try (first | decide | omega))
      all_goals (try refine all_faces ?_ ?_ ?_ ?_ ?_ ?_)
      all_goals (try simp [mn, mx, edgeEnds, measure, spotAt, T3.set, T3.get, axes, along, level, outward, unfr, cA, cB])
      all_goals (try first | omega | exact ⟨by decide, by decide⟩ | (simp only [na, nb, Int.neg_mul]; omega) | (simp only [na, nb]; done))
    · refine ⟨0, 2, a * B, 0, -(b * A), ?_⟩
      constructor
      all_goals (try (first | decide | omega))
      all_goals (try refine all_faces ?_ ?_ ?_ ?_ ?_ ?_)
      all_goals (try simp [mn, mx, edgeEnds, measure, spotAt, T3.set, T3.get, axes, along, level, outward, unfr, cA, cB])
      all_goals (try first | omega | exact ⟨by decide, by decide⟩ | (simp only [na, nb, Int.neg_mul]; omega) | (simp only [na, nb]; done))
  · have a1 := r ha hA; have a2 := r ha hB; have a3 := r ha hC; have b1 := q hb hA; have b2 := q hb hB; have b3 := q hb hC; have na := nan ha; have nb := nap hb
    rcases face6 hf with rfl | rfl | rfl | rfl | rfl | rfl
    · refine ⟨3, 4, a * B - b * C, a * B, 0, ?_⟩
      constructor
      all_goals (try (first | decide | omega))
      all_goals (try refine all_faces ?_ ?_ ?_ ?_ ?_ ?_)
      all_goals (try simp [mn, mx, edgeEnds, measure, spotAt, T3.set, T3.get, axes, along, level, outward, unfr, cA, cB])
      all_goals (try first | omega | exact ⟨by decide, by decide⟩ | (simp only [na, nb, Int.neg_mul]; omega) | (simp only [na, nb]; done))
    · refine ⟨5, 2, a * C - b * B, a * C, 0, ?_⟩
      constructor
      all_goals (try (first | decide | omega))
      all_goals (try refine all_faces ?_ ?_ ?_ ?_ ?_ ?_)
      all_goals (try simp [mn, mx, edgeEnds, measure, spotAt, T3.set, T3.get, axes, along, level, outward, unfr, cA, cB])
      all_goals (try first | omega | exact ⟨by decide, by decide⟩ | (simp only [na, nb, Int.neg_mul]; omega) | (simp only [na, nb]; done))
    · refine ⟨5, 0, a * C - b * A, a * C, 0, ?_⟩
      constructor
      all_goals (try (first | decide | omega))
      all_goals (try refine all_faces ?_ ?_ ?_ ?_ ?_ ?_)
      all_goals (try simp [mn, mx, edgeEnds, measure, spotAt, T3.set, T3.get, axes, along, level, outward, unfr, cA, cB])
      all_goals (try first | omega | exact ⟨by decide, by decide⟩ | (simp only [na, nb, Int.neg_mul]; omega) | (simp only [na, nb]; done))
    · refine ⟨1, 4, a * A - b * C, a * A, 0, ?_⟩
      constructor
      all_goals (try (first | decide | omega))
      all_goals (try refine all_faces ?_ ?_ ?_ ?_ ?_ ?_)
      all_goals (try simp [mn, mx, edgeEnds, measure, spotAt, T3.set, T3.get, axes, along, level, outward, unfr, cA, cB])
      all_goals (try first | omega | exact ⟨by decide, by decide⟩ | (simp only [na, nb, Int.neg_mul]; omega) | (simp only [na, nb]; done))
    · refine ⟨1, 2, a * A - b * B, a * A, 0, ?_⟩
      constructor
      all_goals (try (first | decide | omega))
      all_goals (try refine all_faces ?_ ?_ ?_ ?_ ?_ ?_)
      all_goals (try simp [mn, mx, edgeEnds, measure, spotAt, T3.set, T3.get, axes, along, level, outward, unfr, cA, cB])
      all_goals (try first | omega | exact ⟨by decide, by decide⟩ | (simp only [na, nb, Int.neg_mul]; omega) | (simp only [na, nb]; done))
    · refine ⟨3, 0, a * B - b * A, a * B, 0, ?_⟩
      constructor
      all_goals (try (first | decide | omega))
      all_goals (try refine all_faces ?_ ?_ ?_ ?_ ?_ ?_)
      all_goals (try simp [mn, mx, edgeEnds, measure, spotAt, T3.set, T3.get, axes, along, level, outward, unfr, cA, cB])
      all_goals (try first | omega | exact ⟨by decide, by decide⟩ | (simp only [na, nb, Int.neg_mul]; omega) | (simp only [na, nb]; done))
  · have a1 := q ha hA; have a2 := q ha hB; have a3 := q ha hC; have b1 := r hb hA; have b2 := r hb hB; have b3 := r hb hC; have na := nap ha; have nb := nan hb
    rcases face6 hf with rfl | rfl | rfl | rfl | rfl | rfl
    · refine ⟨2, 5, 0, -(b * C), a * B - b * C, ?_⟩
      constructor
      all_goals (try (first | decide | omega))
      all_goals (try refine all_faces ?_ ?_ ?_ ?_ ?_ ?_)
      all_goals (try simp [mn, mx, edgeEnds, measure, spotAt, T3.set, T3.get, axes, along, level, outward, unfr, cA, cB])
      all_goals (try first | omega | exact ⟨by decide, by decide⟩ | (simp only [na, nb, Int.neg_mul]; omega) | (simp only [na, nb]; done))
    · refine ⟨4, 3, 0, -(b * B), a * C - b * B, ?_⟩
      constructor
      all_goals (try (first | decide | omega))
      all_goals (try refine all_faces ?_ ?_ ?_ ?_ ?_ ?_)
      all_goals (try simp [mn, mx, edgeEnds, measure, spotAt, T3.set, T3.get, axes, along, level, outward, unfr, cA, cB])
      all_goals (try first | omega | exact ⟨by decide, by decide⟩ | (simp only [na, nb, Int.neg_mul]; omega) | (simp only [na, nb]; done))
    · refine ⟨4, 1, 0, -(b * A), a * C - b * A, ?_⟩
      constructor
      all_goals (try (first | decide | omega))
      all_goals (try refine all_faces ?_ ?_ ?_ ?_ ?_ ?_)
      all_goals (try simp [mn, mx, edgeEnds, measure, spotAt, T3.set, T3.get, axes, along, level, outward, unfr, cA, cB])
      all_goals (try first | omega | exact ⟨by decide, by decide⟩ | (simp only [na, nb, Int.neg_mul]; omega) | (simp only [na, nb]; done))
    · refine ⟨0, 5, 0, -(b * C), a * A - b * C, ?_⟩
      constructor
      all_goals (try (first | decide | omega))
      all_goals (try refine all_faces ?_ ?_ ?_ ?_ ?_ ?_)
      all_goals (try simp [mn, mx, edgeEnds, measure, spotAt, T3.set, T3.get, axes, along, level, outward, unfr, cA, cB])
      all_goals (try first | omega | exact ⟨by decide, by decide⟩ | (simp only [na, nb, Int.neg_mul]; omega) | (simp only [na, nb]; done))
    · refine ⟨0, 3, 0, -(b * B), a * A - b * B, ?_⟩
      constructor
      all_goals (try (first | decide | omega))
      all_goals (try refine all_faces ?_ ?_ ?_ ?_ ?_ ?_)
      all_goals (try simp [mn, mx, edgeEnds, measure, spotAt, T3.set, T3.get, axes, along, level, outward, unfr, cA, cB])
      all_goals (try first | omega | exact ⟨by decide, by decide⟩ | (simp only [na, nb, Int.neg_mul]; omega) | (simp only [na, nb]; done))
    · refine ⟨2, 1, 0, -(b * A), a * B - b * A, ?_⟩
      constructor
      all_goals (try (first | decide | omega))
      all_goals (try refine all_faces ?_ ?_ ?_ ?_ ?_ ?_)
      all_goals (try simp [mn, mx, edgeEnds, measure, spotAt, T3.set, T3.get, axes, along, level, outward, unfr, cA, cB])
      all_goals (try first | omega | exact ⟨by decide, by decide⟩ | (simp only [na, nb, Int.neg_mul]; omega) | (simp only [na, nb]; done))
  · have a1 := q ha hA; have a2 := q ha hB; have a3 := q ha hC; have b1 := q hb hA; have b2 := q hb hB; have b3 := q hb hC; have na := nap ha; have nb := nap hb
    rcases face6 hf with rfl | rfl | rfl | rfl | rfl | rfl
    · refine ⟨5, 3, -(b * C), a * B - b * C, a * B, ?_⟩
      constructor
      all_goals (try (first | decide | omega))
      all_goals (try refine all_faces ?_ ?_ ?_ ?_ ?_ ?_)
      all_goals (try simp [mn, mx, edgeEnds, measure, spotAt, T3.set, T3.get, axes, along, level, outward, unfr, cA, cB])
      all_goals (try first | omega | exact ⟨by decide, by decide⟩ | (simp only [na, nb, Int.neg_mul]; omega) | (simp only [na, nb]; done))
    · refine ⟨3, 5, -(b * B), a * C - b * B, a * C, ?_⟩
      constructor
      all_goals (try (first | decide | omega))
      all_goals (try refine all_faces ?_ ?_ ?_ ?_ ?_ ?_)
      all_goals (try simp [mn, mx, edgeEnds, measure, spotAt, T3.set, T3.get, axes, along, level, outward, unfr, cA, cB])
      all_goals (try first | omega | exact ⟨by decide, by decide⟩ | (simp only [na, nb, Int.neg_mul]; omega) | (simp only [na, nb]; done))
    · refine ⟨1, 5, -(b * A), a * C - b * A, a * C, ?_⟩
      constructor
      all_goals (try (first | decide | omega))
      all_goals (try refine all_faces ?_ ?_ ?_ ?_ ?_ ?_)
      all_goals (try simp [mn, mx, edgeEnds, measure, spotAt, T3.set, T3.get, axes, along, level, outward, unfr, cA, cB])
      all_goals (try first | omega | exact ⟨by decide, by decide⟩ | (simp only [na, nb, Int.neg_mul]; omega) | (simp only [na, nb]; done))
    · refine ⟨5, 1, -(b * C), a * A - b * C, a * A, ?_⟩
      constructor
      all_goals (try (first | decide | omega))
      all_goals (try refine all_faces ?_ ?_ ?_ ?_ ?_ ?_)
      all_goals (try simp [mn, mx, edgeEnds, measure, spotAt, T3.set, T3.get, axes, along, level, outward, unfr, cA, cB])
      all_goals (try first | omega | exact ⟨by decide, by decide⟩ | (simp only [na, nb, Int.neg_mul]; omega) | (simp only [na, nb]; done))
    · refine ⟨3, 1, -(b * B), a * A - b * B, a * A, ?_⟩
      constructor
      all_goals (try (first | decide | omega))
      all_goals (try refine all_faces ?_ ?_ ?_ ?_ ?_ ?_)
      all_goals (try simp [mn, mx, edgeEnds, measure, spotAt, T3.set, T3.get, axes, along, level, outward, unfr, cA, cB])
      all_goals (try first | omega | exact ⟨by decide, by decide⟩ | (simp only [na, nb, Int.neg_mul]; omega) | (simp only [na, nb]; done))
    · refine ⟨1, 3, -(b * A), a * B - b * A, a * B, ?_⟩
      constructor
      all_goals (try (first | decide | omega))
      all_goals (try refine all_faces ?_ ?_ ?_ ?_ ?_ ?_)
      all_goals (try simp [mn, mx, edgeEnds, measure, spotAt, T3.set, T3.get, axes, along, level, outward, unfr, cA, cB])
      all_goals (try first | omega | exact ⟨by decide, by decide⟩ | (simp only [na, nb, Int.neg_mul]; omega) | (simp only [na, nb]; done))
end TP

/-! G3 -/
set_option maxHeartbeats 1000000
set_option linter.unusedVariables false
namespace TP
open PySem PySem.W
/-! ### units -/
structure Un where
  f : Int
  d : T3
  u : Int
  deriving DecidableEq
def Un.st (x : Un) : StV := ⟨x.f, x.d, x.u, x.u + 1⟩
structure Wd (s : T3) (p q : Int) : Prop where
  pos : Pos3 s
  p1 : 1 ≤ p
  q1 : 1 ≤ q
  cop : Int.gcd p q = 1
def Goes (s : T3) (x : Un) (g : Int) : Prop := FaceOk g ∧ g / 2 ≠ x.f / 2 ∧ 0 < outward g x.d ∧ mn s x.f g x.d ≤ x.u ∧ x.u + 1 ≤ mx s x.f g x.d
def InU (s : T3) (p q : Int) (x : Un) : Prop := FaceOk x.f ∧ x.d ∈ dirs4 x.f p q ∧ ∃ g, Goes s x g
def go (s : T3) (x : Un) (g : Int) : Un := ⟨g, goneOver x.f g x.d, x.u + grown s x.f g x.d⟩
def nx (s : T3) (x : Un) : Un := match onward s x.st with
  | some t => ⟨t.face, t.dir, t.low⟩
  | none => x
def rv (x : Un) : Un := ⟨x.f, x.d.neg, -x.u - 1⟩
section
variable {s : T3} {p q : Int} {f g : Int} {d : T3}
theorem dirs_ab (W : Wd s p q) (h : d ∈ dirs4 f p q) : ∃ a b, d = unfr f a b ∧ a ≠ 0 ∧ b ≠ 0 ∧ Int.gcd a b = 1 ∧ (a.natAbs : Int) * b.natAbs = p * q ∧ (a.natAbs : Int) + b.natAbs = p + q ∧ ∀ h' e, e ∈ dirs4 h' a b → e ∈ dirs4 h' p q := by
  obtain ⟨_, p1, q1, c⟩ := W
  have hp : (p.natAbs : Int) = p := by omega
  have hq : (q.natAbs : Int) = q := by omega
  have hm : ∀ h' a b, (a, b) ∈ [(p, q), (-q, p), (-p, -q), (q, -p)] → ∀ e, e ∈ dirs4 h' a b → e ∈ dirs4 h' p q := by
    intro h' a b hab e he
    simp only [List.mem_cons, List.not_mem_nil, or_false, Prod.mk.injEq] at hab
    unfold dirs4 at he ⊢
    simp only [List.mem_cons, List.not_mem_nil, or_false] at he ⊢
    rcases hab with ⟨rfl, rfl⟩ | ⟨rfl, rfl⟩ | ⟨rfl, rfl⟩ | ⟨rfl, rfl⟩ <;> (try simp only [Int.neg_neg] at he) <;> grind
  unfold dirs4 at h
  simp only [List.mem_cons, List.not_mem_nil, or_false] at h
  rcases h with rfl | rfl | rfl | rfl
  · exact ⟨p, q, rfl, by omega, by omega, c, by rw [hp, hq], by omega, fun h' => hm h' p q (by simp)⟩
  · exact ⟨-q, p, rfl, by omega, by omega, by rw [Int.neg_gcd, Int.gcd_comm]; exact c, by rw [Int.natAbs_neg, hp, hq, Int.mul_comm], by omega, fun h' => hm h' (-q) p (by simp)⟩
  · exact ⟨-p, -q, rfl, by omega, by omega, by rw [Int.neg_gcd, Int.gcd_neg]; exact c, by rw [Int.natAbs_neg, Int.natAbs_neg, hp, hq], by omega, fun h' => hm h' (-p) (-q) (by simp)⟩
  · exact ⟨q, -p, rfl, by omega, by omega, by rw [Int.gcd_neg, Int.gcd_comm]; exact c, by rw [Int.natAbs_neg, hp, hq, Int.mul_comm], by omega, fun h' => hm h' q (-p) (by simp)⟩
theorem dirs_spl (W : Wd s p q) (hf : FaceOk f) (h : d ∈ dirs4 f p q) : ∃ gR gL lo mc hi, Spl s f d gR gL lo mc hi := by
  obtain ⟨a, b, rfl, ha, hb, _⟩ := dirs_ab W h
  exact spl_ex W.pos hf ha hb
theorem dirs_zero (W : Wd s p q) (hf : FaceOk f) (h : d ∈ dirs4 f p q) : d.get (f / 2) = 0 := by
  obtain ⟨a, b, rfl, ha, hb, _⟩ := dirs_ab W h
  exact (ab_unfr hf).2.2
theorem dirs_over (W : Wd s p q) (hf : FaceOk f) (hg : FaceOk g) (n : f / 2 ≠ g / 2) (h : d ∈ dirs4 f p q) : goneOver f g d ∈ dirs4 g p q := by
  obtain ⟨a, b, rfl, ha, hb, _, _, _, k⟩ := dirs_ab W h
  exact k g _ (over_dirs hf hg n)
theorem neg_unfr {a b : Int} (hf : FaceOk f) : T3.neg (unfr f a b) = unfr f (-a) (-b) := by
  rcases face6 hf with rfl | rfl | rfl | rfl | rfl | rfl <;> simp [unfr, T3.set, axes, T3.neg]
theorem dirs_neg (W : Wd s p q) (hf : FaceOk f) (h : d ∈ dirs4 f p q) : T3.neg d ∈ dirs4 f p q := by
  obtain ⟨a, b, rfl, ha, hb, _, _, _, k⟩ := dirs_ab W h
  refine k f _ ?_
  rw [neg_unfr hf]
  unfold dirs4
  simp
theorem neg_neg3 (d : T3) : T3.neg (T3.neg d) = d := by
  obtain ⟨x, y, z⟩ := d
  simp [T3.neg]
theorem neg_get (d : T3) (i : Int) : (T3.neg d).get i = -(d.get i) := by
  unfold T3.neg T3.get
  (repeat' split) <;> rfl
theorem out_neg (g : Int) (d : T3) : outward g (T3.neg d) = -(outward g d) := by
  unfold outward
  rw [neg_get]
  split <;> rfl
theorem mn_neg : mn s f g (T3.neg d) = -(mx s f g d) ∧ mx s f g (T3.neg d) = -(mn s f g d) := by
  unfold mn mx
  rw [ends_neg]
  dsimp only
  omega
theorem mn_over (hf : FaceOk f) (hg : FaceOk g) (n : f / 2 ≠ g / 2) (h : d.get (f / 2) = 0) : mn s g f (goneOver f g d) = mn s f g d + grown s f g d ∧ mx s g f (goneOver f g d) = mx s f g d + grown s f g d := by
  have e1 : (edgeEnds s g f (goneOver f g d)).1 = (edgeEnds s f g d).1 + grown s f g d := by unfold grown; omega
  have e2 := ends_shift (s := s) hf hg n h
  unfold mn mx
  rw [e1, e2]
  omega
theorem goes_one (W : Wd s p q) {x : Un} (hf : FaceOk x.f) (h : x.d ∈ dirs4 x.f p q) {g g' : Int} (a : Goes s x g) (b : Goes s x g') : g = g' := by
  obtain ⟨gR, gL, lo, mc, hi, S⟩ := dirs_spl W hf h
  obtain ⟨a1, a2, a3, a4, a5⟩ := a
  obtain ⟨b1, b2, b3, b4, b5⟩ := b
  have eR := S.eR
  have eL := S.eL
  rcases S.leave g a1 a2 a3 with e | e <;> rcases S.leave g' b1 b2 b3 with e' | e' <;> rw [e] at a4 a5 ⊢ <;> rw [e'] at b4 b5 ⊢ <;> omega
theorem goes_ex (W : Wd s p q) {f : Int} {d : T3} {gR gL lo mc hi : Int} (S : Spl s f d gR gL lo mc hi) {u : Int} (h1 : lo ≤ u) (h2 : u < hi) : ∃ g, Goes s ⟨f, d, u⟩ g := by
  have eR := S.eR
  have eL := S.eL
  by_cases h : u < mc
  · exact ⟨gR, S.okR, S.nR, S.outR, by dsimp only; omega, by dsimp only; omega⟩
  · exact ⟨gL, S.okL, S.nL, S.outL, by dsimp only; omega, by dsimp only; omega⟩
theorem goes_rng {x : Un} {gR gL lo mc hi : Int} (S : Spl s x.f x.d gR gL lo mc hi) {g : Int} (h : Goes s x g) : lo ≤ x.u ∧ x.u < hi := by
  obtain ⟨a1, a2, a3, a4, a5⟩ := h
  have := S.rng g a1 a2
  omega
/-- a unit's next is a unit, and turned round it goes back -/
theorem go_in (W : Wd s p q) {x : Un} (h : InU s p q x) {g : Int} (hg : Goes s x g) : InU s p q (go s x g) ∧ Goes s (rv (go s x g)) x.f ∧ go s (rv (go s x g)) x.f = rv x := by
  obtain ⟨hf, hd, _⟩ := h
  obtain ⟨a1, a2, a3, a4, a5⟩ := hg
  have n : x.f / 2 ≠ g / 2 := fun e => a2 e.symm
  have z := dirs_zero W hf hd
  have hd' := dirs_over W hf a1 n hd
  obtain ⟨m1, m2⟩ := mn_over (s := s) hf a1 n z
  obtain ⟨r1, r2⟩ := mn_neg (s := s) (f := g) (g := x.f) (d := goneOver x.f g x.d)
  refine ⟨⟨a1, hd', ?_⟩, ⟨hf, n, ?_, ?_, ?_⟩, ?_⟩
  · obtain ⟨gR, gL, lo, mc, hi, S⟩ := dirs_spl W a1 hd'
    have := S.rng x.f hf n
    exact goes_ex W S (by omega) (by omega)
  · show 0 < outward x.f (T3.neg (goneOver x.f g x.d))
    rw [out_neg, out_over hf a1 n]
    omega
  · show mn s g x.f (T3.neg (goneOver x.f g x.d)) ≤ -(x.u + grown s x.f g x.d) - 1
    omega
  · show -(x.u + grown s x.f g x.d) - 1 + 1 ≤ mx s g x.f (T3.neg (goneOver x.f g x.d))
    omega
  · have hb := over_back hf a1 n z
    have e1 : grown s g x.f (T3.neg (goneOver x.f g x.d)) = grown s x.f g x.d := by
      unfold grown
      rw [hb, ends_neg, ends_neg]
      dsimp only
      omega
    unfold go rv
    dsimp only
    rw [hb, e1]
    congr 1
    omega
theorem rv_rv (x : Un) : rv (rv x) = x := by
  obtain ⟨f, d, u⟩ := x
  unfold rv
  dsimp only
  rw [neg_neg3]
  congr 1
  omega
end
end TP

/-! G4 -/
set_option maxHeartbeats 1000000
set_option linter.unusedVariables false
namespace TP
open PySem PySem.W
section
variable {s : T3} {p q : Int} {f g : Int} {d : T3}
theorem mem_beside : g ∈ facesBeside f ↔ FaceOk g ∧ g / 2 ≠ f / 2 := by
  unfold facesBeside
  rw [List.mem_filter]
  constructor
  · rintro ⟨h1, h2⟩
    refine ⟨?_, by simpa using h2⟩
    simp only [List.mem_cons, List.not_mem_nil, or_false] at h1
    unfold FaceOk
    omega
  · rintro ⟨h1, h2⟩
    refine ⟨?_, by simpa using h2⟩
    rcases face6 h1 with rfl | rfl | rfl | rfl | rfl | rfl <;> decide
theorem mem_leaving : g ∈ leaving f d ↔ FaceOk g ∧ g / 2 ≠ f / 2 ∧ 0 < outward g d := by
  unfold leaving
  rw [List.mem_filter, mem_beside, decide_eq_true_eq, and_assoc]
theorem findSome_one {α β : Type} {F : α → Option β} {v : β} : ∀ {l : List α}, (∀ a ∈ l, ∀ r, F a = some r → r = v) → (∃ a ∈ l, F a = some v) → l.findSome? F = some v
  | [], _, ⟨_, h, _⟩ => by cases h
  | a :: l, h1, h2 => by
    rw [List.findSome?_cons]
    cases e : F a with
    | some r => rw [h1 a List.mem_cons_self r e]
    | none =>
      refine findSome_one (fun b hb => h1 b (List.mem_cons_of_mem _ hb)) ?_
      obtain ⟨b, hb, hv⟩ := h2
      rcases List.mem_cons.mp hb with rfl | hb
      · rw [e] at hv; cases hv
      · exact ⟨b, hb, hv⟩
theorem onward_strip (W : Wd s p q) {t : StV} (hf : FaceOk t.face) (hd : t.dir ∈ dirs4 t.face p q) (lt : t.low < t.high) (hg : FaceOk g) (n : g / 2 ≠ t.face / 2) (o : 0 < outward g t.dir)
    (h1 : mn s t.face g t.dir ≤ t.low) (h2 : t.high ≤ mx s t.face g t.dir) : onward s t = some ⟨g, goneOver t.face g t.dir, t.low + grown s t.face g t.dir, t.high + grown s t.face g t.dir⟩ := by
  have by_ : ∀ g', onwardBy s t g' = if mn s t.face g' t.dir ≤ t.low ∧ t.high ≤ mx s t.face g' t.dir then some ⟨g', goneOver t.face g' t.dir, t.low + grown s t.face g' t.dir, t.high + grown s t.face g' t.dir⟩ else none := fun g' => by
    unfold onwardBy mn mx grown
    rw [minOf2, maxOf2]
  unfold onward
  refine findSome_one (fun g' hg' r hr => ?_) ⟨g, mem_leaving.mpr ⟨hg, n, o⟩, by rw [by_, if_pos ⟨h1, h2⟩]⟩
  obtain ⟨k1, k2, k3⟩ := mem_leaving.mp hg'
  rw [by_] at hr
  split at hr
  · rename_i hc
    have e : g' = g := goes_one (x := ⟨t.face, t.dir, t.low⟩) W hf hd ⟨k1, k2, k3, hc.1, by dsimp only; omega⟩ ⟨hg, n, o, h1, by dsimp only; omega⟩
    rw [← e]
    exact (Option.some.inj hr).symm
  · cases hr
theorem onward_of (W : Wd s p q) {x : Un} (h : InU s p q x) (hg : Goes s x g) : onward s x.st = some (go s x g).st := by
  obtain ⟨hf, hd, _⟩ := h
  obtain ⟨a1, a2, a3, a4, a5⟩ := hg
  rw [onward_strip W (t := x.st) hf hd (by show x.u < x.u + 1; omega) a1 a2 a3 a4 a5]
  show some (StV.mk _ _ _ _) = some (StV.mk _ _ _ _)
  congr 2
  show x.u + 1 + grown s x.f g x.d = x.u + grown s x.f g x.d + 1
  omega
theorem nx_of (W : Wd s p q) {x : Un} (h : InU s p q x) (hg : Goes s x g) : nx s x = go s x g := by
  unfold nx
  rw [onward_of W h hg]
  rfl
theorem nx_in (W : Wd s p q) {x : Un} (h : InU s p q x) : InU s p q (nx s x) := by
  obtain ⟨g, hg⟩ := h.2.2
  rw [nx_of W h hg]
  exact (go_in W h hg).1
theorem rv_in (W : Wd s p q) {x : Un} (h : InU s p q x) : InU s p q (rv x) := by
  obtain ⟨hf, hd, g, a⟩ := h
  have hd' := dirs_neg W hf hd
  refine ⟨hf, hd', ?_⟩
  obtain ⟨gR, gL, lo, mc, hi, S⟩ := dirs_spl W hf hd'
  have := S.rng g a.1 a.2.1
  obtain ⟨r1, r2⟩ := mn_neg (s := s) (f := x.f) (g := g) (d := x.d)
  obtain ⟨a1, a2, a3, a4, a5⟩ := a
  exact goes_ex W S (by omega) (by omega)
theorem nx_rv (W : Wd s p q) {x : Un} (h : InU s p q x) : nx s (rv (nx s x)) = rv x := by
  obtain ⟨g, hg⟩ := h.2.2
  rw [nx_of W h hg]
  obtain ⟨k1, k2, k3⟩ := go_in W h hg
  rw [nx_of W (rv_in W k1) k2, k3]
theorem nx_inj (W : Wd s p q) {x y : Un} (h : InU s p q x) (h' : InU s p q y) (e : nx s x = nx s y) : x = y := by
  have := nx_rv W h
  rw [e, nx_rv W h'] at this
  rw [← rv_rv x, ← rv_rv y, this]
/-! ### the list of all units -/
theorem minOf_le : ∀ (x : Int) (xs : List Int), minOf x xs ≤ x ∧ ∀ y ∈ xs, minOf x xs ≤ y := by
  intro x xs
  induction xs generalizing x with
  | nil => exact ⟨Int.le_refl _, fun y h => by cases h⟩
  | cons z zs ih =>
    have e : minOf x (z :: zs) = minOf (minOf x [z]) zs := rfl
    rw [e, minOf2]
    obtain ⟨h1, h2⟩ := ih (min x z)
    exact ⟨by omega, fun y hy => by rcases List.mem_cons.mp hy with rfl | hy; · omega
                                    · exact h2 y hy⟩
theorem maxOf_le : ∀ (x : Int) (xs : List Int), x ≤ maxOf x xs ∧ ∀ y ∈ xs, y ≤ maxOf x xs := by
  intro x xs
  induction xs generalizing x with
  | nil => exact ⟨Int.le_refl _, fun y h => by cases h⟩
  | cons z zs ih =>
    have e : maxOf x (z :: zs) = maxOf (maxOf x [z]) zs := rfl
    rw [e, maxOf2]
    obtain ⟨h1, h2⟩ := ih (max x z)
    exact ⟨by omega, fun y hy => by rcases List.mem_cons.mp hy with rfl | hy; · omega
                                    · exact h2 y hy⟩
theorem maxOf_mem {α : Type} [DecidableEq α] [DatumOrd α] : ∀ (x : α) (xs : List α), maxOf x xs = x ∨ maxOf x xs ∈ xs := by
  intro x xs
  induction xs generalizing x with
  | nil => exact .inl rfl
  | cons z zs ih =>
    have e : maxOf x (z :: zs) = maxOf (if DatumOrd.lt x z = true then z else x) zs := rfl
    rw [e]
    rcases ih (if DatumOrd.lt x z = true then z else x) with h | h
    · rw [h]
      split
      · exact .inr List.mem_cons_self
      · exact .inl rfl
    · exact .inr (List.mem_cons_of_mem _ h)
theorem side_spl {gR gL lo mc hi : Int} (S : Spl s f d gR gL lo mc hi) : sideRange s f d = (lo, hi) := by
  have hm : ∀ z ∈ sideVals s f d (facesBeside f), lo ≤ z ∧ z ≤ hi := fun z hz => by
    unfold sideVals at hz
    obtain ⟨g, hg, hz⟩ := List.mem_flatMap.mp hz
    obtain ⟨k1, k2⟩ := mem_beside.mp hg
    have := S.rng g k1 k2
    unfold mn mx at this
    simp only [List.mem_cons, List.not_mem_nil, or_false] at hz
    omega
  have hin : ∀ g, FaceOk g → g / 2 ≠ f / 2 → mn s f g d ∈ sideVals s f d (facesBeside f) ∧ mx s f g d ∈ sideVals s f d (facesBeside f) := fun g k1 k2 => by
    unfold sideVals
    have hg := mem_beside.mpr ⟨k1, k2⟩
    refine ⟨List.mem_flatMap.mpr ⟨g, hg, ?_⟩, List.mem_flatMap.mpr ⟨g, hg, ?_⟩⟩
    · unfold mn
      simp only [List.mem_cons, List.not_mem_nil, or_false]
      omega
    · unfold mx
      simp only [List.mem_cons, List.not_mem_nil, or_false]
      omega
  have h1 := (hin gR S.okR S.nR).1
  have h2 := (hin gL S.okL S.nL).2
  rw [S.eR.1] at h1
  rw [S.eL.2] at h2
  unfold sideRange
  cases e : sideVals s f d (facesBeside f) with
  | nil => rw [e] at h1; cases h1
  | cons n ns =>
    rw [e] at h1 h2 hm
    dsimp only
    obtain ⟨m1, m2⟩ := minOf_le n ns
    obtain ⟨m3, m4⟩ := maxOf_le n ns
    have m5 : minOf n ns ∈ n :: ns := by rcases minOf_mem n ns with h | h; · rw [h]; exact List.mem_cons_self
                                         · exact List.mem_cons_of_mem _ h
    have m6 : maxOf n ns ∈ n :: ns := by rcases maxOf_mem n ns with h | h; · rw [h]; exact List.mem_cons_self
                                         · exact List.mem_cons_of_mem _ h
    have a1 := hm _ m5
    have a2 := hm _ m6
    have b1 : minOf n ns ≤ lo := by rcases List.mem_cons.mp h1 with h | h; · omega
                                    · exact m2 _ h
    have b2 : hi ≤ maxOf n ns := by rcases List.mem_cons.mp h2 with h | h; · omega
                                    · exact m4 _ h
    refine Prod.ext ?_ ?_ <;> dsimp only <;> omega
def unitsFD (s : T3) (f : Int) (d : T3) : List Un := (lowsOf s f d).map fun u => ⟨f, d, u⟩
def Us (s : T3) (p q : Int) : List Un := [0, 1, 2, 3, 4, 5].flatMap fun f => (dirsOn f p q).flatMap fun d => unitsFD s f d
theorem mem_dirsOn : d ∈ dirsOn f p q ↔ d ∈ dirs4 f p q := (List.mergeSort_perm _ _).mem_iff
theorem mem_face : f ∈ ([0, 1, 2, 3, 4, 5] : List Int) ↔ FaceOk f := by
  simp only [List.mem_cons, List.not_mem_nil, or_false]
  unfold FaceOk
  omega
theorem mem_unitsFD {x : Un} : x ∈ unitsFD s f d ↔ x.f = f ∧ x.d = d ∧ (sideRange s f d).1 ≤ x.u ∧ x.u < (sideRange s f d).2 := by
  unfold unitsFD lowsOf
  rw [List.mem_map]
  constructor
  · rintro ⟨u, hu, rfl⟩
    obtain ⟨i, hi, rfl⟩ := List.mem_map.mp hu
    have := List.mem_range.mp hi
    exact ⟨rfl, rfl, by dsimp only; omega, by dsimp only; omega⟩
  · rintro ⟨h1, h2, h3, h4⟩
    refine ⟨x.u, List.mem_map.mpr ⟨(x.u - (sideRange s f d).1).toNat, List.mem_range.mpr (by omega), by omega⟩, ?_⟩
    rw [← h1, ← h2]
theorem mem_Us (W : Wd s p q) {x : Un} : x ∈ Us s p q ↔ InU s p q x := by
  unfold Us
  rw [List.mem_flatMap]
  constructor
  · rintro ⟨f, hf, h⟩
    obtain ⟨d, hd, h⟩ := List.mem_flatMap.mp h
    obtain ⟨rfl, rfl, h1, h2⟩ := mem_unitsFD.mp h
    have hf := mem_face.mp hf
    have hd := mem_dirsOn.mp hd
    refine ⟨hf, hd, ?_⟩
    obtain ⟨gR, gL, lo, mc, hi, S⟩ := dirs_spl W hf hd
    rw [side_spl S] at h1 h2
    exact goes_ex W S h1 h2
  · rintro ⟨hf, hd, g, hg⟩
    refine ⟨x.f, mem_face.mpr hf, List.mem_flatMap.mpr ⟨x.d, mem_dirsOn.mpr hd, mem_unitsFD.mpr ⟨rfl, rfl, ?_⟩⟩⟩
    obtain ⟨gR, gL, lo, mc, hi, S⟩ := dirs_spl W hf hd
    rw [side_spl S]
    exact goes_rng S hg
theorem nodup_flatMap {α β : Type} {F : α → List β} : ∀ {l : List α}, l.Nodup → (∀ a ∈ l, (F a).Nodup) → (∀ a ∈ l, ∀ b ∈ l, a ≠ b → ∀ x ∈ F a, x ∉ F b) → (l.flatMap F).Nodup
  | [], _, _, _ => by simp
  | a :: l, h1, h2, h3 => by
    rw [List.flatMap_cons, List.nodup_append]
    obtain ⟨n1, n2⟩ := List.nodup_cons.mp h1
    refine ⟨h2 a List.mem_cons_self, nodup_flatMap n2 (fun b hb => h2 b (List.mem_cons_of_mem _ hb)) (fun b hb c hc => h3 b (List.mem_cons_of_mem _ hb) c (List.mem_cons_of_mem _ hc)), fun x hx y hy e => ?_⟩
    obtain ⟨b, hb, hy⟩ := List.mem_flatMap.mp hy
    exact h3 a List.mem_cons_self b (List.mem_cons_of_mem _ hb) (fun e => n1 (e ▸ hb)) x hx (e ▸ hy)
theorem nodup_map_of {α β : Type} {F : α → β} {l : List α} (h : l.Nodup) (inj : ∀ a ∈ l, ∀ b ∈ l, F a = F b → a = b) : (l.map F).Nodup := by
  induction l with
  | nil => simp
  | cons a l ih =>
    obtain ⟨n1, n2⟩ := List.nodup_cons.mp h
    rw [List.map_cons, List.nodup_cons]
    refine ⟨fun hm => ?_, ih n2 fun b hb c hc => inj b (List.mem_cons_of_mem _ hb) c (List.mem_cons_of_mem _ hc)⟩
    obtain ⟨b, hb, e⟩ := List.mem_map.mp hm
    exact n1 (inj b (List.mem_cons_of_mem _ hb) a List.mem_cons_self e ▸ hb)
theorem nodup_dirs4 (W : Wd s p q) (hf : FaceOk f) : (dirs4 f p q).Nodup := by
  have p1 := W.p1
  have q1 := W.q1
  unfold dirs4
  simp only [List.nodup_cons, List.mem_cons, List.not_mem_nil, or_false, not_or, not_false_eq_true, List.nodup_nil, and_true]
  have k : ∀ a b a' b', ¬ (a = a' ∧ b = b') → unfr f a b ≠ unfr f a' b' := fun a b a' b' h e => h (unfr_inj hf e)
  refine ⟨⟨k _ _ _ _ (by omega), k _ _ _ _ (by omega), k _ _ _ _ (by omega)⟩, ⟨k _ _ _ _ (by omega), k _ _ _ _ (by omega)⟩, k _ _ _ _ (by omega)⟩
theorem nodup_Us (W : Wd s p q) : (Us s p q).Nodup := by
  unfold Us
  refine nodup_flatMap (by decide) (fun f hf => nodup_flatMap ?_ (fun d hd => ?_) (fun d hd e he ne x hx hx' => ?_)) (fun f hf g hg ne x hx hx' => ?_)
  · exact (List.mergeSort_perm _ _).nodup_iff.mpr (nodup_dirs4 W (mem_face.mp hf))
  · unfold unitsFD lowsOf
    refine nodup_map_of (nodup_map_of List.nodup_range fun a _ b _ e => by omega) fun a _ b _ e => ?_
    exact congrArg Un.u e
  · obtain ⟨_, h1, _⟩ := mem_unitsFD.mp hx
    obtain ⟨_, h2, _⟩ := mem_unitsFD.mp hx'
    exact ne (h1.symm.trans h2)
  · obtain ⟨d, _, hx⟩ := List.mem_flatMap.mp hx
    obtain ⟨e, _, hx'⟩ := List.mem_flatMap.mp hx'
    exact ne ((mem_unitsFD.mp hx).1.symm.trans (mem_unitsFD.mp hx').1)
theorem len_unitsFD {gR gL lo mc hi : Int} (S : Spl s f d gR gL lo mc hi) : ((unitsFD s f d).length : Int) = hi - lo := by
  unfold unitsFD lowsOf
  rw [List.length_map, List.length_map, List.length_range, side_spl S]
  have := S.lt
  dsimp only
  omega
end
end TP

/-! G5 -/
set_option maxHeartbeats 1000000
set_option linter.unusedVariables false
namespace TP
open PySem PySem.W
/-! ### going round -/
def it {α : Type} (F : α → α) : Nat → α → α
  | 0, x => x
  | n + 1, x => F (it F n x)
section
variable {α : Type} {F : α → α} {x y : α} {n m : Nat}
theorem it_add (m n : Nat) (x : α) : it F (m + n) x = it F m (it F n x) := by
  induction m with
  | zero => rw [Nat.zero_add]; rfl
  | succ m ih => rw [Nat.succ_add]; show F _ = F _; rw [ih]
theorem it_succ (n : Nat) (x : α) : it F (n + 1) x = it F n (F x) := it_add n 1 x
/-- n is the number of steps till x comes back -/
def Per (F : α → α) (x : α) (n : Nat) : Prop := 0 < n ∧ it F n x = x ∧ ∀ m, 0 < m → m < n → it F m x ≠ x
theorem it_mul (h : it F n x = x) (k : Nat) : it F (n * k) x = x := by
  induction k with
  | zero => rfl
  | succ k ih => rw [Nat.mul_succ, it_add, h, ih]
theorem it_mod (h : it F n x = x) (i : Nat) : it F (i % n) x = it F i x := by
  conv => rhs; rw [← Nat.mod_add_div i n, it_add, it_mul h]
theorem least_ex {P : Nat → Prop} : ∀ n, P n → ∃ m, P m ∧ ∀ k, k < m → ¬ P k := by
  intro n
  induction n using Nat.strongRecOn with
  | _ n ih =>
    intro h
    by_cases k : ∃ m, m < n ∧ P m
    · obtain ⟨m, hm, hp⟩ := k
      exact ih m hm hp
    · exact ⟨n, h, fun m hm hp => k ⟨m, hm, hp⟩⟩
variable {P : α → Prop} (cl : ∀ x, P x → P (F x)) (inj : ∀ x y, P x → P y → F x = F y → x = y)
include cl in
theorem it_in (h : P x) (n : Nat) : P (it F n x) := by
  induction n with
  | zero => exact h
  | succ n ih => exact cl _ ih
include cl inj in
theorem it_back (h : P x) (h' : P y) (e : it F n x = it F n y) : x = y := by
  induction n with
  | zero => exact e
  | succ n ih => exact ih (inj _ _ (it_in cl h n) (it_in cl h' n) e)
include cl inj in
theorem per_ex {U : List α} (hU : ∀ x, P x → x ∈ U) (h : P x) : ∃ n, Per F x n := by
  have key : ∃ n, 0 < n ∧ it F n x = x := by
    refine Classical.byContradiction fun no => ?_
    have nd : ((List.range (U.length + 1)).map fun i => it F i x).Nodup := by
      refine nodup_map_of List.nodup_range fun a _ b _ e => ?_
      have k : ∀ a b : Nat, a < b → it F a x = it F b x → False := fun a b hab e => by
        refine no ⟨b - a, by omega, ?_⟩
        have e2 : it F a (it F (b - a) x) = it F a x := by rw [← it_add, e]; congr 1; omega
        exact it_back cl inj (it_in cl h _) h e2
      rcases Nat.lt_trichotomy a b with hab | hab | hab
      · exact (k a b hab e).elim
      · exact hab
      · exact (k b a hab e.symm).elim
    have := nd.length_le_of_subset (l₂ := U) fun y hy => by
      obtain ⟨i, _, rfl⟩ := List.mem_map.mp hy
      exact hU _ (it_in cl h i)
    rw [List.length_map, List.length_range] at this
    omega
  obtain ⟨n, hn⟩ := key
  obtain ⟨m, ⟨m0, hm⟩, hl⟩ := least_ex (P := fun n => 0 < n ∧ it F n x = x) n hn
  exact ⟨m, m0, hm, fun k k0 hk e => hl k hk ⟨k0, e⟩⟩
theorem per_one (h : Per F x n) (h' : Per F x m) : n = m := by
  obtain ⟨a1, a2, a3⟩ := h
  obtain ⟨b1, b2, b3⟩ := h'
  rcases Nat.lt_trichotomy n m with k | k | k
  · exact (b3 n a1 k a2).elim
  · exact k
  · exact (a3 m b1 k b2).elim
include cl inj in
theorem per_it (hx : P x) (h : Per F x n) (i : Nat) : Per F (it F i x) n := by
  obtain ⟨a1, a2, a3⟩ := h
  refine ⟨a1, ?_, fun m m0 mn e => a3 m m0 mn ?_⟩
  · rw [← it_add, Nat.add_comm, it_add, a2]
  · refine it_back cl inj (n := i) (it_in cl hx m) hx ?_
    rw [← it_add, Nat.add_comm, it_add, e]
include cl inj in
theorem it_diff (hx : P x) (h : Per F x n) {i j : Nat} (hi : i < n) (hj : j < n) (e : it F i x = it F j x) : i = j := by
  have k : ∀ a b : Nat, a < b → b < n → it F a x = it F b x → False := fun a b hab hb e => by
    refine h.2.2 (b - a) (by omega) (by omega) ?_
    have e2 : it F a (it F (b - a) x) = it F a x := by rw [← it_add, e]; congr 1; omega
    exact it_back cl inj (it_in cl hx _) hx e2
  rcases Nat.lt_trichotomy i j with hab | hab | hab
  · exact (k i j hab hj e).elim
  · exact hab
  · exact (k j i hab hi e.symm).elim
end
/-! ### units go round -/
section
variable {s : T3} {p q : Int} {f g : Int} {d : T3} {x : Un} {n : Nat}
abbrev nxi (s : T3) (i : Nat) (x : Un) : Un := it (nx s) i x
theorem U_cl (W : Wd s p q) : ∀ x, InU s p q x → InU s p q (nx s x) := fun _ h => nx_in W h
theorem U_inj (W : Wd s p q) : ∀ x y, InU s p q x → InU s p q y → nx s x = nx s y → x = y := fun _ _ h h' e => nx_inj W h h' e
theorem nxi_in (W : Wd s p q) (h : InU s p q x) (i : Nat) : InU s p q (nxi s i x) := it_in (U_cl W) h i
theorem U_per (W : Wd s p q) (h : InU s p q x) : ∃ n, Per (nx s) x n := per_ex (U_cl W) (U_inj W) (U := Us s p q) (fun _ h => (mem_Us W).mpr h) h
theorem rv_ne (h : InU s p q x) : rv x ≠ x := fun e => by
  obtain ⟨_, _, g, hg⟩ := h
  have h1 := hg.2.2.1
  have h2 : T3.neg x.d = x.d := congrArg Un.d e
  have h3 := out_neg g x.d
  rw [h2] at h3
  omega
theorem rv_nx (W : Wd s p q) (h : InU s p q x) : rv x ≠ nx s x := fun e => by
  obtain ⟨g, hg⟩ := h.2.2
  rw [nx_of W h hg] at e
  have h2 : x.f = g := congrArg Un.f e
  exact hg.2.1 (by rw [h2])
theorem rv_away (W : Wd s p q) (h : InU s p q x) (k : Nat) : nxi s k x ≠ rv x := fun e => by
  have key : ∀ i, i ≤ k → rv (nxi s i x) = nxi s (k - i) x := fun i => by
    induction i with
    | zero => exact fun _ => e.symm
    | succ i ih =>
      intro hi
      have h1 := ih (by omega)
      have h2 := nx_rv W (nxi_in W h i)
      refine nx_inj W (rv_in W (nxi_in W h (i + 1))) (nxi_in W h _) ?_
      rw [show nx s (rv (nxi s (i + 1) x)) = rv (nxi s i x) from h2, h1]
      show nxi s (k - i) x = nxi s (k - (i + 1) + 1) x
      congr 1
      omega
  rcases Nat.mod_two_eq_zero_or_one k with hk | hk
  · have := key (k / 2) (by omega)
    rw [show k - k / 2 = k / 2 by omega] at this
    exact rv_ne (nxi_in W h (k / 2)) this
  · have := key (k / 2) (by omega)
    rw [show k - k / 2 = k / 2 + 1 by omega] at this
    exact rv_nx W (nxi_in W h (k / 2)) this
theorem per_two (W : Wd s p q) (h : InU s p q x) (hn : Per (nx s) x n) : 2 * n ≤ (Us s p q).length := by
  have nd : (((List.range n).map fun i => nxi s i x) ++ ((List.range n).map fun i => rv (nxi s i x))).Nodup := by
    have d1 : ∀ i j, i < n → j < n → nxi s i x = nxi s j x → i = j := fun i j hi hj e => it_diff (U_cl W) (U_inj W) h hn hi hj e
    rw [List.nodup_append]
    refine ⟨nodup_map_of List.nodup_range fun a ha b hb e => d1 a b (List.mem_range.mp ha) (List.mem_range.mp hb) e, nodup_map_of List.nodup_range fun a ha b hb e => d1 a b (List.mem_range.mp ha) (List.mem_range.mp hb) ?_, fun a ha b hb e => ?_⟩
    · rw [← rv_rv (nxi s a x), e, rv_rv]
    · obtain ⟨i, hi, rfl⟩ := List.mem_map.mp ha
      obtain ⟨j, hj, rfl⟩ := List.mem_map.mp hb
      refine rv_away W (nxi_in W h j) (i + (n - j)) ?_
      rw [← e]
      show it (nx s) (i + (n - j)) (it (nx s) j x) = it (nx s) i x
      have hj := List.mem_range.mp hj
      rw [← it_add, show i + (n - j) + j = i + n by omega, it_add, hn.2.1]
  have := nd.length_le_of_subset (l₂ := Us s p q) fun y hy => by
    rcases List.mem_append.mp hy with hy | hy <;> obtain ⟨i, _, rfl⟩ := List.mem_map.mp hy
    · exact (mem_Us W).mpr (nxi_in W h i)
    · exact (mem_Us W).mpr (rv_in W (nxi_in W h i))
  rw [List.length_append, List.length_map, List.length_map, List.length_range] at this
  omega
theorem len_face (W : Wd s p q) (hf : FaceOk f) : (((dirsOn f p q).flatMap fun d => unitsFD s f d).length : Int) = 2 * (p + q) * (s.get (axes f).1 + s.get (axes f).2) := by
  have p1 := W.p1
  have q1 := W.q1
  have e : ∀ a b, a ≠ 0 → b ≠ 0 → ((unitsFD s f (unfr f a b)).length : Int) = a.natAbs * s.get (axes f).2 + b.natAbs * s.get (axes f).1 := fun a b ha hb => by
    obtain ⟨gR, gL, lo, mc, hi, S⟩ := spl_ex W.pos hf ha hb
    rw [len_unitsFD S, S.len, (ab_unfr hf).1, (ab_unfr hf).2.1]
  have hp : ((dirsOn f p q).flatMap fun d => unitsFD s f d).length = ((dirs4 f p q).flatMap fun d => unitsFD s f d).length := ((List.mergeSort_perm (dirs4 f p q) leT3).flatMap_right (fun d => unitsFD s f d)).length_eq
  rw [hp]
  unfold dirs4
  simp only [List.flatMap_cons, List.flatMap_nil, List.length_append, List.length_nil, Int.natCast_add]
  rw [e p q (by omega) (by omega), e (-q) p (by omega) (by omega), e (-p) (-q) (by omega) (by omega), e q (-p) (by omega) (by omega)]
  simp only [Int.natAbs_neg]
  rw [show (p.natAbs : Int) = p by omega, show (q.natAbs : Int) = q by omega]
  grind
theorem len_Us (W : Wd s p q) : ((Us s p q).length : Int) = 8 * (p + q) * (s.1 + s.2.1 + s.2.2) := by
  have k : ∀ f, FaceOk f → _ := fun f hf => len_face (f := f) W hf
  unfold Us
  simp only [List.flatMap_cons, List.flatMap_nil, List.length_append, List.length_nil, Int.natCast_add] at k ⊢
  rw [k 0 ⟨by decide, by decide⟩, k 1 ⟨by decide, by decide⟩, k 2 ⟨by decide, by decide⟩, k 3 ⟨by decide, by decide⟩, k 4 ⟨by decide, by decide⟩, k 5 ⟨by decide, by decide⟩]
  simp [axes, T3.get]
  grind
end
end TP

/-! G6 -/
set_option maxHeartbeats 1000000
set_option linter.unusedVariables false
namespace TP
open PySem PySem.W
/-! ### a vector carried along a row of faces -/
def tr (F : Nat → Int) (v : T3) : Nat → T3
  | 0 => v
  | i + 1 => goneOver (F i) (F (i + 1)) (tr F v i)
def Ts (s : T3) (F : Nat → Int) (v : T3) : Nat → Int
  | 0 => 0
  | i + 1 => Ts s F v i + grown s (F i) (F (i + 1)) (tr F v i)
def sumN (τ : Nat → Int) : Nat → Int
  | 0 => 0
  | i + 1 => sumN τ i + τ i
def WordOk (F : Nat → Int) : Prop := ∀ i, FaceOk (F i) ∧ F i / 2 ≠ F (i + 1) / 2
section
variable {s : T3} {p q : Int} {F : Nat → Int} {v d e : T3}
theorem tr_zero (hF : WordOk F) (h : v.get (F 0 / 2) = 0) : ∀ i, (tr F v i).get (F i / 2) = 0
  | 0 => h
  | i + 1 => over_zero (hF i).1 (hF (i + 1)).1 (hF i).2
theorem tr_J (hF : WordOk F) (h : v.get (F 0 / 2) = 0) : ∀ i, tr F (Jf (F 0) v) i = Jf (F i) (tr F v i)
  | 0 => rfl
  | i + 1 => by
    show goneOver _ _ _ = Jf _ (goneOver _ _ _)
    rw [tr_J hF h i, over_J (hF i).1 (hF (i + 1)).1 (hF i).2 (tr_zero hF h i)]
theorem tr_lin (hF : WordOk F) (α β : Int) : ∀ i, tr F (T3.add (T3.smul α d) (T3.smul β e)) i = T3.add (T3.smul α (tr F d i)) (T3.smul β (tr F e i))
  | 0 => rfl
  | i + 1 => by
    show goneOver _ _ _ = _
    rw [tr_lin hF α β i, over_lin (hF i).1 (hF (i + 1)).1 (hF i).2]
    rfl
theorem Ts_lin (hF : WordOk F) (α β : Int) : ∀ i, Ts s F (T3.add (T3.smul α d) (T3.smul β e)) i = α * Ts s F d i + β * Ts s F e i
  | 0 => by show (0 : Int) = α * 0 + β * 0; omega
  | i + 1 => by
    show Ts s F _ i + grown s _ _ (tr F _ i) = α * (Ts s F d i + _) + β * (Ts s F e i + _)
    rw [Ts_lin hF α β i, tr_lin hF α β i, grown_lin (hF i).1 (hF (i + 1)).1 (hF i).2, Int.mul_add, Int.mul_add]
    omega
theorem tr_meas (hF : WordOk F) (h : v.get (F 0 / 2) = 0) (h2 : d.get (F 0 / 2) = 0) : ∀ i, measure (F i) (tr F v i) (tr F d i) = measure (F 0) v d
  | 0 => rfl
  | i + 1 => by
    show measure _ (goneOver _ _ _) (goneOver _ _ _) = _
    rw [meas_over (hF i).1 (hF (i + 1)).1 (hF i).2 (tr_zero hF h i) (tr_zero hF h2 i), tr_meas hF h h2 i]
theorem meas_add (f : Int) (v x y : T3) (τ : Int) : measure f v (T3.add x (T3.smul τ y)) = measure f v x + τ * measure f v y := by
  obtain ⟨x1, x2, x3⟩ := x
  obtain ⟨y1, y2, y3⟩ := y
  have g : ∀ i, T3.get (T3.add (x1, x2, x3) (T3.smul τ (y1, y2, y3))) i = T3.get (x1, x2, x3) i + τ * T3.get (y1, y2, y3) i := fun i => by
    unfold T3.add T3.smul T3.get
    (repeat' split) <;> rfl
  unfold measure
  rw [g, g]
  grind
/-- points on the edges of a row of faces, each from the last by a step of the way -/
theorem path_meas {c : Int} {X : Nat → T3} {τ : Nat → Int} (hF : WordOk F) (h : v.get (F 0 / 2) = 0) (h2 : d.get (F 0 / 2) = 0) (st : ∀ i, X (i + 1) = T3.add (X i) (T3.smul (τ i) (tr F d i)))
    (on : ∀ i, (X (i + 1)).get (F i / 2) = c * level s (F i) ∧ (X (i + 1)).get (F (i + 1) / 2) = c * level s (F (i + 1))) : ∀ i, measure (F i) (tr F v i) (X i) = measure (F 0) v (X 0) + sumN τ i * measure (F 0) v d + c * Ts s F v i
  | 0 => by show _ = _ + 0 * _ + c * 0; simp [tr]
  | i + 1 => by
    obtain ⟨o1, o2⟩ := on i
    show measure _ (goneOver _ _ _) _ = _ + (sumN τ i + τ i) * _ + c * (Ts s F v i + _)
    rw [edge_meas (hF i).1 (hF (i + 1)).1 (hF i).2 (tr_zero hF h i) o1 o2]
    rw [st i, meas_add, path_meas hF h h2 st on i, tr_meas hF h h2 i]
    grind
/-- a row that closes: what has grown for any v is the length along the way, times v across the way -/
theorem path_closed {c : Int} {X : Nat → T3} {τ : Nat → Int} {n : Nat} (hF : WordOk F) (h : v.get (F 0 / 2) = 0) (h2 : d.get (F 0 / 2) = 0) (st : ∀ i, X (i + 1) = T3.add (X i) (T3.smul (τ i) (tr F d i)))
    (on : ∀ i, (X (i + 1)).get (F i / 2) = c * level s (F i) ∧ (X (i + 1)).get (F (i + 1) / 2) = c * level s (F (i + 1))) (cF : F n = F 0) (cX : X n = X 0) (cv : tr F v n = v) : c * Ts s F v n = sumN τ n * measure (F 0) d v := by
  have := path_meas hF h h2 st on n
  rw [cF, cX, cv] at this
  have e : measure (F 0) v d = -(measure (F 0) d v) := by unfold measure; grind
  rw [e] at this
  grind
theorem frame_ext {f : Int} (hf : FaceOk f) {x y : T3} (h1 : x.get (f / 2) = y.get (f / 2)) (h2 : cA f x = cA f y) (h3 : cB f x = cB f y) : x = y := by
  obtain ⟨x1, x2, x3⟩ := x
  obtain ⟨y1, y2, y3⟩ := y
  rcases face6 hf with rfl | rfl | rfl | rfl | rfl | rfl <;> simp [T3.get, cA, cB, axes] at h1 h2 h3 ⊢ <;> simp [h1, h2, h3]
theorem J_unfr {f a b : Int} (hf : FaceOk f) : Jf f (unfr f a b) = unfr f (-b) a := by
  unfold Jf
  rw [(ab_unfr hf).1, (ab_unfr hf).2.1]
theorem meas_unfr {f a b a' b' : Int} (hf : FaceOk f) : measure f (unfr f a b) (unfr f a' b') = a * b' - b * a' := by
  have h1 := ab_unfr (a := a) (b := b) hf
  have h2 := ab_unfr (a := a') (b := b') hf
  unfold cA cB at h1 h2
  unfold measure
  rw [h1.1, h1.2.1, h2.1, h2.2.1]
theorem smul_inj {k : Int} {x y : T3} (hk : k ≠ 0) (h : T3.smul k x = T3.smul k y) : x = y := by
  obtain ⟨x1, x2, x3⟩ := x
  obtain ⟨y1, y2, y3⟩ := y
  unfold T3.smul at h
  simp only [Prod.mk.injEq] at h ⊢
  exact ⟨Int.eq_of_mul_eq_mul_left hk h.1, Int.eq_of_mul_eq_mul_left hk h.2.1, Int.eq_of_mul_eq_mul_left hk h.2.2⟩
theorem unfr_comb {f a b x y : Int} (hf : FaceOk f) : T3.smul (a * a + b * b) (unfr f x y) = T3.add (T3.smul (a * x + b * y) (unfr f a b)) (T3.smul (a * y - b * x) (Jf f (unfr f a b))) := by
  rw [J_unfr hf]
  rcases face6 hf with rfl | rfl | rfl | rfl | rfl | rfl <;> simp [T3.smul, T3.add, unfr, T3.set, axes] <;> grind
theorem sq_pos {a b : Int} (h : a ≠ 0) : 0 < a * a + b * b := by
  have h1 : 0 < a * a := by rcases Int.lt_or_gt_of_ne h with k | k; · exact Int.mul_pos_of_neg_of_neg k k
                            · exact Int.mul_pos k k
  have h2 : 0 ≤ b * b := by
    by_cases k : b = 0
    · rw [k]; decide
    · rcases Int.lt_or_gt_of_ne k with k | k
      · exact Int.le_of_lt (Int.mul_pos_of_neg_of_neg k k)
      · exact Int.le_of_lt (Int.mul_pos k k)
  omega
/-- a way that comes back carries every vector of its face back -/
theorem tr_closed {f a b : Int} {n : Nat} (hF : WordOk F) (h0 : F 0 = f) (hn : F n = f) (ha : a ≠ 0) (cd : tr F (unfr f a b) n = unfr f a b) (x y : Int) : tr F (unfr f x y) n = unfr f x y := by
  have hf : FaceOk f := h0 ▸ (hF 0).1
  have z := (ab_unfr (a := a) (b := b) hf).2.2
  have hk : a * a + b * b ≠ 0 := Int.ne_of_gt (sq_pos ha)
  refine smul_inj hk ?_
  have e0 : ∀ v i, tr F (T3.smul (a * a + b * b) v) i = T3.smul (a * a + b * b) (tr F v i) := fun v i => by
    have := tr_lin (d := v) (e := v) hF (a * a + b * b) 0 i
    have k : ∀ w : T3, T3.add (T3.smul (a * a + b * b) w) (T3.smul 0 w) = T3.smul (a * a + b * b) w := fun w => by simp [T3.add, T3.smul]
    rw [k, k] at this
    exact this
  rw [← e0, unfr_comb hf, tr_lin hF, cd]
  have := tr_J (v := unfr f a b) hF (by rw [h0]; exact z) n
  rw [h0, hn, cd] at this
  rw [this]
theorem gcd_dvd {c S a b : Int} (g : Int.gcd a b = 1) (h1 : c ∣ S * a) (h2 : c ∣ S * b) : c ∣ S := by
  have h := Int.dvd_coe_gcd h1 h2
  rw [Int.gcd_mul_left, g] at h
  simp at h
  exact Int.dvd_natAbs.mp h
end
end TP

/-! G7 -/
set_option maxHeartbeats 1000000
set_option linter.unusedVariables false
namespace TP
open PySem PySem.W
/-! ### entries: the point of an edge with a given measure -/
def hPl (s : T3) (sc : Int) (f g : Int) (x : Int) : T3 := T3.set (T3.set (T3.set (0, 0, 0) (f / 2) (s.get (f / 2) * sc * (f % 2))) (g / 2) (s.get (g / 2) * sc * (g % 2))) (along f g) x
/-- the place on the edge of h and f, on f, with twice the measure m for the way d, all in parts of 1 / (2 p q) -/
def ent (s : T3) (p q : Int) (h f : Int) (d : T3) (m : Int) : T3 := hPl s (2 * p * q) h f ((m - 2 * (edgeEnds s f h d).1) * (p * q / slope f h d))
section
variable {s : T3} {p q : Int} {f g h : Int} {d : T3} {m : Int}
theorem hPl_get {sc x : Int} (hf : FaceOk f) (hg : FaceOk g) (n : f / 2 ≠ g / 2) : (hPl s sc f g x).get (f / 2) = sc * level s f ∧ (hPl s sc f g x).get (g / 2) = sc * level s g ∧ (hPl s sc f g x).get (along f g) = x := by
  obtain ⟨a, b, c⟩ := s
  rcases face6 hf with rfl | rfl | rfl | rfl | rfl | rfl <;> rcases face6 hg with rfl | rfl | rfl | rfl | rfl | rfl <;> first | exact absurd rfl n | (simp [hPl, T3.set, T3.get, along, level]; try grind)
theorem along_comm : along f g = along g f := by unfold along; omega
theorem al_ok (hf : FaceOk f) (hg : FaceOk g) (n : f / 2 ≠ g / 2) : 0 ≤ along f g ∧ along f g ≤ 2 ∧ along f g ≠ f / 2 ∧ along f g ≠ g / 2 := by
  unfold FaceOk at hf hg
  unfold along
  omega
/-- three places that are alike on three axes are one -/
theorem t3_ext {x y : T3} {i j k : Int} (hi : 0 ≤ i ∧ i ≤ 2) (hj : 0 ≤ j ∧ j ≤ 2) (hk : 0 ≤ k ∧ k ≤ 2) (n1 : i ≠ j) (n2 : i ≠ k) (n3 : j ≠ k) (h1 : x.get i = y.get i) (h2 : x.get j = y.get j) (h3 : x.get k = y.get k) : x = y := by
  obtain ⟨x1, x2, x3⟩ := x
  obtain ⟨y1, y2, y3⟩ := y
  obtain ⟨rfl, rfl, rfl⟩ | ⟨rfl, rfl, rfl⟩ | ⟨rfl, rfl, rfl⟩ | ⟨rfl, rfl, rfl⟩ | ⟨rfl, rfl, rfl⟩ | ⟨rfl, rfl, rfl⟩ : (i = 0 ∧ j = 1 ∧ k = 2) ∨ (i = 0 ∧ j = 2 ∧ k = 1) ∨ (i = 1 ∧ j = 0 ∧ k = 2) ∨ (i = 1 ∧ j = 2 ∧ k = 0) ∨ (i = 2 ∧ j = 0 ∧ k = 1) ∨ (i = 2 ∧ j = 1 ∧ k = 0) := by omega
  all_goals simp [T3.get] at h1 h2 h3 ⊢ <;> simp [h1, h2, h3]
/-- the number of a direction along the axis of a face beside divides p q -/
theorem slope_dvd (W : Wd s p q) (hf : FaceOk f) (hh : FaceOk h) (n : f / 2 ≠ h / 2) (hd : d ∈ dirs4 f p q) : slope f h d ≠ 0 ∧ slope f h d ∣ p * q := by
  obtain ⟨a, b, rfl, ha, hb, _, e, _⟩ := dirs_ab W hd
  obtain ⟨e1, e2, _⟩ := ab_unfr (a := a) (b := b) hf
  unfold slope
  rw [e1, e2]
  split
  · refine ⟨ha, ?_⟩
    rw [← e, Int.dvd_mul]
    exact ⟨a, 1, Int.dvd_natAbs.mpr (Int.dvd_refl a), Int.one_dvd _, by omega⟩
  · refine ⟨by omega, ?_⟩
    rw [← e, Int.dvd_mul]
    exact ⟨1, -b, Int.one_dvd _, Int.neg_dvd.mpr (Int.dvd_natAbs.mpr (Int.dvd_refl b)), by omega⟩
theorem ent_on (hf : FaceOk f) (hh : FaceOk h) (n : f / 2 ≠ h / 2) : (ent s p q h f d m).get (f / 2) = 2 * p * q * level s f ∧ (ent s p q h f d m).get (h / 2) = 2 * p * q * level s h ∧ (ent s p q h f d m).get (along f h) = (m - 2 * (edgeEnds s f h d).1) * (p * q / slope f h d) := by
  obtain ⟨e1, e2, e3⟩ := hPl_get (s := s) (sc := 2 * p * q) (x := (m - 2 * (edgeEnds s f h d).1) * (p * q / slope f h d)) hh hf (fun e => n e.symm)
  unfold ent
  rw [along_comm]
  exact ⟨e2, e1, e3⟩
theorem ent_meas (W : Wd s p q) (hf : FaceOk f) (hh : FaceOk h) (n : f / 2 ≠ h / 2) (hd : d ∈ dirs4 f p q) : measure f d (ent s p q h f d m) = m * (p * q) := by
  obtain ⟨e1, e2, e3⟩ := ent_on (s := s) (p := p) (q := q) (d := d) (m := m) hf hh n
  rw [edge_lin hf hh n e1 e2, e3]
  obtain ⟨z, k, hk⟩ := slope_dvd W hf hh n hd
  rw [hk, Int.mul_ediv_cancel_left _ z]
  have : 2 * p * q = 2 * (slope f h d * k) := by rw [← hk]; grind
  rw [this]
  grind
theorem pos_get (h : Pos3 s) (i : Int) : 1 ≤ s.get i := by
  obtain ⟨h1, h2, h3⟩ := h
  unfold T3.get
  (repeat' split) <;> assumption
/-- inside the edge -/
theorem ent_in (W : Wd s p q) (hf : FaceOk f) (hh : FaceOk h) (n : f / 2 ≠ h / 2) (hd : d ∈ dirs4 f p q) (m1 : 2 * mn s f h d < m) (m2 : m < 2 * mx s f h d) : 0 < (ent s p q h f d m).get (along f h) ∧ (ent s p q h f d m).get (along f h) < 2 * p * q * s.get (along f h) := by
  obtain ⟨e1, e2, e3⟩ := ent_on (s := s) (p := p) (q := q) (d := d) (m := m) hf hh n
  obtain ⟨z, k, hk⟩ := slope_dvd W hf hh n hd
  have es := ends_slope (s := s) (d := d) hf hh n
  have pq : 0 < p * q := Int.mul_pos (by have := W.p1; omega) (by have := W.q1; omega)
  have c2 : 2 * p * q = 2 * (slope f h d * k) := by rw [← hk]; grind
  rw [e3, c2, hk, Int.mul_ediv_cancel_left _ z]
  have hS := pos_get W.pos (along f h)
  unfold mn at m1
  unfold mx at m2
  rw [es] at m1 m2
  generalize slope f h d = σ at *
  generalize s.get (along f h) = S at *
  generalize (edgeEnds s f h d).1 = a at *
  rw [hk] at pq
  rcases Int.lt_or_gt_of_ne z with hσ | hσ
  · have hk0 : k < 0 := by
      refine Classical.byContradiction fun hn => ?_
      have := Int.mul_nonpos_of_nonpos_of_nonneg (Int.le_of_lt hσ) (show 0 ≤ k by omega)
      omega
    have h0 : σ * S < 0 := Int.mul_neg_of_neg_of_pos hσ (by omega)
    have h1 : m - 2 * a < 0 := by omega
    have h2 : 2 * (σ * S) < m - 2 * a := by omega
    refine ⟨Int.mul_pos_of_neg_of_neg h1 hk0, ?_⟩
    have := Int.mul_lt_mul_of_neg_right h2 hk0
    calc (m - 2 * a) * k < 2 * (σ * S) * k := this
      _ = 2 * (σ * k) * S := by grind
  · have hk0 : 0 < k := by
      refine Classical.byContradiction fun hn => ?_
      have := Int.mul_nonpos_of_nonneg_of_nonpos (Int.le_of_lt hσ) (show k ≤ 0 by omega)
      omega
    have h0 : 0 < σ * S := Int.mul_pos hσ (by omega)
    have h1 : 0 < m - 2 * a := by omega
    have h2 : m - 2 * a < 2 * (σ * S) := by omega
    refine ⟨Int.mul_pos h1 hk0, ?_⟩
    have := Int.mul_lt_mul_of_pos_right h2 hk0
    calc (m - 2 * a) * k < 2 * (σ * S) * k := this
      _ = 2 * (σ * k) * S := by grind
theorem plane_par {a b x y : Int} (c : Int.gcd a b = 1) (ha : a ≠ 0) (e : a * y = b * x) : ∃ τ, x = τ * a ∧ y = τ * b := by
  have h : a ∣ x * b := ⟨y, by rw [e, Int.mul_comm]⟩
  have h2 : a ∣ x * a := ⟨x, by rw [Int.mul_comm]⟩
  obtain ⟨τ, ht⟩ := gcd_dvd c h2 h
  refine ⟨τ, by rw [ht, Int.mul_comm], ?_⟩
  refine Int.eq_of_mul_eq_mul_left ha ?_
  rw [e, ht]
  grind
theorem add_get (x y : T3) (τ i : Int) : (T3.add x (T3.smul τ y)).get i = x.get i + τ * y.get i := by
  unfold T3.add T3.smul T3.get
  (repeat' split) <;> rfl
theorem out_pos : 0 < outward g d → (g % 2 = 1 ∧ 0 < d.get (g / 2)) ∨ (g % 2 = 0 ∧ d.get (g / 2) < 0) := by
  unfold outward
  intro h
  split at h <;> omega
theorem level_odd (h : g % 2 = 1) : level s g = s.get (g / 2) := by
  unfold level
  rw [if_pos (by omega)]
theorem level_even (h : g % 2 = 0) : level s g = 0 := by
  unfold level
  rw [if_neg (by omega)]
/-- from the entry of a face to the exit, straight along the way -/
theorem ent_step (W : Wd s p q) (hf : FaceOk f) (hg : FaceOk g) (hh : FaceOk h) (n1 : f / 2 ≠ h / 2) (n2 : f / 2 ≠ g / 2) (hd : d ∈ dirs4 f p q) (ng : g ≠ h) (og : 0 < outward g d) (oh : outward h d < 0)
    (m1 : 2 * mn s f h d < m) (m2 : m < 2 * mx s f h d) (m3 : 2 * mn s f g d < m) (m4 : m < 2 * mx s f g d) :
    ∃ τ, 0 < τ ∧ ent s p q f g (goneOver f g d) (m + 2 * grown s f g d) = T3.add (ent s p q h f d m) (T3.smul τ d) := by
  have z := dirs_zero W hf hd
  have hd' := dirs_over W hf hg n2 hd
  obtain ⟨o1, o2, o3⟩ := ent_on (s := s) (p := p) (q := q) (d := d) (m := m) hf hh n1
  obtain ⟨i1, i2⟩ := ent_in W hf hh n1 hd m1 m2
  obtain ⟨w1, w2, w3⟩ := ent_on (s := s) (p := p) (q := q) (d := goneOver f g d) (m := m + 2 * grown s f g d) hg hf (fun e => n2 e.symm)
  have me := ent_meas (m := m) W hf hh n1 hd
  have me' := ent_meas (m := m + 2 * grown s f g d) W hg hf (fun e => n2 e.symm) hd'
  rw [edge_meas hf hg n2 z w2 w1] at me'
  generalize ent s p q f g (goneOver f g d) (m + 2 * grown s f g d) = X' at *
  generalize ent s p q h f d m = X at *
  obtain ⟨a, b, rfl, ha, hb, cop, hab, _, _⟩ := dirs_ab W hd
  obtain ⟨e1, e2, e3⟩ := ab_unfr (a := a) (b := b) hf
  have k1 : measure f (unfr f a b) X' = measure f (unfr f a b) X := by
    rw [me]
    have : (m + 2 * grown s f g (unfr f a b)) * (p * q) = m * (p * q) + 2 * p * q * grown s f g (unfr f a b) := by grind
    omega
  have k2 : ∀ Y, measure f (unfr f a b) Y = a * cB f Y - b * cA f Y := fun Y => by
    show cA f (unfr f a b) * cB f Y - cB f (unfr f a b) * cA f Y = _
    rw [e1, e2]
  rw [k2, k2] at k1
  obtain ⟨τ, t1, t2⟩ := plane_par (x := cA f X' - cA f X) (y := cB f X' - cB f X) cop ha (by grind)
  have hX : X' = T3.add X (T3.smul τ (unfr f a b)) := by
    refine frame_ext hf ?_ ?_ ?_
    · rw [add_get, e3, o1, w2]; omega
    · show _ = T3.get _ _
      rw [add_get]
      show cA f X' = cA f X + τ * cA f (unfr f a b)
      rw [e1]; omega
    · show _ = T3.get _ _
      rw [add_get]
      show cB f X' = cB f X + τ * cB f (unfr f a b)
      rw [e2]; omega
  refine ⟨τ, ?_, hX⟩
  have hge : X'.get (g / 2) = X.get (g / 2) + τ * (unfr f a b).get (g / 2) := by rw [hX, add_get]
  have pq : 0 < p * q := Int.mul_pos (by have := W.p1; omega) (by have := W.q1; omega)
  have hS : 0 < 2 * p * q * s.get (g / 2) := Int.mul_pos (by grind) (by have := pos_get W.pos (g / 2); omega)
  have hX1 : (g % 2 = 1 → X.get (g / 2) < 2 * p * q * s.get (g / 2)) ∧ (g % 2 = 0 → 0 < X.get (g / 2)) := by
    by_cases hgh : g / 2 = h / 2
    · refine ⟨fun h1 => ?_, fun h1 => ?_⟩
      · rw [hgh, o2, level_even (by unfold FaceOk at *; omega)]
        rw [← hgh]
        omega
      · rw [hgh, o2, level_odd (by unfold FaceOk at *; omega)]
        rw [← hgh]
        omega
    · have : g / 2 = along f h := by unfold FaceOk at *; unfold along; omega
      rw [this]
      exact ⟨fun _ => i2, fun _ => i1⟩
  rw [w1] at hge
  rcases out_pos og with ⟨h1, h2⟩ | ⟨h1, h2⟩
  · have := hX1.1 h1
    rw [level_odd h1] at hge
    have h3 : 0 < τ * (unfr f a b).get (g / 2) := by omega
    refine Classical.byContradiction fun hn => ?_
    have := Int.mul_nonpos_of_nonpos_of_nonneg (show τ ≤ 0 by omega) (Int.le_of_lt h2)
    omega
  · have := hX1.2 h1
    rw [level_even h1] at hge
    have h3 : τ * (unfr f a b).get (g / 2) < 0 := by omega
    refine Classical.byContradiction fun hn => ?_
    have := Int.mul_nonneg_of_nonpos_of_nonpos (show τ ≤ 0 by omega) (Int.le_of_lt h2)
    omega
end
end TP

/-! G8 -/
set_option maxHeartbeats 1000000
set_option linter.unusedVariables false
namespace TP
open PySem PySem.W
/-! ### runs: strips one behind the other -/
structure Run (s : T3) (p q : Int) (F : Nat → Int) (D : Nat → T3) (m : Nat → Int) : Prop where
  face : ∀ i, FaceOk (F i)
  dir : ∀ i, D i ∈ dirs4 (F i) p q
  ne : ∀ i, F i / 2 ≠ F (i + 1) / 2
  out : ∀ i, 0 < outward (F (i + 1)) (D i)
  over : ∀ i, D (i + 1) = goneOver (F i) (F (i + 1)) (D i)
  grow : ∀ i, m (i + 1) = m i + 2 * grown s (F i) (F (i + 1)) (D i)
  lo : ∀ i, 2 * mn s (F i) (F (i + 1)) (D i) < m i
  hi : ∀ i, m i < 2 * mx s (F i) (F (i + 1)) (D i)
/-- a run that closes after n steps -/
structure Closed (F : Nat → Int) (D : Nat → T3) (m : Nat → Int) (n : Nat) : Prop where
  f : ∀ i, F (i + n) = F i
  d : ∀ i, D (i + n) = D i
  m : ∀ i, m (i + n) = m i
section
variable {s : T3} {p q : Int} {F : Nat → Int} {D E : Nat → T3} {m m' : Nat → Int} {n : Nat}
def Xs (s : T3) (p q : Int) (F : Nat → Int) (D : Nat → T3) (m : Nat → Int) (i : Nat) : T3 := ent s p q (F i) (F (i + 1)) (D (i + 1)) (m (i + 1))
theorem Run.shift (R : Run s p q F D m) (k : Nat) : Run s p q (fun i => F (i + k)) (fun i => D (i + k)) (fun i => m (i + k)) := by
  have e : ∀ i, i + 1 + k = i + k + 1 := fun i => by omega
  refine ⟨fun i => R.face _, fun i => R.dir _, fun i => ?_, fun i => ?_, fun i => ?_, fun i => ?_, fun i => ?_, fun i => ?_⟩ <;> (try dsimp only) <;> rw [e]
  · exact R.ne _
  · exact R.out _
  · exact R.over _
  · exact R.grow _
  · exact R.lo _
  · exact R.hi _
theorem Run.word (R : Run s p q F D m) : WordOk F := fun i => ⟨R.face i, R.ne i⟩
theorem Run.back (W : Wd s p q) (R : Run s p q F D m) (i : Nat) : outward (F i) (D (i + 1)) < 0 ∧ F (i + 2) ≠ F i ∧ 2 * mn s (F (i + 1)) (F i) (D (i + 1)) < m (i + 1) ∧ m (i + 1) < 2 * mx s (F (i + 1)) (F i) (D (i + 1)) := by
  have o := R.out i
  have z := dirs_zero W (R.face i) (R.dir i)
  have h1 : outward (F i) (D (i + 1)) < 0 := by
    rw [R.over i, out_over (R.face i) (R.face (i + 1)) (R.ne i)]
    omega
  obtain ⟨m1, m2⟩ := mn_over (s := s) (R.face i) (R.face (i + 1)) (R.ne i) z
  have h2 := R.lo i
  have h3 := R.hi i
  have h4 := R.grow i
  refine ⟨h1, fun e => ?_, ?_, ?_⟩
  · have := R.out (i + 1)
    rw [show F (i + 1 + 1) = F i from e] at this
    omega
  · rw [R.over i, m1]; omega
  · rw [R.over i, m2]; omega
theorem Run.step (W : Wd s p q) (R : Run s p q F D m) (i : Nat) : ∃ τ, 0 < τ ∧ Xs s p q F D m (i + 1) = T3.add (Xs s p q F D m i) (T3.smul τ (D (i + 1))) := by
  obtain ⟨b1, b2, b3, b4⟩ := R.back W i
  unfold Xs
  rw [R.over (i + 1), R.grow (i + 1)]
  exact ent_step W (R.face (i + 1)) (R.face (i + 2)) (R.face i) (fun e => R.ne i e.symm) (R.ne (i + 1)) (R.dir (i + 1)) b2 (R.out (i + 1)) b1 b3 b4 (R.lo (i + 1)) (R.hi (i + 1))
theorem Run.on (R : Run s p q F D m) (i : Nat) : (Xs s p q F D m (i + 1)).get (F (i + 1) / 2) = 2 * p * q * level s (F (i + 1)) ∧ (Xs s p q F D m (i + 1)).get (F (i + 2) / 2) = 2 * p * q * level s (F (i + 2)) := by
  obtain ⟨a, b, _⟩ := ent_on (s := s) (p := p) (q := q) (d := D (i + 2)) (m := m (i + 2)) (R.face (i + 2)) (R.face (i + 1)) (fun e => R.ne (i + 1) e.symm)
  exact ⟨b, a⟩
theorem Run.tr (R : Run s p q F D m) : ∀ i, tr F (D 0) i = D i
  | 0 => rfl
  | i + 1 => by
    show goneOver _ _ _ = _
    rw [R.tr i, R.over i]
theorem Run.ts (R : Run s p q F D m) : ∀ i, m i = m 0 + 2 * Ts s F (D 0) i
  | 0 => by show _ = _ + 2 * 0; omega
  | i + 1 => by
    show _ = _ + 2 * (Ts s F (D 0) i + grown s _ _ (TP.tr F (D 0) i))
    rw [R.tr i, R.grow i, R.ts i]
    omega
/-- the lengths of the passes of a run, as steps of the way in parts of 1 / (2 p q) -/
def Taus (s : T3) (p q : Int) (F : Nat → Int) (D : Nat → T3) (m : Nat → Int) (τ : Nat → Int) : Prop := ∀ i, 0 < τ i ∧ Xs s p q F D m (i + 1) = T3.add (Xs s p q F D m i) (T3.smul (τ i) (D (i + 1)))
theorem Run.taus (W : Wd s p q) (R : Run s p q F D m) : ∃ τ, Taus s p q F D m τ := ⟨fun i => (R.step W i).choose, fun i => (R.step W i).choose_spec⟩
theorem sum_pos {τ : Nat → Int} (h : ∀ i, 0 < τ i) : ∀ n, 0 ≤ sumN τ n ∧ (0 < n → 0 < sumN τ n)
  | 0 => ⟨Int.le_refl _, fun h => absurd h (by omega)⟩
  | n + 1 => by
    have := (sum_pos h n).1
    have := h n
    show 0 ≤ sumN τ n + τ n ∧ (_ → 0 < sumN τ n + τ n)
    omega
/-- the length of a closed run is whole, and what its row of faces says of it -/
theorem run_len (W : Wd s p q) (R : Run s p q F D m) (C : Closed F D m n) (n0 : 0 < n) {τ : Nat → Int} (T : Taus s p q F D m τ) :
    ∃ L, 0 < L ∧ sumN τ n = 2 * p * q * L ∧ ∀ x y, Ts s (fun i => F (i + 1)) (unfr (F 1) x y) n = L * measure (F 1) (D 1) (unfr (F 1) x y) := by
  have R1 := R.shift 1
  have hF := R1.word
  have f1 := R.face 1
  obtain ⟨a, b, hd, ha, hb, cop, _⟩ := dirs_ab W (R.dir 1)
  have z1 := dirs_zero W (R.face 1) (R.dir 1)
  have cF : F (n + 1) = F 1 := by rw [Nat.add_comm]; exact C.f 1
  have cD : D (n + 1) = D 1 := by rw [Nat.add_comm]; exact C.d 1
  have cm : m (n + 1) = m 1 := by rw [Nat.add_comm]; exact C.m 1
  have cX : Xs s p q F D m n = Xs s p q F D m 0 := by
    have h1 := C.f 0
    rw [Nat.zero_add] at h1
    unfold Xs
    rw [cF, cD, cm, h1]
  have ct := R1.tr n
  rw [Nat.zero_add, cD, hd] at ct
  have cl : ∀ x y, TP.tr (fun i => F (i + 1)) (unfr (F 1) x y) n = unfr (F 1) x y := tr_closed hF rfl cF ha ct
  have key : ∀ x y, 2 * p * q * Ts s (fun i => F (i + 1)) (unfr (F 1) x y) n = sumN τ n * measure (F 1) (D 1) (unfr (F 1) x y) := fun x y =>
    path_closed (c := 2 * p * q) (X := Xs s p q F D m) (d := D 1) hF (ab_unfr f1).2.2 z1 (fun i => by rw [R1.tr i]; exact (T i).2) (fun i => R.on i) cF cX (cl x y)
  have hdv : 2 * p * q ∣ sumN τ n := by
    refine gcd_dvd cop ?_ ?_
    · refine ⟨Ts s (fun i => F (i + 1)) (unfr (F 1) 0 1) n, ?_⟩
      rw [key, hd, meas_unfr f1]
      grind
    · refine ⟨-(Ts s (fun i => F (i + 1)) (unfr (F 1) 1 0) n), ?_⟩
      have := key 1 0
      rw [hd, meas_unfr f1] at this
      grind
  obtain ⟨L, hL⟩ := hdv
  have pq : 0 < 2 * p * q := Int.mul_pos (Int.mul_pos (by decide) (by have := W.p1; omega)) (by have := W.q1; omega)
  have sp := (sum_pos (fun i => (T i).1) n).2 n0
  refine ⟨L, ?_, hL, fun x y => ?_⟩
  · refine Classical.byContradiction fun hn => ?_
    have := Int.mul_nonpos_of_nonneg_of_nonpos (Int.le_of_lt pq) (show L ≤ 0 by omega)
    omega
  · refine Int.eq_of_mul_eq_mul_left (Int.ne_of_gt pq) ?_
    rw [key, hL]
    grind
/-- runs with the same faces and ways are of one length -/
theorem run_len_one (W : Wd s p q) (R : Run s p q F D m) (C : Closed F D m n) (R' : Run s p q F D m') (C' : Closed F D m' n) (n0 : 0 < n) {τ τ' : Nat → Int} (T : Taus s p q F D m τ) (T' : Taus s p q F D m' τ') : sumN τ n = sumN τ' n := by
  obtain ⟨L, _, h1, h2⟩ := run_len W R C n0 T
  obtain ⟨L', _, h1', h2'⟩ := run_len W R' C' n0 T'
  obtain ⟨a, b, hd, ha, hb, cop, _⟩ := dirs_ab W (R.dir 1)
  have e := h2 0 1
  rw [h2', hd, meas_unfr (R.face 1)] at e
  have : L' = L := Int.eq_of_mul_eq_mul_right ha (by grind)
  rw [h1, h1', this]
theorem dirs_four (W : Wd s p q) {f : Int} {d e : T3} (hf : FaceOk f) (h : d ∈ dirs4 f p q) (h' : e ∈ dirs4 f p q) (k : measure f d e = 0) : e = d ∨ e = T3.neg d := by
  have p1 := W.p1
  have q1 := W.q1
  have pp : 0 < p * p := Int.mul_pos (by omega) (by omega)
  have qq : 0 < q * q := Int.mul_pos (by omega) (by omega)
  unfold dirs4 at h h'
  simp only [List.mem_cons, List.not_mem_nil, or_false] at h h'
  rcases h with rfl | rfl | rfl | rfl <;> rcases h' with rfl | rfl | rfl | rfl <;> rw [meas_unfr hf] at k <;> rw [neg_unfr hf] <;> (try simp only [Int.neg_neg]) <;> first | exact .inl rfl | exact .inr rfl | (exact .inl trivial) | (exact .inr trivial) | (exfalso; grind)
/-- the row of faces tells the way -/
theorem run_dir (W : Wd s p q) (R : Run s p q F D m) (C : Closed F D m n) (R' : Run s p q F E m') (C' : Closed F E m' n) (n0 : 0 < n) : D 1 = E 1 := by
  obtain ⟨τ, T⟩ := R.taus W
  obtain ⟨L, L0, h1, h2⟩ := run_len W R C n0 T
  have z := unfr_of (R.face 1) (dirs_zero W (R.face 1) (R'.dir 1))
  have e := h2 (cA (F 1) (E 1)) (cB (F 1) (E 1))
  rw [← z] at e
  have ts := (R'.shift 1).ts n
  rw [Nat.zero_add, show n + 1 = 1 + n by omega, C'.m 1] at ts
  have t0 : Ts s (fun i => F (i + 1)) (E 1) n = 0 := by omega
  rw [t0] at e
  have k : measure (F 1) (D 1) (E 1) = 0 := by
    rcases Int.mul_eq_zero.mp e.symm with h | h
    · omega
    · exact h
  rcases dirs_four W (R.face 1) (R.dir 1) (R'.dir 1) k with h | h
  · exact h.symm
  · have o1 := R.out 1
    have o2 := R'.out 1
    rw [h, out_neg] at o2
    omega
end
end TP

/-! G9 -/
set_option maxHeartbeats 1000000
set_option linter.unusedVariables false
set_option linter.unusedSectionVars false
namespace TP
open PySem PySem.W
/-! ### orders -/
class Lin (α : Type) [DecidableEq α] [DatumOrd α] : Prop where
  irr : ∀ a : α, DatumOrd.lt a a = false
  tr : ∀ a b c : α, DatumOrd.lt a b = true → DatumOrd.lt b c = true → DatumOrd.lt a c = true
  tot : ∀ a b : α, DatumOrd.lt a b = false → DatumOrd.lt b a = false → a = b
instance : Lin Int where
  irr a := by show decide (a < a) = false; simp
  tr a b c h1 h2 := by
    have h1 : a < b := of_decide_eq_true h1
    have h2 : b < c := of_decide_eq_true h2
    exact decide_eq_true (by omega)
  tot a b h1 h2 := by
    have h1 : ¬ a < b := of_decide_eq_false h1
    have h2 : ¬ b < a := of_decide_eq_false h2
    omega
section
variable {α β γ δ : Type} [DecidableEq α] [DatumOrd α] [Lin α] [DecidableEq β] [DatumOrd β] [Lin β] [DecidableEq γ] [DatumOrd γ] [Lin γ] [DecidableEq δ] [DatumOrd δ] [Lin δ]
theorem listLt_irr : ∀ a : List α, listLt a a = false
  | [] => rfl
  | x :: xs => by unfold listLt; rw [if_pos rfl, listLt_irr xs]
theorem listLt_tr : ∀ a b c : List α, listLt a b = true → listLt b c = true → listLt a c = true
  | [], [], _, h, _ => by cases h
  | [], _ :: _, [], _, h => by cases h
  | [], _ :: _, _ :: _, _, _ => rfl
  | _ :: _, [], _, h, _ => by cases h
  | _ :: _, _ :: _, [], _, h => by cases h
  | x :: xs, y :: ys, z :: zs, h1, h2 => by
    unfold listLt at h1 h2 ⊢
    by_cases e1 : x = y
    · rw [if_pos e1] at h1
      by_cases e2 : y = z
      · rw [if_pos e2] at h2
        rw [if_pos (e1.trans e2)]
        exact listLt_tr xs ys zs h1 h2
      · rw [if_neg e2] at h2
        rw [if_neg (by rw [e1]; exact e2), e1]
        exact h2
    · rw [if_neg e1] at h1
      by_cases e2 : y = z
      · rw [if_neg (by rw [← e2]; exact e1), ← e2]
        exact h1
      · rw [if_neg e2] at h2
        have h3 := Lin.tr _ _ _ h1 h2
        rw [if_neg (fun e => by rw [e, Lin.irr] at h3; cases h3)]
        exact h3
theorem listLt_tot : ∀ a b : List α, listLt a b = false → listLt b a = false → a = b
  | [], [], _, _ => rfl
  | [], _ :: _, h, _ => by cases h
  | _ :: _, [], _, h => by cases h
  | x :: xs, y :: ys, h1, h2 => by
    unfold listLt at h1 h2
    by_cases e : x = y
    · rw [if_pos e] at h1
      rw [if_pos e.symm] at h2
      rw [e, listLt_tot xs ys h1 h2]
    · rw [if_neg e] at h1
      rw [if_neg (fun z => e z.symm)] at h2
      exact (e (Lin.tot _ _ h1 h2)).elim
instance : Lin (List α) where
  irr := listLt_irr
  tr := listLt_tr
  tot := listLt_tot
instance : Lin (Tup α) where
  irr a := listLt_irr a.items
  tr a b c := listLt_tr a.items b.items c.items
  tot a b h1 h2 := by
    obtain ⟨a⟩ := a
    obtain ⟨b⟩ := b
    rw [show a = b from listLt_tot a b h1 h2]
instance : Lin (α × β) where
  irr a := by show (if a.1 = a.1 then DatumOrd.lt a.2 a.2 else _) = false; rw [if_pos rfl, Lin.irr]
  tr a b c h1 h2 := by
    change (if a.1 = b.1 then DatumOrd.lt a.2 b.2 else DatumOrd.lt a.1 b.1) = true at h1
    change (if b.1 = c.1 then DatumOrd.lt b.2 c.2 else DatumOrd.lt b.1 c.1) = true at h2
    show (if a.1 = c.1 then DatumOrd.lt a.2 c.2 else DatumOrd.lt a.1 c.1) = true
    by_cases e1 : a.1 = b.1
    · rw [if_pos e1] at h1
      by_cases e2 : b.1 = c.1
      · rw [if_pos e2] at h2
        rw [if_pos (e1.trans e2)]
        exact Lin.tr _ _ _ h1 h2
      · rw [if_neg e2] at h2
        rw [if_neg (by rw [e1]; exact e2), e1]
        exact h2
    · rw [if_neg e1] at h1
      by_cases e2 : b.1 = c.1
      · rw [if_neg (by rw [← e2]; exact e1), ← e2]
        exact h1
      · rw [if_neg e2] at h2
        have h3 := Lin.tr _ _ _ h1 h2
        rw [if_neg (fun e => by rw [e, Lin.irr] at h3; cases h3)]
        exact h3
  tot a b h1 h2 := by
    change (if a.1 = b.1 then DatumOrd.lt a.2 b.2 else DatumOrd.lt a.1 b.1) = false at h1
    change (if b.1 = a.1 then DatumOrd.lt b.2 a.2 else DatumOrd.lt b.1 a.1) = false at h2
    by_cases e : a.1 = b.1
    · rw [if_pos e] at h1
      rw [if_pos e.symm] at h2
      exact Prod.ext e (Lin.tot _ _ h1 h2)
    · rw [if_neg e] at h1
      rw [if_neg (fun z => e z.symm)] at h2
      exact (e (Lin.tot _ _ h1 h2)).elim
/-- a tuple of four, as nested pairs -/
def n4 (r : T4 α β γ δ) : α × β × γ × δ := (r.a, r.b, r.c, r.d)
theorem n4_lt (r t : T4 α β γ δ) : DatumOrd.lt r t = DatumOrd.lt (n4 r) (n4 t) := rfl
instance : Lin (T4 α β γ δ) where
  irr a := Lin.irr (n4 a)
  tr a b c := Lin.tr (n4 a) (n4 b) (n4 c)
  tot a b h1 h2 := by
    have := Lin.tot (n4 a) (n4 b) h1 h2
    obtain ⟨a1, a2, a3, a4⟩ := a
    obtain ⟨b1, b2, b3, b4⟩ := b
    unfold n4 at this
    simp only [Prod.mk.injEq] at this
    obtain ⟨rfl, rfl, rfl, rfl⟩ := this
    rfl
/-- a ≤ b ≤ c -/
theorem nlt_tr {a b c : α} (h1 : DatumOrd.lt b a = false) (h2 : DatumOrd.lt c b = false) : DatumOrd.lt c a = false := by
  cases e : DatumOrd.lt c a with
  | false => rfl
  | true =>
    cases e2 : DatumOrd.lt a b with
    | true => rw [Lin.tr _ _ _ e e2] at h2; cases h2
    | false => rw [Lin.tot _ _ e2 h1, h2] at e; cases e
theorem lt_not {a b : α} (h : DatumOrd.lt a b = true) : DatumOrd.lt b a = false := by
  cases e : DatumOrd.lt b a with
  | false => rfl
  | true => have := Lin.tr _ _ _ h e; rw [Lin.irr] at this; cases this
def IsMin (m : α) (l : List α) : Prop := m ∈ l ∧ ∀ y ∈ l, DatumOrd.lt y m = false
theorem isMin_one {m m' : α} {l l' : List α} (h : IsMin m l) (h' : IsMin m' l') (e : ∀ x, x ∈ l ↔ x ∈ l') : m = m' :=
  Lin.tot _ _ (h'.2 _ ((e _).mp h.1)) (h.2 _ ((e _).mpr h'.1))
theorem minOf_isMin : ∀ (x : α) (xs : List α), IsMin (minOf x xs) (x :: xs) := by
  intro x xs
  refine ⟨?_, ?_⟩
  · rcases minOf_mem x xs with h | h
    · rw [h]; exact List.mem_cons_self
    · exact List.mem_cons_of_mem _ h
  · induction xs generalizing x with
    | nil =>
      intro y hy
      simp only [List.mem_cons, List.not_mem_nil, or_false] at hy
      rw [hy]
      exact Lin.irr _
    | cons z zs ih =>
      intro y hy
      have e : minOf x (z :: zs) = minOf (if DatumOrd.lt z x = true then z else x) zs := rfl
      rw [e]
      have h1 := ih (if DatumOrd.lt z x = true then z else x)
      have h0 := h1 _ List.mem_cons_self
      have hx : DatumOrd.lt x (if DatumOrd.lt z x = true then z else x) = false ∧ DatumOrd.lt z (if DatumOrd.lt z x = true then z else x) = false := by
        split
        · rename_i h
          exact ⟨lt_not h, Lin.irr _⟩
        · rename_i h
          exact ⟨Lin.irr _, by simpa using h⟩
      rcases List.mem_cons.mp hy with rfl | hy
      · exact nlt_tr h0 hx.1
      · rcases List.mem_cons.mp hy with rfl | hy
        · exact nlt_tr h0 hx.2
        · exact h1 y (List.mem_cons_of_mem _ hy)
end
/-! ### rows read round -/
section
variable {α : Type}
theorem rot_len {L : List α} {k : Nat} : (rotL L k).length = L.length := by
  unfold rotL
  rw [List.length_append, List.length_drop, List.length_take]
  omega
theorem rotL_get {L : List α} {k j : Nat} (hk : k ≤ L.length) (hj : j < L.length) : (rotL L k)[j]? = L[(k + j) % L.length]? := by
  unfold rotL
  by_cases h : j < L.length - k
  · rw [List.getElem?_append_left (by rw [List.length_drop]; exact h), List.getElem?_drop, Nat.mod_eq_of_lt (by omega)]
  · rw [List.getElem?_append_right (by rw [List.length_drop]; omega), List.length_drop, List.getElem?_take_of_lt (by omega)]
    congr 1
    rw [Nat.mod_eq_sub_mod (by omega), Nat.mod_eq_of_lt (by omega)]
    omega
theorem list_ext {L M : List α} (h : L.length = M.length) (k : ∀ i, i < L.length → L[i]? = M[i]?) : L = M := by
  refine List.ext_getElem? fun i => ?_
  by_cases hi : i < L.length
  · exact k i hi
  · rw [List.getElem?_eq_none_iff.mpr (by omega), List.getElem?_eq_none_iff.mpr (by omega)]
theorem rotL_rotL {L : List α} {i j : Nat} (hi : i < L.length) (hj : j < L.length) : rotL (rotL L i) j = rotL L ((i + j) % L.length) := by
  have hm := Nat.mod_lt (i + j) (show 0 < L.length by omega)
  refine list_ext (by rw [rot_len, rot_len, rot_len]) fun k hk => ?_
  rw [rot_len, rot_len] at hk
  rw [rotL_get (by rw [rot_len]; omega) (by rw [rot_len]; exact hk), rot_len, rotL_get (by omega) (Nat.mod_lt _ (by omega)), rotL_get (by omega) hk]
  congr 1
  rw [Nat.add_mod_mod, Nat.mod_add_mod]
  congr 1
  omega
theorem rot_map {β : Type} {f : α → β} {L : List α} {k : Nat} : rotL (L.map f) k = (rotL L k).map f := by
  unfold rotL
  rw [List.map_append, List.map_drop, List.map_take]
theorem rotL_0 {L : List α} : rotL L 0 = L := by simp [rotL]
end
section
variable {L : List Int}
theorem mem_rots {M : Tup Int} : M ∈ rotsOf L ↔ ∃ i, i < L.length ∧ M = ⟨rotL L i⟩ := by
  unfold rotsOf
  rw [List.mem_map]
  constructor
  · rintro ⟨i, hi, rfl⟩
    exact ⟨i, List.mem_range.mp hi, rfl⟩
  · rintro ⟨i, hi, rfl⟩
    exact ⟨i, List.mem_range.mpr hi, rfl⟩
theorem least_min (n0 : 0 < L.length) : IsMin (Tup.mk (leastBegun L)) (rotsOf L) := by
  obtain ⟨x, xs, ex⟩ := rots_cons n0
  unfold leastBegun
  rw [ex]
  exact minOf_isMin x xs
theorem least_rot (n0 : 0 < L.length) : ∃ i, i < L.length ∧ leastBegun L = rotL L i := by
  obtain ⟨i, hi, e⟩ := mem_rots.mp (least_min n0).1
  exact ⟨i, hi, congrArg Tup.items e⟩
theorem least_len (n0 : 0 < L.length) : (leastBegun L).length = L.length := by
  obtain ⟨i, _, e⟩ := least_rot n0
  rw [e, rot_len]
theorem rots_rot {i : Nat} (hi : i < L.length) (M : Tup Int) : M ∈ rotsOf (rotL L i) ↔ M ∈ rotsOf L := by
  rw [mem_rots, mem_rots, rot_len]
  constructor
  · rintro ⟨j, hj, rfl⟩
    exact ⟨(i + j) % L.length, Nat.mod_lt _ (by omega), by rw [rotL_rotL hi hj]⟩
  · rintro ⟨j, hj, rfl⟩
    refine ⟨(j + (L.length - i)) % L.length, Nat.mod_lt _ (by omega), ?_⟩
    rw [rotL_rotL hi (Nat.mod_lt _ (by omega)), Nat.add_mod_mod, show i + (j + (L.length - i)) = j + L.length by omega, Nat.add_mod_right, Nat.mod_eq_of_lt hj]
theorem least_rotL {i : Nat} (hi : i < L.length) : leastBegun (rotL L i) = leastBegun L :=
  congrArg Tup.items (isMin_one (least_min (by rw [rot_len]; omega)) (least_min (by omega)) (rots_rot hi))
theorem bestT_min : ∀ i, ∀ j, j ≤ i → DatumOrd.lt (rotL L j) (rotL L (bestT L i)) = false
  | 0, j, hj => by rw [show j = 0 by omega]; exact Lin.irr _
  | i + 1, j, hj => by
    unfold bestT
    split
    · rename_i h
      by_cases e : j = i + 1
      · rw [e]; exact Lin.irr _
      · exact nlt_tr (lt_not h) (bestT_min i j (by omega))
    · rename_i h
      by_cases e : j = i + 1
      · rw [e]; simpa using h
      · exact bestT_min i j (by omega)
theorem leastTurn_lt (n0 : 0 < L.length) : leastTurn L < L.length := by
  have := bestT_le L (L.length - 1)
  unfold leastTurn
  omega
theorem leastTurn_eq (n0 : 0 < L.length) : rotL L (leastTurn L) = leastBegun L := by
  have h : IsMin (Tup.mk (rotL L (leastTurn L))) (rotsOf L) := by
    refine ⟨mem_rots.mpr ⟨_, leastTurn_lt n0, rfl⟩, fun y hy => ?_⟩
    obtain ⟨j, hj, rfl⟩ := mem_rots.mp hy
    exact bestT_min (L.length - 1) j (by omega)
  exact congrArg Tup.items (isMin_one h (least_min n0) fun _ => Iff.rfl)
/-- two rows have one least beginning just if one is the other turned -/
theorem least_iff {M : List Int} (n0 : 0 < L.length) (m0 : 0 < M.length) : leastBegun L = leastBegun M ↔ ∃ i, i < L.length ∧ M = rotL L i := by
  constructor
  · intro e
    obtain ⟨i, hi, e1⟩ := least_rot n0
    obtain ⟨j, hj, e2⟩ := least_rot m0
    have hl : L.length = M.length := by rw [← least_len n0, e, least_len m0]
    rw [e1, e2] at e
    refine ⟨(i + (M.length - j)) % L.length, Nat.mod_lt _ n0, ?_⟩
    have h := rotL_rotL (L := L) hi (Nat.mod_lt (M.length - j) n0)
    rw [e, rotL_rotL hj (by rw [← hl]; exact Nat.mod_lt _ n0), hl, Nat.add_mod_mod, show j + (M.length - j) = M.length by omega, Nat.mod_self, rotL_0, Nat.add_mod_mod, ← hl] at h
    rw [← hl]
    exact h
  · rintro ⟨i, hi, rfl⟩
    exact (least_rotL hi).symm
end
end TP

/-! G10 -/
set_option maxHeartbeats 1000000
set_option linter.unusedVariables false
set_option linter.unusedSectionVars false
namespace TP
open PySem PySem.W
/-! ### the row of a unit, its class, its lane -/
abbrev uF (s : T3) (x : Un) (i : Nat) : Int := (nxi s i x).f
abbrev uD (s : T3) (x : Un) (i : Nat) : T3 := (nxi s i x).d
abbrev uU (s : T3) (x : Un) (i : Nat) : Int := (nxi s i x).u
noncomputable def perU (s : T3) (x : Un) : Nat := by
  classical exact if h : ∃ n, Per (nx s) x n then h.choose else 1
def sh (x : Un) (ε : Int) : Un := ⟨x.f, x.d, x.u + ε⟩
def fit (s : T3) (x : Un) (ε : Int) : Prop := ∀ i, mn s (uF s x i) (uF s x (i + 1)) (uD s x i) ≤ uU s x i + ε ∧ uU s x i + ε + 1 ≤ mx s (uF s x i) (uF s x (i + 1)) (uD s x i)
noncomputable def wd (s : T3) (x : Un) : List Int := (List.range (perU s x)).map (uF s x)
noncomputable def cls (s : T3) (x : Un) : List Int := leastBegun (wd s x)
section
variable {s : T3} {p q : Int} {x y z : Un} {n : Nat} {ε : Int}
theorem perU_ok (W : Wd s p q) (h : InU s p q x) : Per (nx s) x (perU s x) := by
  have k := U_per W h
  unfold perU
  rw [dif_pos k]
  exact k.choose_spec
theorem perU_is (W : Wd s p q) (h : InU s p q x) (k : Per (nx s) x n) : perU s x = n := per_one (perU_ok W h) k
theorem perU_nxi (W : Wd s p q) (h : InU s p q x) (i : Nat) : perU s (nxi s i x) = perU s x := perU_is W (nxi_in W h i) (per_it (U_cl W) (U_inj W) h (perU_ok W h) i)
theorem nxi_per (W : Wd s p q) (h : InU s p q x) (i : Nat) : nxi s (i + perU s x) x = nxi s i x := by
  show it _ _ _ = it _ _ _
  rw [it_add, (perU_ok W h).2.1]
theorem nxi_nxi (i j : Nat) : nxi s i (nxi s j x) = nxi s (i + j) x := (it_add i j x).symm
/-- what a unit's step is -/
theorem unit_step (W : Wd s p q) (h : InU s p q x) (i : Nat) : Goes s (nxi s i x) (uF s x (i + 1)) ∧ nxi s (i + 1) x = go s (nxi s i x) (uF s x (i + 1)) := by
  have hi := nxi_in W h i
  obtain ⟨g, hg⟩ := hi.2.2
  have e : nxi s (i + 1) x = go s (nxi s i x) g := nx_of W hi hg
  have e2 : uF s x (i + 1) = g := by show (nxi s (i + 1) x).f = g; rw [e]; rfl
  rw [e2]
  exact ⟨hg, e⟩
theorem unit_run (W : Wd s p q) (h : InU s p q x) : Run s p q (uF s x) (uD s x) (fun i => 2 * uU s x i + 1) := by
  have st := unit_step W h
  refine ⟨fun i => (nxi_in W h i).1, fun i => (nxi_in W h i).2.1, fun i e => (st i).1.2.1 e.symm, fun i => (st i).1.2.2.1, fun i => ?_, fun i => ?_, fun i => ?_, fun i => ?_⟩
  · show (nxi s (i + 1) x).d = _
    rw [(st i).2]
    rfl
  · show 2 * (nxi s (i + 1) x).u + 1 = _
    rw [(st i).2]
    show 2 * ((nxi s i x).u + grown s (nxi s i x).f (uF s x (i + 1)) (nxi s i x).d) + 1 = 2 * (nxi s i x).u + 1 + 2 * grown s (nxi s i x).f (uF s x (i + 1)) (nxi s i x).d
    omega
  · have h1 : mn s (uF s x i) (uF s x (i + 1)) (uD s x i) ≤ uU s x i := (st i).1.2.2.2.1
    omega
  · have h1 : uU s x i + 1 ≤ mx s (uF s x i) (uF s x (i + 1)) (uD s x i) := (st i).1.2.2.2.2
    omega
theorem unit_closed (h : nxi s n x = x) {m : Nat → Int} {δ : Int} (hm : ∀ i, m i = 2 * uU s x i + δ) : Closed (uF s x) (uD s x) m n := by
  have e : ∀ i, nxi s (i + n) x = nxi s i x := fun i => by rw [← nxi_nxi, h]
  refine ⟨fun i => ?_, fun i => ?_, fun i => ?_⟩
  · show (nxi s (i + n) x).f = _; rw [e]
  · show (nxi s (i + n) x).d = _; rw [e]
  · rw [hm, hm]; show 2 * (nxi s (i + n) x).u + _ = _; rw [e]
theorem fit_0 (W : Wd s p q) (h : InU s p q x) : fit s x 0 := fun i => by
  obtain ⟨_, _, _, a, b⟩ := (unit_step W h i).1
  change mn s (uF s x i) (uF s x (i + 1)) (uD s x i) ≤ uU s x i at a
  change uU s x i + 1 ≤ mx s (uF s x i) (uF s x (i + 1)) (uD s x i) at b
  exact ⟨by omega, by omega⟩
theorem fit_nxi (h : fit s x ε) (k : Nat) : fit s (nxi s k x) ε := fun i => by
  have := h (i + k)
  unfold uF uD uU at this ⊢
  rw [nxi_nxi, nxi_nxi, show i + 1 + k = i + k + 1 by omega]
  exact this
theorem fit_back (W : Wd s p q) (hx : InU s p q x) {k : Nat} (h : fit s (nxi s k x) ε) : fit s x ε := by
  have hp := perU_ok W hx
  have n0 := hp.1
  have := fit_nxi h (perU s x * k - k)
  rw [nxi_nxi, Nat.sub_add_cancel (Nat.le_mul_of_pos_left k n0)] at this
  have e : nxi s (perU s x * k) x = x := it_mul hp.2.1 k
  rw [e] at this
  exact this
theorem fit_go (W : Wd s p q) (h : InU s p q x) (hf : fit s x ε) : InU s p q (sh x ε) ∧ nx s (sh x ε) = sh (nx s x) ε := by
  obtain ⟨⟨a1, a2, a3, a4, a5⟩, e⟩ := unit_step W h 0
  have f0 := hf 0
  have hg : Goes s (sh x ε) (uF s x 1) := ⟨a1, a2, a3, f0.1, f0.2⟩
  have hi : InU s p q (sh x ε) := ⟨h.1, h.2.1, _, hg⟩
  refine ⟨hi, ?_⟩
  have e1 : nx s x = go s x (uF s x 1) := e
  rw [nx_of W hi hg, e1]
  unfold go sh
  dsimp only
  congr 1
  omega
theorem fit_all (W : Wd s p q) (h : InU s p q x) (hf : fit s x ε) : ∀ i, nxi s i (sh x ε) = sh (nxi s i x) ε
  | 0 => rfl
  | i + 1 => by
    show nx s (nxi s i (sh x ε)) = sh (nx s (nxi s i x)) ε
    rw [fit_all W h hf i]
    exact (fit_go W (nxi_in W h i) (fit_nxi hf i)).2
theorem fit_per (W : Wd s p q) (h : InU s p q x) (hf : fit s x ε) : perU s (sh x ε) = perU s x := by
  obtain ⟨a1, a2, a3⟩ := perU_ok W h
  have hi := (fit_go W h hf).1
  have al : ∀ i, it (nx s) i (sh x ε) = sh (it (nx s) i x) ε := fit_all W h hf
  refine perU_is W hi ⟨a1, by rw [al, a2], fun m m0 mn e => a3 m m0 mn ?_⟩
  rw [al] at e
  unfold sh at e
  injection e with e1 e2 e3
  obtain ⟨f1, d1, u1⟩ := x
  generalize it (nx s) m _ = y at *
  obtain ⟨f2, d2, u2⟩ := y
  dsimp only at e1 e2 e3
  rw [e1, e2, show u2 = u1 by omega]
theorem same_dir (W : Wd s p q) (hx : InU s p q x) (hy : InU s p q y) (e : ∀ i, uF s x i = uF s y i) : x.d = y.d := by
  obtain ⟨a1, a2, _⟩ := perU_ok W hx
  obtain ⟨b1, b2, _⟩ := perU_ok W hy
  have N0 : 0 < perU s x * perU s y := Nat.mul_pos a1 b1
  have ex : nxi s (perU s x * perU s y) x = x := it_mul a2 _
  have ey : nxi s (perU s x * perU s y) y = y := by rw [Nat.mul_comm]; exact it_mul b2 _
  generalize perU s x * perU s y = N at *
  have k : ∀ {w : Un}, nxi s N w = w → nxi s 1 (nxi s (N - 1) w) = w ∧ nxi s N (nxi s (N - 1) w) = nxi s (N - 1) w := fun {w} hw => by
    refine ⟨?_, ?_⟩
    · rw [nxi_nxi, show 1 + (N - 1) = N by omega, hw]
    · rw [nxi_nxi, Nat.add_comm, ← nxi_nxi, hw]
  have R := unit_run W (nxi_in W hx (N - 1))
  have R' := unit_run W (nxi_in W hy (N - 1))
  have C := unit_closed (δ := 1) (k ex).2 fun i => rfl
  have C' := unit_closed (δ := 1) (k ey).2 fun i => rfl
  have eF : uF s (nxi s (N - 1) x) = uF s (nxi s (N - 1) y) := funext fun i => by
    have := e (i + (N - 1))
    unfold uF at this ⊢
    rw [nxi_nxi, nxi_nxi]
    exact this
  rw [← eF] at R' C'
  have := run_dir W R C R' C' N0
  unfold uD at this
  rw [(k ex).1, (k ey).1] at this
  exact this
theorem same_fit (W : Wd s p q) (hx : InU s p q x) (hy : InU s p q y) (e : ∀ i, uF s x i = uF s y i) : fit s x (y.u - x.u) ∧ y = sh x (y.u - x.u) := by
  have hd := same_dir W hx hy e
  have key : ∀ i, uD s y i = uD s x i ∧ uU s y i = uU s x i + (y.u - x.u) := fun i => by
    induction i with
    | zero => exact ⟨hd.symm, by show y.u = x.u + _; omega⟩
    | succ i ih =>
      obtain ⟨k1, k2⟩ := ih
      have a := (unit_step W hx i).2
      have b := (unit_step W hy i).2
      rw [← e (i + 1)] at b
      have ei : (nxi s i y).f = (nxi s i x).f := (e i).symm
      change (nxi s i y).d = (nxi s i x).d at k1
      change (nxi s i y).u = (nxi s i x).u + _ at k2
      show (nxi s (i + 1) y).d = (nxi s (i + 1) x).d ∧ (nxi s (i + 1) y).u = (nxi s (i + 1) x).u + _
      rw [a, b]
      unfold go
      dsimp only
      rw [ei, k1, k2]
      exact ⟨rfl, by omega⟩
  refine ⟨fun i => ?_, ?_⟩
  · obtain ⟨_, _, _, a, b⟩ := (unit_step W hy i).1
    change mn s (uF s y i) (uF s y (i + 1)) (uD s y i) ≤ uU s y i at a
    change uU s y i + 1 ≤ mx s (uF s y i) (uF s y (i + 1)) (uD s y i) at b
    rw [← e i, ← e (i + 1), (key i).1, (key i).2] at a b
    exact ⟨a, b⟩
  · obtain ⟨f1, d1, u1⟩ := x
    obtain ⟨f2, d2, u2⟩ := y
    have ef : f1 = f2 := e 0
    have hd : d1 = d2 := hd
    unfold sh
    dsimp only
    rw [ef, hd, show u1 + (u2 - u1) = u2 by omega]
theorem wd_len : (wd s x).length = perU s x := by unfold wd; rw [List.length_map, List.length_range]
theorem wd_get {i : Nat} (hi : i < perU s x) : (wd s x)[i]? = some (uF s x i) := by
  unfold wd
  rw [List.getElem?_map, List.getElem?_range hi]
  rfl
theorem wd_same (W : Wd s p q) (hx : InU s p q x) (hy : InU s p q y) (e : wd s x = wd s y) : ∀ i, uF s x i = uF s y i := by
  have hl : perU s x = perU s y := by rw [← wd_len (x := x), e, wd_len]
  have a2 := (perU_ok W hx).2.1
  have b2 := (perU_ok W hy).2.1
  have n0 := (perU_ok W hx).1
  intro i
  have hm := Nat.mod_lt i n0
  have h1 := wd_get (s := s) hm
  rw [e, wd_get (by rw [← hl]; exact hm)] at h1
  have h1 := Option.some.inj h1
  unfold uF at h1 ⊢
  have c1 : nxi s (i % perU s x) x = nxi s i x := it_mod a2 i
  have c2 : nxi s (i % perU s x) y = nxi s i y := by rw [hl]; exact it_mod b2 i
  rw [c1, c2] at h1
  exact h1.symm
theorem wd_nxi (W : Wd s p q) (hx : InU s p q x) {i : Nat} (hi : i < perU s x) : wd s (nxi s i x) = rotL (wd s x) i := by
  refine list_ext (by rw [rot_len, wd_len, wd_len, perU_nxi W hx]) fun j hj => ?_
  rw [wd_len, perU_nxi W hx] at hj
  rw [wd_get (by rw [perU_nxi W hx]; exact hj), rotL_get (by rw [wd_len]; omega) (by rw [wd_len]; exact hj), wd_len, wd_get (Nat.mod_lt _ (by omega))]
  unfold uF
  have c1 : nxi s ((i + j) % perU s x) x = nxi s (i + j) x := it_mod (perU_ok W hx).2.1 _
  rw [nxi_nxi, Nat.add_comm j i, c1]
theorem wd_pos (W : Wd s p q) (hx : InU s p q x) : 0 < (wd s x).length := by rw [wd_len]; exact (perU_ok W hx).1
theorem fit_wd (W : Wd s p q) (hx : InU s p q x) (hf : fit s x ε) : wd s (sh x ε) = wd s x := by
  unfold wd
  rw [fit_per W hx hf]
  refine List.map_congr_left fun i _ => ?_
  show (nxi s i (sh x ε)).f = _
  rw [fit_all W hx hf]
  rfl
theorem cls_nxi (W : Wd s p q) (hx : InU s p q x) (i : Nat) : cls s (nxi s i x) = cls s x := by
  have n0 := (perU_ok W hx).1
  have c1 : nxi s (i % perU s x) x = nxi s i x := it_mod (perU_ok W hx).2.1 _
  unfold cls
  rw [← c1, wd_nxi W hx (Nat.mod_lt _ n0), least_rotL (by rw [wd_len]; exact Nat.mod_lt _ n0)]
theorem cls_iff (W : Wd s p q) (hx : InU s p q x) (hy : InU s p q y) : cls s x = cls s y ↔ ∃ i ε, i < perU s x ∧ fit s x ε ∧ y = sh (nxi s i x) ε := by
  unfold cls
  rw [least_iff (wd_pos W hx) (wd_pos W hy), wd_len]
  constructor
  · rintro ⟨i, hi, e⟩
    rw [← wd_nxi W hx hi] at e
    have hz := nxi_in W hx i
    obtain ⟨h1, h2⟩ := same_fit W hz hy (wd_same W hz hy e.symm)
    exact ⟨i, _, hi, fit_back W hx h1, h2⟩
  · rintro ⟨i, ε, hi, hf, rfl⟩
    exact ⟨i, hi, by rw [fit_wd W (nxi_in W hx i) (fit_nxi hf i), wd_nxi W hx hi]⟩
/-- no unit lies twice in a lane -/
theorem lane_one (W : Wd s p q) (hx : InU s p q x) {i j : Nat} {a b : Int} (hi : i < perU s x) (hj : j < perU s x) (fa : fit s x a) (fb : fit s x b) (e : sh (nxi s i x) a = sh (nxi s j x) b) : i = j ∧ a = b := by
  have key : ∀ (i j : Nat) (a b : Int), i < j → j < perU s x → fit s x a → fit s x b → sh (nxi s i x) a = sh (nxi s j x) b → False := by
    intro i j a b hij hj fa fb e
    have hz := nxi_in W hx i
    have hz' := nxi_in W hx j
    have ew : wd s (nxi s i x) = wd s (nxi s j x) := by rw [← fit_wd W hz (fit_nxi fa i), e, fit_wd W hz' (fit_nxi fb j)]
    obtain ⟨hf, hs⟩ := same_fit W hz hz' (wd_same W hz hz' ew)
    have hjz : nxi s j x = nxi s (j - i) (nxi s i x) := by rw [nxi_nxi]; congr 1; omega
    have hp := perU_ok W hz
    rw [perU_nxi W hx] at hp
    rw [hjz] at hs hf
    generalize nxi s i x = z at *
    generalize hδ : (nxi s (j - i) z).u - z.u = δ at *
    have al : ∀ m : Nat, nxi s ((j - i) * m) z = sh z ((m : Int) * δ) := fun m => by
      induction m with
      | zero => show z = sh z (((0 : Nat) : Int) * δ); unfold sh; simp
      | succ m ih =>
        rw [Nat.mul_succ, ← nxi_nxi, hs, fit_all W hz hf, ih]
        unfold sh
        dsimp only
        congr 1
        rw [Int.natCast_add, Int.add_mul]
        omega
    have h1 := al (perU s x)
    have h2 : nxi s ((j - i) * perU s x) z = z := by rw [Nat.mul_comm]; exact it_mul hp.2.1 _
    rw [h2] at h1
    have h3 : z.u = z.u + (perU s x : Int) * δ := congrArg Un.u h1
    have h4 : (perU s x : Int) * δ = 0 := by omega
    have n0 := hp.1
    rcases Int.mul_eq_zero.mp h4 with h | h
    · omega
    · have h5 := al 1
      rw [h, Nat.mul_one] at h5
      refine hp.2.2 (j - i) (by omega) (by omega) ?_
      show nxi s (j - i) z = z
      rw [h5]
      unfold sh
      simp
  rcases Nat.lt_trichotomy i j with h | h | h
  · exact (key i j a b h hj fa fb e).elim
  · refine ⟨h, ?_⟩
    rw [h] at e
    have : (nxi s j x).u + a = (nxi s j x).u + b := congrArg Un.u e
    omega
  · exact (key j i b a h hi fb fa e.symm).elim
end
end TP

/-! G11 -/
set_option maxHeartbeats 1000000
set_option linter.unusedVariables false
set_option linter.unusedSectionVars false
namespace TP
open PySem PySem.W
/-! ### the breadth of a lane -/
theorem le_minL : ∀ {l : List Int} {e : Int}, l ≠ [] → (e ≤ minL l ↔ ∀ y ∈ l, e ≤ y)
  | [], _, h => absurd rfl h
  | n :: ns, e, _ => by
    show e ≤ minOf n ns ↔ _
    obtain ⟨m1, m2⟩ := minOf_le n ns
    constructor
    · intro h y hy
      rcases List.mem_cons.mp hy with rfl | hy
      · omega
      · have := m2 y hy; omega
    · intro h
      rcases minOf_mem n ns with k | k
      · rw [k]; exact h _ List.mem_cons_self
      · exact h _ (List.mem_cons_of_mem _ k)
noncomputable def slR (s : T3) (x : Un) : Int := minL ((List.range (perU s x)).map fun i => uU s x i - mn s (uF s x i) (uF s x (i + 1)) (uD s x i))
noncomputable def slL (s : T3) (x : Un) : Int := minL ((List.range (perU s x)).map fun i => mx s (uF s x i) (uF s x (i + 1)) (uD s x i) - (uU s x i + 1))
noncomputable def Wof (s : T3) (x : Un) : Int := slR s x + slL s x + 1
noncomputable def ringU (s : T3) (x : Un) : List StV := (List.range (perU s x)).map fun i => ⟨uF s x i, uD s x i, uU s x i - slR s x, uU s x i + 1 + slL s x⟩
section
variable {s : T3} {p q : Int} {x y z : Un} {n : Nat} {ε : Int}
theorem u_mod (W : Wd s p q) (hx : InU s p q x) (i : Nat) : nxi s (i % perU s x) x = nxi s i x := it_mod (perU_ok W hx).2.1 i
theorem u_mod1 (W : Wd s p q) (hx : InU s p q x) (i : Nat) : nxi s (i % perU s x + 1) x = nxi s (i + 1) x := by
  show nx s (nxi s (i % perU s x) x) = nx s (nxi s i x)
  rw [u_mod W hx]
theorem fit_iff (W : Wd s p q) (hx : InU s p q x) : fit s x ε ↔ -(slR s x) ≤ ε ∧ ε ≤ slL s x := by
  have n0 := (perU_ok W hx).1
  have ne : List.range (perU s x) ≠ [] := fun e => by
    have := congrArg List.length e
    rw [List.length_range] at this
    simp at this
    omega
  have r1 : -(slR s x) ≤ ε ↔ -ε ≤ slR s x := by omega
  unfold slL
  rw [r1]
  unfold slR
  rw [le_minL (by simpa using ne), le_minL (by simpa using ne)]
  constructor
  · intro h
    refine ⟨fun y hy => ?_, fun y hy => ?_⟩ <;> obtain ⟨i, _, rfl⟩ := List.mem_map.mp hy <;> have := h i <;> omega
  · rintro ⟨h1, h2⟩ i
    have hm := Nat.mod_lt i n0
    have k1 := h1 _ (List.mem_map.mpr ⟨_, List.mem_range.mpr hm, rfl⟩)
    have k2 := h2 _ (List.mem_map.mpr ⟨_, List.mem_range.mpr hm, rfl⟩)
    unfold uU uF uD at *
    rw [u_mod W hx, u_mod1 W hx] at k1 k2
    exact ⟨by omega, by omega⟩
theorem sl_pos (W : Wd s p q) (hx : InU s p q x) : 0 ≤ slR s x ∧ 0 ≤ slL s x := by
  have := (fit_iff W hx).mp (fit_0 W hx)
  omega
/-- the units of a class, one by one -/
noncomputable def laneU (s : T3) (x : Un) : List Un := (List.range (perU s x)).flatMap fun i => (List.range (Wof s x).toNat).map fun (k : Nat) => sh (nxi s i x) ((k : Int) - slR s x)
theorem mem_laneU (W : Wd s p q) (hx : InU s p q x) : y ∈ laneU s x ↔ InU s p q y ∧ cls s y = cls s x := by
  unfold laneU
  rw [List.mem_flatMap]
  have sp := sl_pos W hx
  constructor
  · rintro ⟨i, hi, h⟩
    obtain ⟨k, hk, rfl⟩ := List.mem_map.mp h
    have hi := List.mem_range.mp hi
    have hk := List.mem_range.mp hk
    unfold Wof at hk
    have hf : fit s x ((k : Int) - slR s x) := (fit_iff W hx).mpr (by omega)
    have hy : InU s p q (sh (nxi s i x) ((k : Int) - slR s x)) := (fit_go W (nxi_in W hx i) (fit_nxi hf i)).1
    exact ⟨hy, ((cls_iff W hx hy).mpr ⟨i, _, hi, hf, rfl⟩).symm⟩
  · rintro ⟨hy, e⟩
    obtain ⟨i, ε, hi, hf, rfl⟩ := (cls_iff W hx hy).mp e.symm
    have := (fit_iff W hx).mp hf
    refine ⟨i, List.mem_range.mpr hi, List.mem_map.mpr ⟨(ε + slR s x).toNat, List.mem_range.mpr (by unfold Wof; omega), ?_⟩⟩
    congr 1
    omega
theorem nodup_laneU (W : Wd s p q) (hx : InU s p q x) : (laneU s x).Nodup := by
  unfold laneU
  have sp := sl_pos W hx
  have hf : ∀ k, k ∈ List.range (Wof s x).toNat → fit s x ((k : Int) - slR s x) := fun k hk => by
    have hk := List.mem_range.mp hk
    unfold Wof at hk
    exact (fit_iff W hx).mpr (by omega)
  refine nodup_flatMap List.nodup_range (fun i hi => nodup_map_of List.nodup_range fun a ha b hb e => ?_) (fun i hi j hj ne y hy hy' => ?_)
  · have := (lane_one W hx (List.mem_range.mp hi) (List.mem_range.mp hi) (hf a ha) (hf b hb) e).2
    omega
  · obtain ⟨a, ha, rfl⟩ := List.mem_map.mp hy
    obtain ⟨b, hb, e⟩ := List.mem_map.mp hy'
    exact ne (lane_one W hx (List.mem_range.mp hi) (List.mem_range.mp hj) (hf a ha) (hf b hb) e.symm).1
theorem lane_perm (W : Wd s p q) (hx : InU s p q x) : ((Us s p q).filter fun y => decide (cls s y = cls s x)).Perm (laneU s x) := by
  refine (List.perm_ext_iff_of_nodup ((nodup_Us W).filter _) (nodup_laneU W hx)).mpr fun y => ?_
  rw [List.mem_filter, decide_eq_true_eq, mem_Us W, mem_laneU W hx]
theorem len_laneU (W : Wd s p q) (hx : InU s p q x) : ((laneU s x).length : Int) = perU s x * Wof s x := by
  have sp := sl_pos W hx
  unfold laneU
  rw [List.length_flatMap]
  have : (List.map (fun i => (List.map (fun (k : Nat) => sh (nxi s i x) ((k : Int) - slR s x)) (List.range (Wof s x).toNat)).length) (List.range (perU s x))) = List.replicate (perU s x) (Wof s x).toNat := by
    refine List.eq_replicate_iff.mpr ⟨by rw [List.length_map, List.length_range], fun b hb => ?_⟩
    obtain ⟨i, _, rfl⟩ := List.mem_map.mp hb
    rw [List.length_map, List.length_range]
  rw [this, List.sum_replicate_nat, Int.natCast_mul]
  congr 1
  unfold Wof
  omega
/-! ### the length of a lane -/
theorem tau_one {X d : T3} {a b : Int} (h : d.get (0 : Int) ≠ 0 ∨ d.get 1 ≠ 0 ∨ d.get 2 ≠ 0) (e : T3.add X (T3.smul a d) = T3.add X (T3.smul b d)) : a = b := by
  have k : ∀ i, X.get i + a * d.get i = X.get i + b * d.get i := fun i => by rw [← add_get, ← add_get, e]
  have k2 : ∀ i, d.get i ≠ 0 → a = b := fun i hi => Int.eq_of_mul_eq_mul_right hi (by have := k i; omega)
  rcases h with h | h | h
  · exact k2 _ h
  · exact k2 _ h
  · exact k2 _ h
theorem out_some {g : Int} {d : T3} (h : 0 < outward g d) : d.get (0 : Int) ≠ 0 ∨ d.get 1 ≠ 0 ∨ d.get 2 ≠ 0 := by
  refine Classical.byContradiction fun hn => ?_
  simp only [not_or, Classical.not_not] at hn
  obtain ⟨h0, h1, h2⟩ := hn
  have k : ∀ i, d.get i = 0 := fun i => by
    simp only [T3.get] at h0 h1 h2 ⊢
    simp at h0 h1 h2
    split
    · exact h0
    · split
      · exact h1
      · exact h2
  unfold outward at h
  rw [k] at h
  split at h <;> omega
def IsLen (s : T3) (p q : Int) (x : Un) (L : Int) : Prop := 0 < L ∧ ∀ m τ, Run s p q (uF s x) (uD s x) m → Closed (uF s x) (uD s x) m (perU s x) → Taus s p q (uF s x) (uD s x) m τ → sumN τ (perU s x) = 2 * p * q * L
theorem isLen_ex (W : Wd s p q) (hx : InU s p q x) : ∃ L, IsLen s p q x L := by
  have R := unit_run W hx
  have hp := perU_ok W hx
  have C := unit_closed (δ := 1) hp.2.1 (m := fun i => 2 * uU s x i + 1) fun i => rfl
  obtain ⟨τ, T⟩ := R.taus W
  obtain ⟨L, L0, hL, _⟩ := run_len W R C hp.1 T
  exact ⟨L, L0, fun m' τ' R' C' T' => by rw [← run_len_one W R C R' C' hp.1 T T', hL]⟩
theorem isLen_by (W : Wd s p q) (hx : InU s p q x) {L : Int} (h : IsLen s p q x L) : ∃ τ, Taus s p q (uF s x) (uD s x) (fun i => 2 * uU s x i + 1) τ ∧ sumN τ (perU s x) = 2 * p * q * L := by
  have R := unit_run W hx
  have hp := perU_ok W hx
  have C := unit_closed (δ := 1) hp.2.1 (m := fun i => 2 * uU s x i + 1) fun i => rfl
  obtain ⟨τ, T⟩ := R.taus W
  exact ⟨τ, T, h.2 _ τ R C T⟩
theorem two_pq (W : Wd s p q) : 0 < 2 * p * q := Int.mul_pos (Int.mul_pos (by decide) (by have := W.p1; omega)) (by have := W.q1; omega)
theorem isLen_one (W : Wd s p q) (hx : InU s p q x) {L L' : Int} (h : IsLen s p q x L) (h' : IsLen s p q x L') : L = L' := by
  obtain ⟨τ, T, e⟩ := isLen_by W hx h
  have hp := perU_ok W hx
  have C := unit_closed (δ := 1) hp.2.1 (m := fun i => 2 * uU s x i + 1) fun i => rfl
  have := h'.2 _ τ (unit_run W hx) C T
  rw [e] at this
  exact Int.eq_of_mul_eq_mul_left (Int.ne_of_gt (two_pq W)) this
theorem isLen_sh (W : Wd s p q) (hx : InU s p q x) (hf : fit s x ε) {L : Int} (h : IsLen s p q x L) : IsLen s p q (sh x ε) L := by
  have e1 : uF s (sh x ε) = uF s x := funext fun i => by show (nxi s i (sh x ε)).f = _; rw [fit_all W hx hf]; rfl
  have e2 : uD s (sh x ε) = uD s x := funext fun i => by show (nxi s i (sh x ε)).d = _; rw [fit_all W hx hf]; rfl
  unfold IsLen
  rw [e1, e2, fit_per W hx hf]
  exact h
theorem sumN_shift (τ : Nat → Int) : ∀ n, sumN (fun i => τ (i + 1)) n + τ 0 = sumN τ n + τ n
  | 0 => by show (0 : Int) + _ = 0 + _; rfl
  | n + 1 => by
    have := sumN_shift τ n
    show sumN (fun i => τ (i + 1)) n + τ (n + 1) + τ 0 = sumN τ n + τ n + τ (n + 1)
    omega
theorem taus_per (W : Wd s p q) {F : Nat → Int} {D : Nat → T3} {m τ : Nat → Int} (R : Run s p q F D m) (C : Closed F D m n) (T : Taus s p q F D m τ) (i : Nat) : τ (i + n) = τ i := by
  have hX : ∀ i, Xs s p q F D m (i + n) = Xs s p q F D m i := fun i => by
    unfold Xs
    rw [show i + n + 1 = i + 1 + n by omega, C.f, C.f, C.d, C.m]
  have h1 := (T (i + n)).2
  have h2 := (T i).2
  rw [show i + n + 1 = i + 1 + n by omega, hX, hX, C.d, h2] at h1
  exact (tau_one (out_some (R.out (i + 1))) h1).symm
theorem isLen_nx (W : Wd s p q) (hx : InU s p q x) {L : Int} (h : IsLen s p q x L) : IsLen s p q (nx s x) L := by
  have hn := nx_in W hx
  obtain ⟨L', h'⟩ := isLen_ex W hn
  have hp := perU_ok W hx
  have hpn : perU s (nx s x) = perU s x := perU_nxi W hx 1
  obtain ⟨τ, T, e⟩ := isLen_by W hx h
  have C := unit_closed (δ := 1) hp.2.1 (m := fun i => 2 * uU s x i + 1) fun i => rfl
  have R := unit_run W hx
  have es : ∀ i, nxi s i (nx s x) = nxi s (i + 1) x := fun i => (it_succ i x).symm
  have e1 : uF s (nx s x) = fun i => uF s x (i + 1) := funext fun i => congrArg Un.f (es i)
  have e2 : uD s (nx s x) = fun i => uD s x (i + 1) := funext fun i => congrArg Un.d (es i)
  have R1 := R.shift 1
  have C1 : Closed (fun i => uF s x (i + 1)) (fun i => uD s x (i + 1)) (fun i => 2 * uU s x (i + 1) + 1) (perU s x) := by
    refine ⟨fun i => ?_, fun i => ?_, fun i => ?_⟩ <;> (try dsimp only) <;> rw [show i + perU s x + 1 = i + 1 + perU s x by omega]
    · exact C.f _
    · exact C.d _
    · exact C.m _
  have T1 : Taus s p q (fun i => uF s x (i + 1)) (fun i => uD s x (i + 1)) (fun i => 2 * uU s x (i + 1) + 1) (fun i => τ (i + 1)) := fun i => T (i + 1)
  unfold IsLen at h'
  rw [e1, e2, hpn] at h'
  have k := h'.2 _ _ R1 C1 T1
  have k1 := sumN_shift τ (perU s x)
  have k2 := taus_per W R C T 0
  rw [Nat.zero_add] at k2
  have k3 : 2 * p * q * L = 2 * p * q * L' := by omega
  have k4 : L = L' := Int.eq_of_mul_eq_mul_left (Int.ne_of_gt (two_pq W)) k3
  unfold IsLen
  rw [e1, e2, hpn, k4]
  exact h'
theorem isLen_cls (W : Wd s p q) (hx : InU s p q x) (hy : InU s p q y) (e : cls s x = cls s y) {L : Int} (h : IsLen s p q x L) : IsLen s p q y L := by
  obtain ⟨i, ε, _, hf, rfl⟩ := (cls_iff W hx hy).mp e
  have key : ∀ i, IsLen s p q (nxi s i x) L := fun i => by
    induction i with
    | zero => exact h
    | succ i ih => exact isLen_nx W (nxi_in W hx i) ih
  exact isLen_sh W (nxi_in W hx i) (fit_nxi hf i) (key i)
end
end TP

/-! G12 -/
set_option maxHeartbeats 1000000
set_option linter.unusedVariables false
set_option linter.unusedSectionVars false
namespace TP
open PySem PySem.W
/-! ### ratios in lowest terms -/
/-- r is N / D in lowest terms -/
def IsQ (r : Int × Int) (N D : Int) : Prop := 0 < r.2 ∧ Int.gcd r.1 r.2 = 1 ∧ r.1 * D = N * r.2
theorem low_ok {t b : Int} (hb : b ≠ 0) : 0 < (low t b).2 ∧ Int.gcd (low t b).1 (low t b).2 = 1 ∧ (low t b).1 * b = t * (low t b).2 := by
  have g0 : 0 < Nat.gcd t.natAbs b.natAbs := Nat.gcd_pos_of_pos_right _ (by omega)
  obtain ⟨t', ht⟩ : ((Nat.gcd t.natAbs b.natAbs : Nat) : Int) ∣ t := Int.ofNat_dvd_left.mpr (Nat.gcd_dvd_left _ _)
  obtain ⟨b', hb'⟩ : ((Nat.gcd t.natAbs b.natAbs : Nat) : Int) ∣ b := Int.ofNat_dvd_left.mpr (Nat.gcd_dvd_right _ _)
  have hg : Int.gcd t b = Nat.gcd t.natAbs b.natAbs := rfl
  have hc : Int.gcd t' b' = 1 := by
    have h1 : Int.gcd t b = Int.gcd (((Nat.gcd t.natAbs b.natAbs : Nat) : Int) * t') (((Nat.gcd t.natAbs b.natAbs : Nat) : Int) * b') := by rw [← ht, ← hb']
    rw [Int.gcd_mul_left, hg] at h1
    simp only [Int.natAbs_natCast] at h1
    exact Nat.eq_of_mul_eq_mul_left g0 (by omega)
  generalize hG : ((Nat.gcd t.natAbs b.natAbs : Nat) : Int) = G at *
  have G0 : 0 < G := by omega
  have hlow : low t b = if b < 0 then (-t', -b') else (t', b') := by
    unfold low
    rw [hG]
    dsimp only
    split
    · conv => lhs; rw [ht, hb']
      rw [show G * t' = -G * -t' by grind, show G * b' = -G * -b' by grind, Int.mul_fdiv_cancel_left _ (by omega), Int.mul_fdiv_cancel_left _ (by omega)]
    · conv => lhs; rw [ht, hb']
      rw [Int.mul_fdiv_cancel_left _ (by omega), Int.mul_fdiv_cancel_left _ (by omega)]
  rw [hlow]
  have hs : (b < 0 → b' < 0) ∧ (0 < b → 0 < b') := by
    rw [hb']
    refine ⟨fun h => ?_, fun h => ?_⟩ <;> refine Classical.byContradiction fun hn => ?_
    · have := Int.mul_nonneg (Int.le_of_lt G0) (show 0 ≤ b' by omega); omega
    · have := Int.mul_nonpos_of_nonneg_of_nonpos (Int.le_of_lt G0) (show b' ≤ 0 by omega); omega
  split
  · rename_i h
    have := hs.1 h
    refine ⟨by dsimp only; omega, by dsimp only; rw [Int.neg_gcd, Int.gcd_neg]; exact hc, ?_⟩
    dsimp only
    rw [ht, hb']
    grind
  · have := hs.2 (by omega)
    refine ⟨this, hc, ?_⟩
    dsimp only
    rw [ht, hb']
    grind
theorem low_isQ {t b N D : Int} (hb : b ≠ 0) (e : t * D = N * b) : IsQ (low t b) N D := by
  obtain ⟨h1, h2, h3⟩ := low_ok (t := t) hb
  refine ⟨h1, h2, Int.eq_of_mul_eq_mul_right hb ?_⟩
  generalize (low t b).1 = a at *
  generalize (low t b).2 = c at *
  grind
theorem isQ_plus {a b : Int × Int} {N M D : Int} (h : IsQ a N D) (k : IsQ b M D) : IsQ (plusM a b) (N + M) D := by
  obtain ⟨h1, h2, h3⟩ := h
  obtain ⟨k1, k2, k3⟩ := k
  unfold plusM
  refine low_isQ (Int.ne_of_gt (Int.mul_pos h1 k1)) ?_
  generalize a.1 = a1 at *
  generalize a.2 = a2 at *
  generalize b.1 = b1 at *
  generalize b.2 = b2 at *
  grind
theorem isQ_le {r : Int × Int} {N D : Int} (h : IsQ r N D) (d0 : 0 < D) : 0 < r.2 ∧ r.2 ≤ D := by
  obtain ⟨h1, h2, h3⟩ := h
  refine ⟨h1, Int.le_of_dvd d0 ?_⟩
  have e1 : r.2 ∣ D * r.1 := ⟨N, by rw [Int.mul_comm, h3, Int.mul_comm]⟩
  have e2 : r.2 ∣ D * r.2 := ⟨D, by rw [Int.mul_comm]⟩
  exact gcd_dvd h2 e1 e2
theorem isQ_whole {r : Int × Int} {L D : Int} (h : IsQ r (D * L) D) (d0 : 0 < D) : r.1 = L := by
  obtain ⟨h1, h2, h3⟩ := h
  have e : r.1 = L * r.2 := Int.eq_of_mul_eq_mul_right (Int.ne_of_gt d0) (by grind)
  have h4 : r.2 ∣ r.1 := ⟨L, by rw [e, Int.mul_comm]⟩
  have h5 : r.2 ∣ 1 := gcd_dvd h2 (by rw [Int.one_mul]; exact h4) (by rw [Int.one_mul]; exact Int.dvd_refl _)
  have h6 := Int.le_of_dvd (by decide) h5
  have : r.2 = 1 := by omega
  rw [e, this, Int.mul_one]
inductive F2 {α β : Type} (R : α → β → Prop) : List α → List β → Prop
  | nil : F2 R [] []
  | cons {a b l m} : R a b → F2 R l m → F2 R (a :: l) (b :: m)
theorem sumM_isQ {D : Int} (d0 : 0 < D) : ∀ {rs : List (Int × Int)} {ns : List Int} {a : Int × Int} {N : Int}, IsQ a N D → F2 (fun r n => IsQ r n D) rs ns → IsQ (rs.foldl plusM a) (N + ns.sum) D
  | [], _, a, N, h, .nil => by simpa using h
  | r :: rs, _, a, N, h, .cons (b := n) (m := ns) h1 h2 => by
    have := sumM_isQ d0 (isQ_plus h h1) h2
    rw [List.foldl_cons, List.sum_cons]
    rw [show N + (n + ns.sum) = N + n + ns.sum by omega]
    exact this
section
variable {s : T3} {p q : Int} {f g h : Int} {d : T3}
/-- the length of a middle ray on a face -/
theorem mid_isQ (W : Wd s p q) (hf : FaceOk f) (hg : FaceOk g) (hh : FaceOk h) (n1 : f / 2 ≠ h / 2) (n2 : f / 2 ≠ g / 2) (hd : d ∈ dirs4 f p q) {lo hi τ : Int} {X' : T3}
    (hX : X' = T3.add (ent s p q h f d (lo + hi)) (T3.smul τ d)) (on : X'.get (g / 2) = 2 * p * q * level s g) (nz : d.get (g / 2) ≠ 0) : IsQ (midLen s ⟨f, d, lo, hi⟩ h g) τ (2 * p * q) := by
  obtain ⟨o1, o2, o3⟩ := ent_on (s := s) (p := p) (q := q) (d := d) (m := lo + hi) hf hh n1
  have me := ent_meas (m := lo + hi) W hf hh n1 hd
  have eg : X'.get (g / 2) = (ent s p q h f d (lo + hi)).get (g / 2) + τ * d.get (g / 2) := by rw [hX, add_get]
  rw [on] at eg
  have c0 := two_pq W
  generalize ent s p q h f d (lo + hi) = X at *
  have key : (midBegun s ⟨f, d, lo, hi⟩ h g).2 ≠ 0 ∧ X.get (g / 2) * (midBegun s ⟨f, d, lo, hi⟩ h g).2 = (midBegun s ⟨f, d, lo, hi⟩ h g).1 * (2 * p * q) := by
    unfold midBegun
    by_cases e : h / 2 = g / 2
    · rw [if_pos e]
      refine ⟨(by decide : (1 : Int) ≠ 0), ?_⟩
      rw [← e, o2]
      dsimp only
      grind
    · rw [if_neg e]
      obtain ⟨a, b, rfl, ha, hb, _⟩ := dirs_ab W hd
      obtain ⟨e1, e2, e3⟩ := ab_unfr (a := a) (b := b) hf
      have hal : g / 2 = along f h := by unfold FaceOk at *; unfold along; omega
      unfold edgeNumber
      dsimp only
      change (unfr f a b).get (axes f).1 = a at e1
      change (unfr f a b).get (axes f).2 = b at e2
      have hm : measure f (unfr f a b) X = a * X.get (axes f).2 - b * X.get (axes f).1 := by unfold measure; rw [e1, e2]
      rw [hm] at me
      have hax : ∀ f, FaceOk f → (axes f).1 + (axes f).2 + f / 2 = 3 := fun f hf => by
        rcases face6 hf with rfl | rfl | rfl | rfl | rfl | rfl <;> rfl
      have hax := hax f hf
      have hal2 : along f h = 3 - f / 2 - h / 2 := rfl
      split
      · rename_i ea
        have eh : h / 2 = (axes f).1 := by omega
        rw [e1, e2, hal, ea]
        obtain ⟨l1, _, l3⟩ := low_ok (t := lo + hi + 2 * b * level s h) (b := 2 * a) (by omega)
        refine ⟨Int.ne_of_gt l1, ?_⟩
        rw [← eh, o2] at me
        refine Int.eq_of_mul_eq_mul_right (show 2 * a ≠ 0 by omega) ?_
        generalize low (lo + hi + 2 * b * level s h) (2 * a) = r at *
        grind
      · rename_i ea
        have eg2 : along f h = (axes f).1 := by
          have hx : h / 2 = (axes f).1 ∨ h / 2 = (axes f).2 := by
            have h1 := hh.1
            have h2 := hh.2
            rcases face6 hf with rfl | rfl | rfl | rfl | rfl | rfl <;> simp [axes] at n1 ⊢ <;> omega
          omega
        have eh : h / 2 = (axes f).2 := by omega
        rw [e1, e2, hal, eg2]
        obtain ⟨l1, _, l3⟩ := low_ok (t := 2 * a * level s h - (lo + hi)) (b := 2 * b) (by omega)
        refine ⟨Int.ne_of_gt l1, ?_⟩
        rw [← eh, o2] at me
        refine Int.eq_of_mul_eq_mul_right (show 2 * b ≠ 0 by omega) ?_
        generalize low (2 * a * level s h - (lo + hi)) (2 * b) = r at *
        grind
  obtain ⟨k1, k2⟩ := key
  unfold midLen
  dsimp only
  refine low_isQ (fun e => ?_) ?_
  · rcases Int.mul_eq_zero.mp e with e | e
    · exact k1 e
    · exact nz e
  · generalize midBegun s ⟨f, d, lo, hi⟩ h g = r at *
    generalize X.get (g / 2) = xg at *
    generalize d.get (g / 2) = dg at *
    generalize level s g = lg at *
    grind
end
end TP

/-! G13 -/
set_option maxHeartbeats 1000000
set_option linter.unusedVariables false
set_option linter.unusedSectionVars false
namespace TP
open PySem PySem.W
structure Wb (s : T3) (p q : Int) : Prop where
  wd : Wd s p q
  s5 : ∀ i, 1 ≤ s.get i ∧ s.get i ≤ 5
  p5 : p ≤ 5
  q5 : q ≤ 5
  tot : (p + q) * (s.1 + s.2.1 + s.2.2) ≤ 100
section
variable {s : T3} {p q : Int} {x y z : Un} {n : Nat} {ε : Int}
theorem per_400 (B : Wb s p q) (hx : InU s p q x) : perU s x ≤ 400 ∧ (perU s x : Int) ≤ 4 * (p + q) * (s.1 + s.2.1 + s.2.2) := by
  have h1 := per_two B.wd hx (perU_ok B.wd hx)
  have h2 := len_Us B.wd
  have h3 := B.tot
  have h4 : 8 * (p + q) * (s.1 + s.2.1 + s.2.2) = 8 * ((p + q) * (s.1 + s.2.1 + s.2.2)) := by grind
  have h5 : 4 * (p + q) * (s.1 + s.2.1 + s.2.2) = 4 * ((p + q) * (s.1 + s.2.1 + s.2.2)) := by grind
  omega
theorem len_800 (B : Wb s p q) : (Us s p q).length ≤ 800 := by
  have h2 := len_Us B.wd
  have h3 := B.tot
  have h4 : 8 * (p + q) * (s.1 + s.2.1 + s.2.2) = 8 * ((p + q) * (s.1 + s.2.1 + s.2.2)) := by grind
  omega
/-! ### the ring of a unit, as the code makes it -/
theorem ringU_len : (ringU s x).length = perU s x := by unfold ringU; rw [List.length_map, List.length_range]
theorem orbL_len {ts : Nat → StV} : (orbL n ts).length = n := by unfold orbL; rw [List.length_map, List.length_range]
theorem orbL_get {ts : Nat → StV} {i : Nat} (hi : i < n) : (orbL n ts)[i]? = some (ts i) := by
  unfold orbL
  rw [List.getElem?_map, List.getElem?_range hi]
  rfl
theorem orb_at (W : Wd s p q) (hx : InU s p q x) (i : Nat) : rAt (orbL (perU s x) fun i => (nxi s i x).st) i = (nxi s i x).st := by
  have n0 := (perU_ok W hx).1
  have h := rAt_mod (L := orbL (perU s x) fun i => (nxi s i x).st) (by rw [orbL_len]; exact n0) i
  rw [orbL_len, orbL_get (Nat.mod_lt _ n0), u_mod W hx] at h
  exact (Option.some.inj h).symm
theorem ring_at (W : Wd s p q) (hx : InU s p q x) (i : Nat) : rAt (ringU s x) i = ⟨uF s x i, uD s x i, uU s x i - slR s x, uU s x i + 1 + slL s x⟩ := by
  have n0 := (perU_ok W hx).1
  have h := rAt_mod (L := ringU s x) (by rw [ringU_len]; exact n0) i
  rw [ringU_len] at h
  unfold ringU at h
  rw [List.getElem?_map, List.getElem?_range (Nat.mod_lt _ n0)] at h
  have h := (Option.some.inj h).symm
  dsimp only at h
  unfold uF uD uU at h
  rw [u_mod W hx] at h
  exact h
theorem widen_eq (W : Wd s p q) (hx : InU s p q x) : widen s (orbL (perU s x) fun i => (nxi s i x).st) = ringU s x := by
  have e1 : ∀ i, slackR s (orbL (perU s x) fun i => (nxi s i x).st) i = uU s x i - mn s (uF s x i) (uF s x (i + 1)) (uD s x i) := fun i => by
    unfold slackR
    rw [orb_at W hx, orb_at W hx, minOf2]
    rfl
  have e2 : ∀ i, slackL s (orbL (perU s x) fun i => (nxi s i x).st) i = mx s (uF s x i) (uF s x (i + 1)) (uD s x i) - (uU s x i + 1) := fun i => by
    unfold slackL
    rw [orb_at W hx, orb_at W hx, maxOf2]
    rfl
  unfold widen ringU
  rw [orbL_len, show slackR s (orbL (perU s x) fun i => (nxi s i x).st) = _ from funext e1, show slackL s (orbL (perU s x) fun i => (nxi s i x).st) = _ from funext e2]
  unfold orbL
  rw [List.map_map]
  rfl
theorem wide_run (W : Wd s p q) (hx : InU s p q x) : Run s p q (uF s x) (uD s x) (fun i => 2 * uU s x i + (1 + slL s x - slR s x)) := by
  have R := unit_run W hx
  have sp := sl_pos W hx
  have f1 := (fit_iff W hx (ε := -(slR s x))).mpr (by omega)
  have f2 := (fit_iff W hx (ε := slL s x)).mpr (by omega)
  refine ⟨R.face, R.dir, R.ne, R.out, R.over, fun i => ?_, fun i => ?_, fun i => ?_⟩
  · have := R.grow i
    omega
  · have := f1 i
    omega
  · have := f2 i
    omega
theorem sum_map_range (τ : Nat → Int) : ∀ n, ((List.range n).map τ).sum = sumN τ n
  | 0 => rfl
  | n + 1 => by
    rw [List.range_succ, List.map_append, List.sum_append, sum_map_range τ n]
    simp [sumN]
theorem sumN_per {τ : Nat → Int} (h : ∀ i, τ (i + n) = τ i) : ∀ k, sumN (fun i => τ (i + k)) n = sumN τ n
  | 0 => rfl
  | k + 1 => by
    have h1 := sumN_shift (fun i => τ (i + k)) n
    have h2 : (fun i => (fun i => τ (i + k)) (i + 1)) = fun i => τ (i + (k + 1)) := funext fun i => by show τ (i + 1 + k) = _; congr 1; omega
    rw [h2] at h1
    have h3 := h k
    rw [Nat.zero_add, Nat.add_comm n k, h3, sumN_per h k] at h1
    omega
theorem F2_map {α β γ : Type} {R : β → γ → Prop} {f : α → β} {g : α → γ} : ∀ {l : List α}, (∀ a ∈ l, R (f a) (g a)) → F2 R (l.map f) (l.map g)
  | [], _ => .nil
  | a :: l, h => .cons (h a List.mem_cons_self) (F2_map fun b hb => h b (List.mem_cons_of_mem _ hb))
theorem F2_take {α β : Type} {R : α → β → Prop} : ∀ {l : List α} {m : List β} (i : Nat), F2 R l m → F2 R (l.take i) (m.take i)
  | _, _, 0, _ => by simpa using F2.nil
  | [], [], _ + 1, .nil => by simpa using F2.nil
  | _ :: _, _ :: _, i + 1, .cons h k => by
    rw [List.take_succ_cons, List.take_succ_cons]
    exact .cons h (F2_take i k)
theorem F2_mem {α β : Type} {R : α → β → Prop} : ∀ {l : List α} {m : List β}, F2 R l m → ∀ a ∈ l, ∃ b, R a b
  | _, _, .nil, a, h => by cases h
  | _, _, .cons h k, a, ha => by
    rcases List.mem_cons.mp ha with rfl | ha
    · exact ⟨_, h⟩
    · exact F2_mem k a ha
theorem lens_F2 (W : Wd s p q) (hx : InU s p q x) {L : Int} (hL : IsLen s p q x L) : ∃ ns : List Int, F2 (fun r n => IsQ r n (2 * p * q)) (ringLens s (ringU s x)) ns ∧ ns.sum = 2 * p * q * L := by
  have R := wide_run W hx
  have hp := perU_ok W hx
  have C := unit_closed (δ := 1 + slL s x - slR s x) hp.2.1 (m := fun i => 2 * uU s x i + (1 + slL s x - slR s x)) fun i => rfl
  obtain ⟨τ, T⟩ := R.taus W
  have hs := hL.2 _ τ R C T
  refine ⟨(List.range (perU s x)).map fun i => τ (i + (perU s x - 1)), ?_, ?_⟩
  · unfold ringLens
    rw [ringU_len]
    refine F2_map fun i hi => ?_
    rw [ring_at W hx, ring_at W hx, ring_at W hx]
    dsimp only
    have n0 := hp.1
    have ej : i + (perU s x - 1) + 1 = i + perU s x := by omega
    have e1 : i + perU s x - 1 = i + (perU s x - 1) := by omega
    rw [e1]
    generalize hj : i + (perU s x - 1) = j at *
    have eF : uF s x (j + 1) = uF s x i := by rw [ej]; exact C.f i
    have eD : uD s x (j + 1) = uD s x i := by rw [ej]; exact C.d i
    have eU : uU s x (j + 1) = uU s x i := by
      have := C.m i
      rw [ej]
      omega
    have eF2 : uF s x (j + 2) = uF s x (i + 1) := by rw [show j + 2 = i + 1 + perU s x by omega]; exact C.f (i + 1)
    have hT := (T j).2
    have hon := (R.on j).2
    rw [← eF, ← eD, ← eU, ← eF2]
    refine mid_isQ W (R.face (j + 1)) (R.face (j + 2)) (R.face j) (fun e => R.ne j e.symm) (R.ne (j + 1)) (R.dir (j + 1)) (X' := Xs s p q (uF s x) (uD s x) (fun i => 2 * uU s x i + (1 + slL s x - slR s x)) (j + 1)) ?_ hon ?_
    · rw [hT]
      unfold Xs
      dsimp only
      rw [show 2 * uU s x (j + 1) + (1 + slL s x - slR s x) = uU s x (j + 1) - slR s x + (uU s x (j + 1) + 1 + slL s x) by omega]
    · have := R.out (j + 1)
      intro e
      unfold outward at this
      rw [show j + 1 + 1 = j + 2 by omega, e] at this
      split at this <;> omega
  · rw [sum_map_range, sumN_per (taus_per W R C T), hs]
theorem pq_50 (B : Wb s p q) : 0 < 2 * p * q ∧ 2 * p * q ≤ 10000 := by
  refine ⟨two_pq B.wd, ?_⟩
  have h1 := B.p5
  have h2 := B.q5
  have h3 := B.wd.p1
  have h4 := B.wd.q1
  have : p * q ≤ 5 * 5 := Int.mul_le_mul h1 h2 (by omega) (by omega)
  have e : 2 * p * q = 2 * (p * q) := by grind
  omega
theorem isQ_01 (D : Int) : IsQ (0, 1) 0 D := ⟨by decide, by decide, by simp⟩
theorem len_ok (B : Wb s p q) (hx : InU s p q x) : LenOk s (ringU s x) := by
  obtain ⟨L, hL⟩ := isLen_ex B.wd hx
  obtain ⟨ns, h1, h2⟩ := lens_F2 B.wd hx hL
  obtain ⟨c0, c1⟩ := pq_50 B
  refine ⟨fun r hr => ?_, fun i => ?_⟩
  · obtain ⟨n, hn⟩ := F2_mem h1 r hr
    have := isQ_le hn c0
    omega
  · have := isQ_le (sumM_isQ c0 (isQ_01 _) (F2_take i h1)) c0
    unfold sumM
    omega
theorem ring_len (B : Wb s p q) (hx : InU s p q x) {L : Int} (hL : IsLen s p q x L) : ringLen s (ringU s x) = L := by
  obtain ⟨ns, h1, h2⟩ := lens_F2 B.wd hx hL
  have := sumM_isQ (two_pq B.wd) (isQ_01 _) h1
  rw [Int.zero_add, h2] at this
  exact isQ_whole this (two_pq B.wd)
/-! ### rows -/
theorem wd_fAt (W : Wd s p q) (hx : InU s p q x) (i : Nat) : fAt (wd s x) i = uF s x i := by
  have n0 := (perU_ok W hx).1
  unfold fAt
  rw [List.getD_eq_getElem?_getD, wd_len, wd_get (Nat.mod_lt _ n0)]
  show uF s x (i % perU s x) = _
  unfold uF
  rw [u_mod W hx]
theorem wd_row (B : Wb s p q) (hx : InU s p q x) : RowOk (wd s x) := by
  have W := B.wd
  have R := unit_run W hx
  have C := unit_closed (δ := 1) (perU_ok W hx).2.1 (m := fun i => 2 * uU s x i + 1) fun i => rfl
  have n0 := (perU_ok W hx).1
  refine ⟨?_, by rw [wd_len]; exact (per_400 B hx).1, fun i => ?_⟩
  · rw [wd_len]
    refine Classical.byContradiction fun hn => ?_
    have h1 : perU s x = 1 ∨ perU s x = 2 := by omega
    rcases h1 with h1 | h1 <;> rw [h1] at C
    · exact R.ne 0 (by rw [C.f 0])
    · exact (R.back W 0).2.1 (C.f 0)
  · rw [wd_fAt W hx, wd_fAt W hx, wd_fAt W hx]
    exact ⟨R.face i, R.ne i, fun e => (R.back W i).2.1 e.symm⟩
theorem cls_wd (W : Wd s p q) (hx : InU s p q x) : ∃ i, InU s p q (nxi s i x) ∧ cls s x = wd s (nxi s i x) := by
  obtain ⟨i, hi, e⟩ := least_rot (wd_pos W hx)
  rw [wd_len] at hi
  exact ⟨i, nxi_in W hx i, by unfold cls; rw [e, wd_nxi W hx hi]⟩
theorem cls_row (B : Wb s p q) (hx : InU s p q x) : RowOk (cls s x) := by
  obtain ⟨i, h1, h2⟩ := cls_wd B.wd hx
  rw [h2]
  exact wd_row B h1
theorem backR_len {L : List Int} : (backR L).length = L.length := by
  unfold backR
  rw [List.length_append, List.length_take, List.length_reverse, List.length_drop]
  omega
theorem backR_fAt {L : List Int} (n0 : 0 < L.length) (i : Nat) : fAt (backR L) i = fAt L (L.length - i % L.length) := by
  unfold fAt
  rw [List.getD_eq_getElem?_getD, List.getD_eq_getElem?_getD, backR_len]
  congr 1
  have hm := Nat.mod_lt i n0
  generalize i % L.length = j at *
  unfold backR
  by_cases h : j = 0
  · rw [h, List.getElem?_append_left (by rw [List.length_take]; omega), List.getElem?_take_of_lt (by omega), Nat.sub_zero, Nat.mod_self]
  · rw [List.getElem?_append_right (by rw [List.length_take]; omega), List.length_take, List.getElem?_reverse (by rw [List.length_drop]; omega), List.length_drop, List.getElem?_drop, Nat.mod_eq_of_lt (by omega)]
    congr 1
    omega
theorem fAt_md {L : List Int} {i j : Nat} (h : i % L.length = j % L.length) : fAt L i = fAt L j := by unfold fAt; rw [h]
theorem back_row_ok {L : List Int} (h : RowOk L) : RowOk (backR L) := by
  obtain ⟨h1, h2, h3⟩ := h
  have n0 : 0 < L.length := by omega
  refine ⟨by rw [backR_len]; exact h1, by rw [backR_len]; exact h2, fun i => ?_⟩
  rw [backR_fAt n0, backR_fAt n0, backR_fAt n0]
  have m0 := Nat.mod_lt i n0
  have m1 := Nat.mod_lt (i + 1) n0
  have m2 := Nat.mod_lt (i + 2) n0
  have key : ∀ k, fAt L (L.length - i % L.length) = fAt L (L.length - (i + k) % L.length + k) := fun k => by
    refine fAt_md ?_
    have mk := Nat.mod_lt (i + k) n0
    have e1 : (L.length - i % L.length + i) % L.length = 0 := by
      have hd := Nat.mod_add_div i L.length
      rw [show L.length - i % L.length + i = L.length + L.length * (i / L.length) by omega]
      rw [Nat.add_mul_mod_self_left, Nat.mod_self]
    have e2 : (L.length - (i + k) % L.length + k + i) % L.length = 0 := by
      have hd := Nat.mod_add_div (i + k) L.length
      rw [show L.length - (i + k) % L.length + k + i = L.length + L.length * ((i + k) / L.length) by omega]
      rw [Nat.add_mul_mod_self_left, Nat.mod_self]
    have e3 : (L.length - i % L.length + i) % L.length = (L.length - (i + k) % L.length + k + i) % L.length := by rw [e1, e2]
    have e4 := Nat.sub_mod_eq_zero_of_mod_eq e3
    have e5 := Nat.sub_mod_eq_zero_of_mod_eq e3.symm
    rcases Nat.le_total (L.length - i % L.length) (L.length - (i + k) % L.length + k) with hle | hle
    · rw [show L.length - (i + k) % L.length + k + i - (L.length - i % L.length + i) = L.length - (i + k) % L.length + k - (L.length - i % L.length) by omega] at e5
      obtain ⟨c, hc⟩ := Nat.dvd_of_mod_eq_zero e5
      rw [show L.length - (i + k) % L.length + k = L.length - i % L.length + L.length * c by omega, Nat.add_mul_mod_self_left]
    · rw [show L.length - i % L.length + i - (L.length - (i + k) % L.length + k + i) = L.length - i % L.length - (L.length - (i + k) % L.length + k) by omega] at e4
      obtain ⟨c, hc⟩ := Nat.dvd_of_mod_eq_zero e4
      rw [show L.length - i % L.length = L.length - (i + k) % L.length + k + L.length * c by omega, Nat.add_mul_mod_self_left]
  obtain ⟨a1, a2, a3⟩ := h3 (L.length - (i + 1) % L.length)
  obtain ⟨b1, b2, b3⟩ := h3 (L.length - (i + 2) % L.length)
  refine ⟨(h3 _).1, ?_, ?_⟩
  · rw [key 1]
    exact fun e => a2 e.symm
  · rw [key 2]
    exact fun e => b3 e.symm
end
end TP

/-! G14 -/
set_option maxHeartbeats 1000000
set_option linter.unusedVariables false
set_option linter.unusedSectionVars false
namespace TP
open PySem PySem.W
noncomputable def Lof (s : T3) (p q : Int) (x : Un) : Int := by
  classical exact if h : ∃ L, IsLen s p q x L then h.choose else 0
noncomputable def laneX (s : T3) (p q : Int) (x : Un) : Lane := (cls s x, Lof s p q x, Wof s x)
noncomputable def rgU (s : T3) (f : Int) (d : T3) (u : Int) : List StV := ringU s ⟨f, d, u⟩
section
variable {s : T3} {p q : Int} {x y z : Un} {n : Nat} {ε : Int} {f g : Int} {d : T3}
theorem Lof_ok (W : Wd s p q) (hx : InU s p q x) : IsLen s p q x (Lof s p q x) := by
  have h := isLen_ex W hx
  unfold Lof
  rw [dif_pos h]
  exact h.choose_spec
theorem Lof_cls (W : Wd s p q) (hx : InU s p q x) (hy : InU s p q y) (e : cls s x = cls s y) : Lof s p q x = Lof s p q y := isLen_one W hy (isLen_cls W hx hy e (Lof_ok W hx)) (Lof_ok W hy)
theorem cls_len (W : Wd s p q) (hx : InU s p q x) : (cls s x).length = perU s x := by
  unfold cls
  rw [least_len (wd_pos W hx), wd_len]
theorem Wof_pos (W : Wd s p q) (hx : InU s p q x) : 0 < Wof s x := by
  have := sl_pos W hx
  unfold Wof
  omega
theorem class_size (W : Wd s p q) (hx : InU s p q x) : ((((Us s p q).filter fun y => decide (cls s y = cls s x)).length : Nat) : Int) = (cls s x).length * Wof s x := by
  rw [(lane_perm W hx).length_eq, len_laneU W hx, cls_len W hx]
theorem Wof_cls (W : Wd s p q) (hx : InU s p q x) (hy : InU s p q y) (e : cls s x = cls s y) : Wof s x = Wof s y := by
  have h1 := class_size W hx
  have h2 := class_size W hy
  rw [e] at h1
  rw [h1] at h2
  have n0 := (perU_ok W hy).1
  rw [cls_len W hy] at h2
  exact Int.eq_of_mul_eq_mul_left (by omega) h2
theorem laneX_cls (W : Wd s p q) (hx : InU s p q x) (hy : InU s p q y) (e : cls s x = cls s y) : laneX s p q x = laneX s p q y := by
  unfold laneX
  rw [e, Lof_cls W hx hy e, Wof_cls W hx hy e]
/-! ### bounds -/
theorem set_rng {t : T3} {a b : Int} (h : ∀ i, a ≤ t.get i ∧ t.get i ≤ b) {v : Int} (hv : a ≤ v ∧ v ≤ b) (j : Int) : ∀ i, a ≤ (t.set j v).get i ∧ (t.set j v).get i ≤ b := by
  have h0 : a ≤ t.1 ∧ t.1 ≤ b := h 0
  have h1 : a ≤ t.2.1 ∧ t.2.1 ≤ b := h 1
  have h2 : a ≤ t.2.2 ∧ t.2.2 ≤ b := h 2
  intro i
  unfold T3.set T3.get
  (repeat' split) <;> first | exact hv | exact h0 | exact h1 | exact h2
theorem zero_rng {a b : Int} (h : a ≤ 0 ∧ 0 ≤ b) : ∀ i, a ≤ T3.get (0, 0, 0) i ∧ T3.get (0, 0, 0) i ≤ b := by
  intro i
  unfold T3.get
  (repeat' split) <;> exact h
theorem dirs_5 (B : Wb s p q) (hd : d ∈ dirs4 f p q) : ∀ i, -5 ≤ d.get i ∧ d.get i ≤ 5 := by
  have h1 := B.wd.p1
  have h2 := B.wd.q1
  have h3 := B.p5
  have h4 := B.q5
  unfold dirs4 at hd
  simp only [List.mem_cons, List.not_mem_nil, or_false] at hd
  rcases hd with rfl | rfl | rfl | rfl <;> unfold unfr <;> exact set_rng (set_rng (zero_rng (by decide)) (by omega) _) (by omega) _
theorem dirs_le (B : Wb s p q) (hd : d ∈ dirs4 f p q) : T3.Le d 10000 := fun i => by
  have := dirs_5 B hd i
  omega
theorem dirs_nz (W : Wd s p q) (hf : FaceOk f) (hd : d ∈ dirs4 f p q) : DirNz f d := by
  obtain ⟨a, b, rfl, ha, hb, _⟩ := dirs_ab W hd
  obtain ⟨e1, e2, _⟩ := ab_unfr (a := a) (b := b) hf
  exact ⟨by rw [show (unfr f a b).get (axes f).1 = a from e1]; exact ha, by rw [show (unfr f a b).get (axes f).2 = b from e2]; exact hb⟩
theorem dirs_ok (B : Wb s p q) (hf : FaceOk f) (hd : d ∈ dirs4 f p q) : DirOk f d := by
  have nz := dirs_nz B.wd hf hd
  refine ⟨dirs_zero B.wd hf hd, .inl nz.1, ?_, dirs_le B hd⟩
  obtain ⟨a, b, rfl, ha, hb, cop, _⟩ := dirs_ab B.wd hd
  obtain ⟨e1, e2, _⟩ := ab_unfr (a := a) (b := b) hf
  rw [show (unfr f a b).get (axes f).1 = a from e1, show (unfr f a b).get (axes f).2 = b from e2]
  exact cop
theorem mul_rng {a b : Int} (h1 : -5 ≤ a ∧ a ≤ 5) (h2 : 0 ≤ b ∧ b ≤ 5) : -25 ≤ a * b ∧ a * b ≤ 25 := by
  obtain rfl | rfl | rfl | rfl | rfl | rfl : b = 0 ∨ b = 1 ∨ b = 2 ∨ b = 3 ∨ b = 4 ∨ b = 5 := by omega
  all_goals omega
theorem ends_50 (B : Wb s p q) (hd : d ∈ dirs4 f p q) (g : Int) : (-50 ≤ mn s f g d ∧ mn s f g d ≤ 50) ∧ -50 ≤ mx s f g d ∧ mx s f g d ≤ 50 := by
  have hl : ∀ f, 0 ≤ level s f ∧ level s f ≤ 5 := fun f => by
    have := B.s5 (f / 2)
    unfold level
    split <;> omega
  have hs : ∀ i, 0 ≤ (spotAt s f g).get i ∧ (spotAt s f g).get i ≤ 5 := set_rng (set_rng (zero_rng (by decide)) (hl f) _) (hl g) _
  have hs2 : ∀ i, 0 ≤ ((spotAt s f g).set (along f g) (s.get (along f g))).get i ∧ ((spotAt s f g).set (along f g) (s.get (along f g))).get i ≤ 5 := set_rng hs (by have := B.s5 (along f g); omega) _
  have hm : ∀ x : T3, (∀ i, 0 ≤ x.get i ∧ x.get i ≤ 5) → -50 ≤ measure f d x ∧ measure f d x ≤ 50 := fun x hx => by
    have k1 := mul_rng (dirs_5 B hd (axes f).1) (hx (axes f).2)
    have k2 := mul_rng (dirs_5 B hd (axes f).2) (hx (axes f).1)
    unfold measure
    omega
  have h1 := hm _ hs
  have h2 := hm _ hs2
  unfold mn mx edgeEnds
  dsimp only
  omega
theorem unit_50 (B : Wb s p q) (hx : InU s p q x) (i : Nat) : -50 ≤ uU s x i - slR s x ∧ uU s x i + 1 + slL s x ≤ 50 := by
  have sp := sl_pos B.wd hx
  have f1 := (fit_iff B.wd hx (ε := -(slR s x))).mpr (by omega) i
  have f2 := (fit_iff B.wd hx (ε := slL s x)).mpr (by omega) i
  have := ends_50 B (nxi_in B.wd hx i).2.1 (uF s x (i + 1))
  change (-50 ≤ mn s (uF s x i) (uF s x (i + 1)) (uD s x i) ∧ mn s (uF s x i) (uF s x (i + 1)) (uD s x i) ≤ 50) ∧ -50 ≤ mx s (uF s x i) (uF s x (i + 1)) (uD s x i) ∧ mx s (uF s x i) (uF s x (i + 1)) (uD s x i) ≤ 50 at this
  omega
theorem ringU_mem {t : StV} (h : t ∈ ringU s x) : ∃ i, i < perU s x ∧ t = ⟨uF s x i, uD s x i, uU s x i - slR s x, uU s x i + 1 + slL s x⟩ := by
  unfold ringU at h
  obtain ⟨i, hi, rfl⟩ := List.mem_map.mp h
  exact ⟨i, List.mem_range.mp hi, rfl⟩
theorem ring_faces : facesOf (ringU s x) = wd s x := by
  unfold facesOf ringU wd
  rw [List.map_map]
  rfl
theorem ring_turned (W : Wd s p q) (hx : InU s p q x) : facesOf (rotL (ringU s x) (leastTurn (facesOf (ringU s x)))) = cls s x := by
  unfold facesOf
  rw [← rot_map]
  show rotL (facesOf (ringU s x)) (leastTurn (facesOf (ringU s x))) = _
  rw [leastTurn_eq (by rw [ring_faces]; exact wd_pos W hx), ring_faces]
  rfl
theorem rg_ok (B : Wb s p q) (hx : InU s p q x) : RG s ⟨x.f, x.d, x.u, x.u + 1⟩ (ringU s x) := by
  have W := B.wd
  have hp := perU_ok W hx
  have R := unit_run W hx
  have n4 := (per_400 B hx).1
  have stok : ∀ i, StOk (nxi s i x).st := fun i => ⟨(nxi_in W hx i).1, dirs_le B (nxi_in W hx i).2.1⟩
  refine ⟨⟨perU s x, fun i => (nxi s i x).st, rfl, ⟨hp.1, n4, fun i hi => ?_, ?_, fun i i0 hi e => ?_, fun i _ => stok i⟩, ⟨by rw [orbL_len]; exact hp.1, by rw [orbL_len]; exact n4, fun i => ?_⟩, (widen_eq W hx).symm⟩, ⟨by rw [ringU_len]; exact hp.1, by rw [ringU_len]; exact n4, fun i => ?_⟩, fun i => ?_, len_ok B hx, ?_, ?_, fun t ht => ?_⟩
  · have st := unit_step W hx i
    show onward s (nxi s i x).st = some (nxi s (i + 1) x).st
    rw [onward_of W (nxi_in W hx i) st.1, st.2]
  · show (nxi s (perU s x) x).st = (nxi s 0 x).st
    rw [show nxi s (perU s x) x = x from hp.2.1]
    rfl
  · refine hp.2.2 i i0 hi ?_
    have e : (nxi s i x).st = x.st := e
    unfold Un.st at e
    injection e with e1 e2 e3
    show nxi s i x = x
    obtain ⟨f, d, u⟩ := x
    generalize nxi s i _ = z at *
    obtain ⟨f', d', u'⟩ := z
    dsimp only at e1 e2 e3
    rw [e1, e2, e3]
  · rw [orb_at W hx, orb_at W hx]
    exact ⟨stok i, R.ne i⟩
  · rw [ring_at W hx, ring_at W hx]
    exact ⟨stok i, R.ne i⟩
  · rw [ring_at W hx]
    exact dirs_nz W (R.face i) (R.dir i)
  · rw [ring_turned W hx]
    exact cls_row B hx
  · rw [ring_turned W hx]
    exact back_row_ok (cls_row B hx)
  · obtain ⟨i, _, rfl⟩ := ringU_mem ht
    have := unit_50 B hx i
    have sp := sl_pos W hx
    dsimp only
    omega
theorem laneOf_eq (B : Wb s p q) (hx : InU s p q x) : laneOf (ringU s x) (ringLen s (ringU s x)) = laneX s p q x := by
  have W := B.wd
  unfold laneOf laneX
  rw [ring_turned W hx, ring_len B hx (Lof_ok W hx)]
  have hb : begunAt (ringU s x) ∈ ringU s x := by
    have hl : (rotL (ringU s x) (leastTurn (facesOf (ringU s x)))).length = perU s x := by rw [rot_len, ringU_len]
    have n0 := (perU_ok W hx).1
    unfold begunAt
    cases e : rotL (ringU s x) (leastTurn (facesOf (ringU s x))) with
    | nil => rw [e] at hl; simp at hl; omega
    | cons t ts =>
      have : t ∈ rotL (ringU s x) (leastTurn (facesOf (ringU s x))) := by rw [e]; exact List.mem_cons_self
      unfold rotL at this
      rcases List.mem_append.mp this with h | h
      · exact List.mem_of_mem_drop h
      · exact List.mem_of_mem_take h
  obtain ⟨i, _, e⟩ := ringU_mem hb
  rw [e]
  dsimp only
  unfold Wof
  congr 2
  omega
/-! ### the scan over all units -/
theorem scan_eq (rg : Int → T3 → Int → List StV) : scanAll s rg p q = (Us s p q).foldl (fun st x => lowStep s rg x.f x.d st x.u) ([], []) := by
  unfold scanAll Us
  rw [List.foldl_flatMap]
  congr 1
  funext st f
  unfold faceStep
  rw [List.foldl_flatMap]
  congr 1
  funext st d
  unfold dirStep unitsFD
  rw [List.foldl_map]
theorem mem_addK {ks : List NestedKey} {k k' : NestedKey} : k' ∈ addK ks k ↔ k' ∈ ks ∨ k' = k := by
  unfold addK
  split
  · constructor
    · exact .inl
    · rintro (h | rfl) <;> assumption
  · rw [List.mem_append, List.mem_singleton]
theorem nodup_addK {ks : List NestedKey} {k : NestedKey} (h : ks.Nodup) : (addK ks k).Nodup := by
  unfold addK
  split
  · exact h
  · rename_i hk
    rw [List.nodup_append]
    exact ⟨h, by simp, fun a ha b hb e => hk (by rw [List.mem_singleton.mp hb] at e; exact e ▸ ha)⟩
theorem fold_addK {α : Type} {gk : α → NestedKey} : ∀ {us : List α} {ks : List NestedKey} {k : NestedKey}, (k ∈ us.foldl (fun ks u => addK ks (gk u)) ks ↔ k ∈ ks ∨ ∃ u ∈ us, k = gk u) ∧ (ks.Nodup → (us.foldl (fun ks u => addK ks (gk u)) ks).Nodup)
  | [], ks, k => by simp
  | u :: us, ks, k => by
    obtain ⟨h1, h2⟩ := fold_addK (us := us) (ks := addK ks (gk u)) (k := k) (gk := gk)
    rw [List.foldl_cons, h1, mem_addK]
    refine ⟨?_, fun h => h2 (nodup_addK h)⟩
    simp only [List.mem_cons, exists_eq_or_imp]
    exact or_assoc
theorem mem_addRing : ∀ {R : List StV} {ks : List NestedKey} {k : NestedKey}, (k ∈ addRing ks R ↔ k ∈ ks ∨ ∃ t ∈ R, ∃ u ∈ unitsIn t, k = nk t.face t.dir u) ∧ (ks.Nodup → (addRing ks R).Nodup)
  | [], ks, k => by simp [addRing]
  | t :: R, ks, k => by
    obtain ⟨h1, h2⟩ := mem_addRing (R := R) (ks := (unitsIn t).foldl (fun ks u => addK ks (nk t.face t.dir u)) ks) (k := k)
    obtain ⟨h3, h4⟩ := fold_addK (us := unitsIn t) (ks := ks) (k := k) (gk := fun u => nk t.face t.dir u)
    show (k ∈ addRing _ R ↔ _) ∧ (_ → (addRing _ R).Nodup)
    rw [h1, h3]
    refine ⟨?_, fun h => h2 (h4 h)⟩
    simp only [List.mem_cons, exists_eq_or_imp]
    exact or_assoc
theorem nk_inj {f f' u u' : Int} {d d' : T3} (h : nk f d u = nk f' d' u') : f = f' ∧ d = d' ∧ u = u' := by
  unfold nk at h
  simp only [NestedKey.tup.injEq, List.cons.injEq, NestedKey.num.injEq, and_true] at h
  obtain ⟨h1, ⟨h2, h3, h4⟩, h5⟩ := h
  exact ⟨h1, Prod.ext h2 (Prod.ext h3 h4), h5⟩
abbrev uk (x : Un) : NestedKey := nk x.f x.d x.u
theorem uk_inj (h : uk x = uk y) : x = y := by
  obtain ⟨h1, h2, h3⟩ := nk_inj h
  obtain ⟨a, b, c⟩ := x
  obtain ⟨a', b', c'⟩ := y
  dsimp only at h1 h2 h3
  rw [h1, h2, h3]
theorem mem_ringKeys (W : Wd s p q) (hx : InU s p q x) {ks : List NestedKey} {k : NestedKey} : k ∈ addRing ks (ringU s x) ↔ k ∈ ks ∨ ∃ y, InU s p q y ∧ cls s y = cls s x ∧ k = uk y := by
  rw [mem_addRing.1]
  refine or_congr Iff.rfl ?_
  have sp := sl_pos W hx
  constructor
  · rintro ⟨t, ht, u, hu, rfl⟩
    obtain ⟨i, hi, rfl⟩ := ringU_mem ht
    unfold unitsIn at hu
    obtain ⟨k, hk, rfl⟩ := List.mem_map.mp hu
    have hk := List.mem_range.mp hk
    dsimp only at hk ⊢
    have hy : sh (nxi s i x) ((k : Int) - slR s x) ∈ laneU s x := by
      unfold laneU
      exact List.mem_flatMap.mpr ⟨i, List.mem_range.mpr hi, List.mem_map.mpr ⟨k, List.mem_range.mpr (by unfold Wof; omega), rfl⟩⟩
    obtain ⟨h1, h2⟩ := (mem_laneU W hx).mp hy
    refine ⟨_, h1, h2, ?_⟩
    unfold uk sh
    dsimp only
    congr 1
    show (nxi s i x).u - slR s x + (k : Int) = _
    omega
  · rintro ⟨y, h1, h2, rfl⟩
    have hy := (mem_laneU W hx).mpr ⟨h1, h2⟩
    unfold laneU at hy
    obtain ⟨i, hi, hy⟩ := List.mem_flatMap.mp hy
    obtain ⟨k, hk, rfl⟩ := List.mem_map.mp hy
    have hk := List.mem_range.mp hk
    unfold Wof at hk
    refine ⟨⟨uF s x i, uD s x i, uU s x i - slR s x, uU s x i + 1 + slL s x⟩, ?_, uU s x i - slR s x + (k : Int), ?_, ?_⟩
    · unfold ringU
      exact List.mem_map.mpr ⟨i, hi, rfl⟩
    · unfold unitsIn
      exact List.mem_map.mpr ⟨k, List.mem_range.mpr (by dsimp only; omega), rfl⟩
    · unfold uk sh
      dsimp only
      congr 1
      show _ = (nxi s i x).u - slR s x + (k : Int)
      omega
structure SInv (s : T3) (p q : Int) (st : Scan) : Prop where
  keys : ∀ y, InU s p q y → (uk y ∈ st.1 ↔ cls s y ∈ st.2.map (·.1))
  sub : ∀ k ∈ st.1, ∃ y, InU s p q y ∧ k = uk y
  nd : st.1.Nodup
  lanes : ∀ l ∈ st.2, ∃ x, InU s p q x ∧ l = laneX s p q x
  nd2 : (st.2.map (·.1)).Nodup
theorem scan_step (B : Wb s p q) {st : Scan} (I : SInv s p q st) (hx : InU s p q x) : SInv s p q (lowStep s (rgU s) x.f x.d st x.u) ∧ cls s x ∈ (lowStep s (rgU s) x.f x.d st x.u).2.map (·.1) ∧ ∀ c ∈ st.2.map (·.1), c ∈ (lowStep s (rgU s) x.f x.d st x.u).2.map (·.1) := by
  have W := B.wd
  unfold lowStep
  split
  · rename_i h
    exact ⟨I, (I.keys x hx).mp h, fun c hc => hc⟩
  · rename_i h
    have hc : cls s x ∉ st.2.map (·.1) := fun hn => h ((I.keys x hx).mpr hn)
    have e : rgU s x.f x.d x.u = ringU s x := rfl
    rw [e, laneOf_eq B hx]
    have hm : (st.2 ++ [laneX s p q x]).map (·.1) = st.2.map (·.1) ++ [cls s x] := by rw [List.map_append]; rfl
    refine ⟨⟨fun y hy => ?_, fun k hk => ?_, (mem_addRing (k := uk x)).2 I.nd, fun l hl => ?_, ?_⟩, ?_, fun c hc => ?_⟩ <;> dsimp only at *
    · rw [mem_ringKeys W hx, hm, List.mem_append, List.mem_singleton, I.keys y hy]
      refine or_congr Iff.rfl ⟨?_, fun e => ⟨y, hy, e, rfl⟩⟩
      rintro ⟨z, _, hz, e⟩
      rw [uk_inj e, hz]
    · rcases (mem_ringKeys W hx).mp hk with hk | ⟨y, hy, _, e⟩
      · exact I.sub k hk
      · exact ⟨y, hy, e⟩
    · rcases List.mem_append.mp hl with hl | hl
      · exact I.lanes l hl
      · exact ⟨x, hx, List.mem_singleton.mp hl⟩
    · rw [hm, List.nodup_append]
      exact ⟨I.nd2, by simp, fun a ha b hb e => hc (by rw [List.mem_singleton.mp hb] at e; exact e ▸ ha)⟩
    · rw [hm]; exact List.mem_append_right _ List.mem_cons_self
    · rw [hm]; exact List.mem_append_left _ hc
theorem scan_fold (B : Wb s p q) : ∀ {us : List Un} {st : Scan}, (∀ x ∈ us, InU s p q x) → SInv s p q st → SInv s p q (us.foldl (fun st x => lowStep s (rgU s) x.f x.d st x.u) st) ∧ (∀ x ∈ us, cls s x ∈ (us.foldl (fun st x => lowStep s (rgU s) x.f x.d st x.u) st).2.map (·.1)) ∧ ∀ c ∈ st.2.map (·.1), c ∈ (us.foldl (fun st x => lowStep s (rgU s) x.f x.d st x.u) st).2.map (·.1)
  | [], st, _, I => ⟨I, fun x hx => (by cases hx), fun c hc => hc⟩
  | x :: us, st, hu, I => by
    obtain ⟨I1, c1, m1⟩ := scan_step B I (hu x List.mem_cons_self)
    obtain ⟨I2, c2, m2⟩ := scan_fold B (fun y hy => hu y (List.mem_cons_of_mem _ hy)) I1
    rw [List.foldl_cons]
    refine ⟨I2, fun y hy => ?_, fun c hc => m2 c (m1 c hc)⟩
    rcases List.mem_cons.mp hy with rfl | hy
    · exact m2 _ c1
    · exact c2 y hy
/-- the lanes that the code finds: one for each class of units -/
theorem scan_done (B : Wb s p q) : SInv s p q (scanAll s (rgU s) p q) ∧ ∀ x, InU s p q x → cls s x ∈ (scanAll s (rgU s) p q).2.map (·.1) := by
  rw [scan_eq]
  obtain ⟨h1, h2, _⟩ := scan_fold B (us := Us s p q) (st := ([], [])) (fun x hx => (mem_Us B.wd).mp hx) ⟨fun y hy => by simp, fun k hk => (by cases hk), List.nodup_nil, fun l hl => (by cases hl), List.nodup_nil⟩
  exact ⟨h1, fun x hx => h2 x ((mem_Us B.wd).mpr hx)⟩
theorem lanesIn (B : Wb s p q) : LanesIn s (rgU s) p q := by
  have W := B.wd
  have I := (scan_done B).1
  refine ⟨fun i => by have := B.s5 i; omega, ⟨by have := W.p1; omega, by have := B.p5; omega, by have := W.q1; omega, by have := B.q5; omega, W.cop⟩, fun f hf d hd => ?_, ?_, ?_⟩
  · have hd := mem_dirsOn.mp hd
    obtain ⟨gR, gL, lo, mc, hi, S⟩ := dirs_spl W hf hd
    have e1 := ends_50 B hd gR
    have e2 := ends_50 B hd gL
    have e3 := S.eR
    have e4 := S.eL
    rw [side_spl S]
    dsimp only
    refine ⟨dirs_ok B hf hd, by omega, by omega, by omega, by omega, fun u h1 h2 => ?_⟩
    exact rg_ok B (x := ⟨f, d, u⟩) ⟨hf, hd, goes_ex W S h1 h2⟩
  · have := (nodup_map_of (F := uk) (nodup_Us W) fun a _ b _ e => uk_inj e)
    have h2 := I.nd.length_le_of_subset (l₂ := (Us s p q).map uk) fun k hk => by
      obtain ⟨y, hy, e⟩ := I.sub k hk
      exact List.mem_map.mpr ⟨y, (mem_Us W).mpr hy, e.symm⟩
    have := len_800 B
    rw [List.length_map] at h2
    omega
  · have h2 := I.nd2.length_le_of_subset (l₂ := (Us s p q).map (cls s)) fun k hk => by
      obtain ⟨l, hl, rfl⟩ := List.mem_map.mp hk
      obtain ⟨x, hx, rfl⟩ := I.lanes l hl
      exact List.mem_map.mpr ⟨x, (mem_Us W).mpr hx, rfl⟩
    have := len_800 B
    rw [List.length_map, List.length_map] at h2
    omega
end
end TP

/-! G15 -/
set_option maxHeartbeats 1000000
set_option linter.unusedVariables false
set_option linter.unusedSectionVars false
namespace TP
open PySem PySem.W
/-! ### the law's passes -/
section
variable {s X d : T3} {sc many τ g z : Int} {i : Int}
theorem pS_none (h : d.get i ≠ 0) : passStep s sc X d none i = some (gapM s sc X d i, absI (d.get i)) := by unfold passStep; rw [if_neg h]
theorem pS_zero (h : d.get i = 0) (b : Option (Int × Int)) : passStep s sc X d b i = b := by unfold passStep; rw [if_pos h]
theorem pS_keep (h : d.get i ≠ 0) (k : ¬ gapM s sc X d i * z < g * absI (d.get i)) : passStep s sc X d (some (g, z)) i = some (g, z) := by unfold passStep; rw [if_neg h]; dsimp only; rw [if_neg k]
theorem pS_take (h : d.get i ≠ 0) (k : gapM s sc X d i * z < g * absI (d.get i)) : passStep s sc X d (some (g, z)) i = some (gapM s sc X d i, absI (d.get i)) := by unfold passStep; rw [if_neg h]; dsimp only; rw [if_pos k]
theorem absI_pos (h : d.get i ≠ 0) : 0 < absI (d.get i) := by unfold absI; split <;> omega
theorem bestM_3 : bestM s sc X d 3 = passStep s sc X d (passStep s sc X d (passStep s sc X d none 0) 1) 2 := rfl
theorem oversM_3 {Y : T3} : oversM s sc d Y 3 = (([] ++ overStep s sc d Y 0) ++ overStep s sc d Y 1) ++ overStep s sc d Y 2 := rfl
theorem six {e o n : Int} (he : 0 ≤ e ∧ e ≤ 2) (ho : 0 ≤ o ∧ o ≤ 2) (hn : 0 ≤ n ∧ n ≤ 2) (n1 : e ≠ o) (n2 : e ≠ n) (n3 : o ≠ n) : (e = 0 ∧ o = 1 ∧ n = 2) ∨ (e = 0 ∧ o = 2 ∧ n = 1) ∨ (e = 1 ∧ o = 0 ∧ n = 2) ∨ (e = 1 ∧ o = 2 ∧ n = 0) ∨ (e = 2 ∧ o = 0 ∧ n = 1) ∨ (e = 2 ∧ o = 1 ∧ n = 0) := by omega
/-- the nearer of the two ways out -/
theorem best_ok {e o n : Int} (he : 0 ≤ e ∧ e ≤ 2) (ho : 0 ≤ o ∧ o ≤ 2) (hn : 0 ≤ n ∧ n ≤ 2) (n1 : e ≠ o) (n2 : e ≠ n) (n3 : o ≠ n) (de : d.get e ≠ 0) (do_ : d.get o ≠ 0) (dn : d.get n = 0)
    (ge : gapM s sc X d e = absI (d.get e) * τ) (go_ : τ * absI (d.get o) < gapM s sc X d o) : bestM s sc X d 3 = some (absI (d.get e) * τ, absI (d.get e)) := by
  have pe := absI_pos de
  have po := absI_pos do_
  have k1 : ¬ gapM s sc X d o * absI (d.get e) < absI (d.get e) * τ * absI (d.get o) := fun h => by
    have h2 := Int.mul_lt_mul_of_pos_right go_ pe
    have h3 : absI (d.get e) * τ * absI (d.get o) = τ * absI (d.get o) * absI (d.get e) := by grind
    omega
  have k2 : gapM s sc X d e * absI (d.get o) < gapM s sc X d o * absI (d.get e) := by
    rw [ge]
    have h2 := Int.mul_lt_mul_of_pos_right go_ pe
    have h3 : absI (d.get e) * τ * absI (d.get o) = τ * absI (d.get o) * absI (d.get e) := by grind
    omega
  rw [bestM_3]
  clear go_
  obtain ⟨rfl, rfl, rfl⟩ | ⟨rfl, rfl, rfl⟩ | ⟨rfl, rfl, rfl⟩ | ⟨rfl, rfl, rfl⟩ | ⟨rfl, rfl, rfl⟩ | ⟨rfl, rfl, rfl⟩ := six he ho hn n1 n2 n3
  · rw [pS_none de, ge, pS_keep do_ k1, pS_zero dn]
  · rw [pS_none de, ge, pS_zero dn, pS_keep do_ k1]
  · rw [pS_none do_, pS_take de k2, pS_zero dn, ge]
  · rw [pS_zero dn, pS_none de, ge, pS_keep do_ k1]
  · rw [pS_none do_, pS_zero dn, pS_take de k2, ge]
  · rw [pS_zero dn, pS_none do_, pS_take de k2, ge]
theorem absI_cases (a : Int) : (0 < a ∧ absI a = a) ∨ (a < 0 ∧ absI a = -a) ∨ (a = 0 ∧ absI a = 0) := by unfold absI; split <;> omega
theorem over_ok {e o n : Int} {Y : T3} (he : 0 ≤ e ∧ e ≤ 2) (ho : 0 ≤ o ∧ o ≤ 2) (hn : 0 ≤ n ∧ n ≤ 2) (n1 : e ≠ o) (n2 : e ≠ n) (n3 : o ≠ n) (dn : d.get n = 0)
    (h : (0 < d.get e ∧ Y.get e = s.get e * sc ∧ g = 2 * e + 1) ∨ (d.get e < 0 ∧ Y.get e = 0 ∧ g = 2 * e)) (o1 : Y.get o ≠ 0) (o2 : Y.get o ≠ s.get o * sc) : oneOf (oversM s sc d Y 3) = some g := by
  have ke : overStep s sc d Y e = [g] := by
    unfold overStep
    rcases h with ⟨h1, h2, rfl⟩ | ⟨h1, h2, rfl⟩
    · rw [if_pos ⟨h1, h2⟩, if_neg (fun k => by omega)]
      rfl
    · rw [if_neg (fun k => by omega), if_pos ⟨h1, h2⟩]
      rfl
  have ko : overStep s sc d Y o = [] := by
    unfold overStep
    rw [if_neg (fun k => o2 k.2), if_neg (fun k => o1 k.2)]
    rfl
  have kn : overStep s sc d Y n = [] := by
    unfold overStep
    rw [if_neg (fun k => by omega), if_neg (fun k => by omega)]
    rfl
  rw [oversM_3]
  obtain ⟨rfl, rfl, rfl⟩ | ⟨rfl, rfl, rfl⟩ | ⟨rfl, rfl, rfl⟩ | ⟨rfl, rfl, rfl⟩ | ⟨rfl, rfl, rfl⟩ | ⟨rfl, rfl, rfl⟩ := six he ho hn n1 n2 n3
  all_goals rw [ke, ko, kn]; rfl
theorem pass_ok {o n : Int} (hg : FaceOk g) (ho : 0 ≤ o ∧ o ≤ 2) (hn : 0 ≤ n ∧ n ≤ 2) (n1 : g / 2 ≠ o) (n2 : g / 2 ≠ n) (n3 : o ≠ n) (og : 0 < outward g d) (do_ : d.get o ≠ 0) (dn : d.get n = 0)
    (hit : (T3.add X (T3.smul τ d)).get (g / 2) = sc * level s g) (i1 : 0 < (T3.add X (T3.smul τ d)).get o) (i2 : (T3.add X (T3.smul τ d)).get o < sc * s.get o) :
    passM s sc many X d = ⟨T3.add X (T3.smul τ d), absI (d.get (g / 2)) * τ * (many / absI (d.get (g / 2))), some g⟩ := by
  have he : 0 ≤ g / 2 ∧ g / 2 ≤ 2 := by unfold FaceOk at hg; omega
  have hY := fun i => add_get X d τ i
  have de : d.get (g / 2) ≠ 0 := by rcases out_pos og with h | h <;> omega
  have hb : bestM s sc X d 3 = some (absI (d.get (g / 2)) * τ, absI (d.get (g / 2))) := by
    refine best_ok he ho hn n1 n2 n3 de do_ dn ?_ ?_
    · rw [hY] at hit
      unfold gapM
      rcases out_pos og with ⟨h1, h2⟩ | ⟨h1, h2⟩
      · rw [level_odd h1] at hit
        rw [if_pos h2, show absI (d.get (g / 2)) = d.get (g / 2) by unfold absI; rw [if_neg (by omega)]]
        grind
      · rw [level_even h1] at hit
        rw [if_neg (by omega), show absI (d.get (g / 2)) = -(d.get (g / 2)) by unfold absI; rw [if_pos h2]]
        grind
    · rw [hY] at i1 i2
      unfold gapM
      rcases absI_cases (d.get o) with ⟨h1, h2⟩ | ⟨h1, h2⟩ | ⟨h1, h2⟩
      · rw [if_pos h1, h2, Int.mul_comm (s.get o) sc]
        omega
      · rw [if_neg (by omega), h2, Int.mul_neg]
        omega
      · exact absurd h1 do_
  have hend : endM X d (absI (d.get (g / 2)) * τ) (absI (d.get (g / 2))) = T3.add X (T3.smul τ d) := by
    have hz : absI (d.get (g / 2)) ≠ 0 := Int.ne_of_gt (absI_pos de)
    have k : ∀ a : Int, a * (absI (d.get (g / 2)) * τ) / absI (d.get (g / 2)) = τ * a := fun a => by
      rw [show a * (absI (d.get (g / 2)) * τ) = absI (d.get (g / 2)) * (τ * a) by grind, Int.mul_ediv_cancel_left _ hz]
    unfold endM T3.add T3.smul
    rw [k, k, k]
  unfold passM
  rw [hb]
  dsimp only
  rw [hend]
  refine congrArg (Pass.mk _ _) (over_ok he ho hn n1 n2 n3 dn ?_ (by omega) (by rw [Int.mul_comm]; omega))
  rcases out_pos og with ⟨h1, h2⟩ | ⟨h1, h2⟩
  · rw [level_odd h1] at hit
    exact .inl ⟨h2, by rw [hit, Int.mul_comm], by omega⟩
  · rw [level_even h1] at hit
    exact .inr ⟨h2, by rw [hit]; omega, by omega⟩
end
/-! ### halves and units -/
/-- the entrance into the unit behind y -/
def halfOf (s : T3) (p q : Int) (y : Un) : RaySt := ⟨ent s p q y.f (nx s y).f (nx s y).d (2 * (nx s y).u + 1), (nx s y).f, (nx s y).d⟩
section
variable {s : T3} {p q : Int} {x y z : Un} {n : Nat}
theorem slope_over {f g : Int} {d : T3} (W : Wd s p q) (hf : FaceOk f) (hg : FaceOk g) (n : f / 2 ≠ g / 2) (h : d.get (f / 2) = 0) : slope g f (goneOver f g d) = slope f g d := by
  have e1 := ends_slope (s := s) (d := d) hf hg n
  have e2 := ends_slope (s := s) (d := goneOver f g d) hg hf (fun e => n e.symm)
  have e3 := ends_shift (s := s) hf hg n h
  have e4 : (edgeEnds s g f (goneOver f g d)).1 = (edgeEnds s f g d).1 + grown s f g d := by unfold grown; omega
  rw [along_comm] at e2
  have hS := pos_get W.pos (along f g)
  refine Int.eq_of_mul_eq_mul_right (show s.get (along f g) ≠ 0 by omega) ?_
  omega
theorem half_in (W : Wd s p q) {t : RaySt} (h : t ∈ halves s p q) : ∃ y, InU s p q y ∧ t = halfOf s p q y := by
  unfold halves at h
  obtain ⟨fi, hfi, h⟩ := List.mem_flatMap.mp h
  unfold hF at h
  obtain ⟨gi, hgi, h⟩ := List.mem_flatMap.mp h
  have hf : FaceOk (fi : Int) := by have := List.mem_range.mp hfi; constructor <;> omega
  have hg : FaceOk (gi : Int) := by have := List.mem_range.mp hgi; constructor <;> omega
  generalize (fi : Int) = f at *
  generalize (gi : Int) = g at *
  unfold hG at h
  split at h
  · cases h
  · rename_i n
    obtain ⟨d, hd, h⟩ := List.mem_flatMap.mp h
    unfold hD at h
    obtain ⟨k, hk, rfl⟩ := List.mem_map.mp h
    have hk := List.mem_range.mp hk
    have z := dirs_zero W hf hd
    have hS := pos_get W.pos (alongOf f g)
    have o0 : 0 < outward g d := by
      refine Classical.byContradiction fun hn => ?_
      have := Int.mul_nonpos_of_nonpos_of_nonneg (show outward g d ≤ 0 by omega) (show 0 ≤ s.get (alongOf f g) by omega)
      omega
    have so := slope_over W hf hg n z
    have e1 := ends_slope (s := s) (d := d) hf hg n
    have e4 : (edgeEnds s g f (goneOver f g d)).1 = (edgeEnds s f g d).1 + grown s f g d := by unfold grown; omega
    have hal : along f g = alongOf f g := rfl
    rw [hal] at e1
    have key : ∀ v, mn s f g d ≤ v → v + 1 ≤ mx s f g d → (2 * (v + grown s f g d) + 1 - 2 * (edgeEnds s g f (goneOver f g d)).1) * (p * q / slope g f (goneOver f g d)) = (2 * (k : Int) + 1) * (p * q / outward g d) → ∃ y, InU s p q y ∧ hK s p q f g d k = halfOf s p q y := fun v v1 v2 e => by
      have hG : Goes s ⟨f, d, v⟩ g := ⟨hg, fun e => n e.symm, o0, v1, v2⟩
      have hI : InU s p q ⟨f, d, v⟩ := ⟨hf, hd, g, hG⟩
      refine ⟨⟨f, d, v⟩, hI, ?_⟩
      unfold halfOf hK
      rw [nx_of W hI hG]
      unfold go
      dsimp only
      unfold ent
      rw [e]
      rfl
    unfold mn mx at key
    rcases slope_out (d := d) hf hg n with hs | hs
    · rw [hs] at so e1
      refine key ((edgeEnds s f g d).1 + k) (by omega) (by omega) ?_
      rw [so, e4]
      congr 1
      omega
    · rw [hs] at so e1
      rw [Int.neg_mul] at e1
      refine key ((edgeEnds s f g d).1 - k - 1) (by omega) (by omega) ?_
      rw [so, e4, Int.ediv_neg, show 2 * ((edgeEnds s f g d).1 - (k : Int) - 1 + grown s f g d) + 1 - 2 * ((edgeEnds s f g d).1 + grown s f g d) = -(2 * (k : Int) + 1) by omega]
      rw [Int.neg_mul_neg]
theorem half_all (W : Wd s p q) (h : InU s p q y) : halfOf s p q y ∈ halves s p q := by
  obtain ⟨hf, hd, g, hG⟩ := h
  have hI : InU s p q y := ⟨hf, hd, g, hG⟩
  have hG0 := hG
  obtain ⟨hg, n, o0, v1, v2⟩ := hG
  have n : y.f / 2 ≠ g / 2 := fun e => n e.symm
  have z := dirs_zero W hf hd
  have so := slope_over W hf hg n z
  have e1 := ends_slope (s := s) (d := y.d) hf hg n
  have e4 : (edgeEnds s g y.f (goneOver y.f g y.d)).1 = (edgeEnds s y.f g y.d).1 + grown s y.f g y.d := by unfold grown; omega
  have hal : along y.f g = alongOf y.f g := rfl
  rw [hal] at e1
  have key : ∀ k : Nat, (k : Int) < outward g y.d * s.get (alongOf y.f g) → (2 * (y.u + grown s y.f g y.d) + 1 - 2 * (edgeEnds s g y.f (goneOver y.f g y.d)).1) * (p * q / slope g y.f (goneOver y.f g y.d)) = (2 * (k : Int) + 1) * (p * q / outward g y.d) → halfOf s p q y ∈ halves s p q := fun k hk e => by
    have hh : halfOf s p q y = hK s p q y.f g y.d k := by
      unfold halfOf hK
      rw [nx_of W hI hG0]
      unfold go
      dsimp only
      unfold ent
      rw [e]
      rfl
    rw [hh]
    have hfn : ((y.f.toNat : Nat) : Int) = y.f := by have := hf.1; omega
    have hgn : ((g.toNat : Nat) : Int) = g := by have := hg.1; omega
    unfold halves
    refine List.mem_flatMap.mpr ⟨y.f.toNat, List.mem_range.mpr (by have := hf.2; omega), ?_⟩
    unfold hF
    refine List.mem_flatMap.mpr ⟨g.toNat, List.mem_range.mpr (by have := hg.2; omega), ?_⟩
    rw [hfn, hgn]
    unfold hG
    rw [if_neg n]
    refine List.mem_flatMap.mpr ⟨y.d, hd, ?_⟩
    unfold hD
    exact List.mem_map.mpr ⟨k, List.mem_range.mpr (by omega), rfl⟩
  unfold mn at v1
  unfold mx at v2
  have hS := pos_get W.pos (alongOf y.f g)
  have hp : 0 < outward g y.d * s.get (alongOf y.f g) := Int.mul_pos o0 (by omega)
  rcases slope_out (d := y.d) hf hg n with hs | hs
  · rw [hs] at so e1
    refine key (y.u - (edgeEnds s y.f g y.d).1).toNat (by omega) ?_
    rw [so, e4]
    congr 1
    omega
  · rw [hs] at so e1
    rw [Int.neg_mul] at e1
    refine key ((edgeEnds s y.f g y.d).1 - y.u - 1).toNat (by omega) ?_
    rw [so, e4, Int.ediv_neg, show 2 * (y.u + grown s y.f g y.d) + 1 - 2 * ((edgeEnds s y.f g y.d).1 + grown s y.f g y.d) = -(2 * (((edgeEnds s y.f g y.d).1 - y.u - 1).toNat : Int) + 1) by omega]
    rw [Int.neg_mul_neg]
theorem half_inj (W : Wd s p q) (hx : InU s p q x) (hy : InU s p q y) (e : halfOf s p q x = halfOf s p q y) : x = y := by
  refine nx_inj W hx hy ?_
  have hx1 := unit_step W hx 0
  have hy1 := unit_step W hy 0
  have k : ∀ {z : Un}, InU s p q z → measure (nx s z).f (nx s z).d (halfOf s p q z).pt = (2 * (nx s z).u + 1) * (p * q) := fun {z} hz => by
    have hn := nx_in W hz
    have R := unit_run W hz
    exact ent_meas W hn.1 hz.1 (fun e => R.ne 0 e.symm) hn.2.1
  have e1 : (nx s x).f = (nx s y).f := congrArg RaySt.on e
  have e2 : (nx s x).d = (nx s y).d := congrArg RaySt.way e
  have k1 := k hx
  rw [e, e1, e2, k hy] at k1
  have pq : 0 < p * q := Int.mul_pos (by have := W.p1; omega) (by have := W.q1; omega)
  have e3 : 2 * (nx s y).u + 1 = 2 * (nx s x).u + 1 := Int.eq_of_mul_eq_mul_right (Int.ne_of_gt pq) k1
  generalize nx s x = a at *
  generalize nx s y = b at *
  obtain ⟨a1, a2, a3⟩ := a
  obtain ⟨b1, b2, b3⟩ := b
  dsimp only at e1 e2 e3
  rw [e1, e2, show a3 = b3 by omega]
theorem half_pass (W : Wd s p q) (hy : InU s p q y) : ∃ τ, 0 < τ ∧ (halfOf s p q (nx s y)).pt = T3.add (halfOf s p q y).pt (T3.smul τ (halfOf s p q y).way) ∧
    passM s (2 * (p * q)) (p * q) (halfOf s p q y).pt (halfOf s p q y).way = ⟨(halfOf s p q (nx s y)).pt, p * q * τ, some (halfOf s p q (nx s y)).on⟩ := by
  have R := unit_run W hy
  obtain ⟨τ, T⟩ := R.taus W
  have T0 := T 0
  have hon := R.on 0
  have hX0 : Xs s p q (uF s y) (uD s y) (fun i => 2 * uU s y i + 1) 0 = (halfOf s p q y).pt := rfl
  have hX1 : Xs s p q (uF s y) (uD s y) (fun i => 2 * uU s y i + 1) 1 = (halfOf s p q (nx s y)).pt := rfl
  rw [show (0 : Nat) + 1 = 1 from rfl, hX0, hX1] at T0
  rw [show (0 : Nat) + 1 = 1 from rfl, hX1] at hon
  have f1 := R.face 1
  have f2 := R.face 2
  have ne1 : uF s y 1 / 2 ≠ uF s y 2 / 2 := R.ne 1
  have o1 : 0 < outward (uF s y 2) (uD s y 1) := R.out 1
  have z1 := dirs_zero W f1 (R.dir 1)
  have al := al_ok f1 f2 ne1
  have c2 : 2 * (p * q) = 2 * p * q := by grind
  have hin : 0 < (halfOf s p q (nx s y)).pt.get (along (uF s y 2) (uF s y 1)) ∧ (halfOf s p q (nx s y)).pt.get (along (uF s y 2) (uF s y 1)) < 2 * p * q * s.get (along (uF s y 2) (uF s y 1)) := by
    obtain ⟨_, _, b3, b4⟩ := R.back W 1
    exact ent_in W f2 f1 (fun e => ne1 e.symm) (R.dir 2) b3 b4
  rw [along_comm] at hin
  refine ⟨τ 0, T0.1, T0.2, ?_⟩
  have hdn : (uD s y 1).get (along (uF s y 1) (uF s y 2)) ≠ 0 := by
    have nz := dirs_nz W f1 (R.dir 1)
    have hax : along (uF s y 1) (uF s y 2) = (axes (uF s y 1)).1 ∨ along (uF s y 1) (uF s y 2) = (axes (uF s y 1)).2 := by
      have h1 := f2.1
      have h2 := f2.2
      generalize uF s y 2 = g at *
      generalize uF s y 1 = f at *
      rcases face6 f1 with rfl | rfl | rfl | rfl | rfl | rfl <;> simp [axes, along] at ne1 ⊢ <;> omega
    rcases hax with h | h <;> rw [h]
    · exact nz.1
    · exact nz.2
  have hway : (halfOf s p q y).way = uD s y 1 := rfl
  rw [hway]
  have := pass_ok (s := s) (X := (halfOf s p q y).pt) (d := uD s y 1) (sc := 2 * (p * q)) (many := p * q) (τ := τ 0) (g := uF s y 2) (o := along (uF s y 1) (uF s y 2)) (n := uF s y 1 / 2) f2 ⟨al.1, al.2.1⟩ (by have := f1.1; have := f1.2; omega) (fun e => al.2.2.2 e.symm) (fun e => ne1 e.symm) al.2.2.1 o1 hdn z1
    (by rw [← T0.2, c2]; exact hon.2) (by rw [← T0.2]; exact hin.1) (by rw [← T0.2, c2]; exact hin.2)
  rw [this, ← T0.2]
  refine congrArg (fun L => Pass.mk _ L _) ?_
  obtain ⟨a, b, hd, ha, hb, _, hab, _⟩ := dirs_ab W (R.dir 1)
  have hdv : absI ((uD s y 1).get (uF s y 2 / 2)) ∣ p * q := by
    have so := slope_dvd W f1 f2 ne1 (R.dir 1)
    have h3 : absI ((uD s y 1).get (uF s y 2 / 2)) = outward (uF s y 2) (uD s y 1) := by
      unfold outward at o1 ⊢
      unfold absI
      split at o1
      · rename_i h; rw [if_pos h, if_neg (by omega)]
      · rename_i h; rw [if_neg h, if_pos (by omega)]
    rw [h3]
    rcases slope_out (d := uD s y 1) f1 f2 ne1 with h | h
    · rw [← h]; exact so.2
    · rw [h] at so; exact Int.neg_dvd.mp so.2
  obtain ⟨k, hk⟩ := hdv
  have hz : absI ((uD s y 1).get (uF s y 2 / 2)) ≠ 0 := by
    refine Int.ne_of_gt (absI_pos (i := uF s y 2 / 2) (d := uD s y 1) ?_)
    rcases out_pos o1 with h | h <;> omega
  generalize absI ((uD s y 1).get (uF s y 2 / 2)) = A at *
  rw [hk, Int.mul_ediv_cancel_left _ hz]
  grind
theorem half_next (W : Wd s p q) (hy : InU s p q y) : rayNext s (2 * (p * q)) (p * q) (halfOf s p q y) = some (halfOf s p q (nx s y)) := by
  obtain ⟨τ, _, _, hp⟩ := half_pass W hy
  unfold rayNext
  rw [hp]
  dsimp only
  refine congrArg some ?_
  have st := (unit_step W hy 1).2
  have hw : goneOver (halfOf s p q y).on (halfOf s p q (nx s y)).on (halfOf s p q y).way = (halfOf s p q (nx s y)).way := by
    show goneOver (nx s y).f (nx s (nx s y)).f (nx s y).d = (nx s (nx s y)).d
    have : nx s (nx s y) = go s (nx s y) (nx s (nx s y)).f := st
    exact (congrArg Un.d this).symm
  rw [hw]
end
end TP

/-! G16 -/
set_option maxHeartbeats 1000000
set_option linter.unusedVariables false
set_option linter.unusedSectionVars false
namespace TP
open PySem PySem.W
section
variable {s : T3} {p q : Int} {x y z : Un} {n : Nat}
/-! ### the law's rays -/
noncomputable def rayOf (s : T3) (p q : Int) (y : Un) : List RayRow := rayRows s (2 * (p * q)) (p * q) (perU s y) fun i => halfOf s p q (nxi s i y)
noncomputable def ryU (s : T3) (p q : Int) (t : RaySt) : List RayRow := by
  classical exact if h : ∃ y, InU s p q y ∧ t = halfOf s p q y then rayOf s p q h.choose else []
theorem ryU_eq (W : Wd s p q) (hy : InU s p q y) : ryU s p q (halfOf s p q y) = rayOf s p q y := by
  have h : ∃ z, InU s p q z ∧ halfOf s p q y = halfOf s p q z := ⟨y, hy, rfl⟩
  unfold ryU
  rw [dif_pos h]
  have e := half_inj W h.choose_spec.1 hy h.choose_spec.2.symm
  rw [e]
abbrev hk (s : T3) (p q : Int) (y : Un) : NestedKey := hkey (halfOf s p q y).pt (halfOf s p q y).on (halfOf s p q y).way
theorem hkey_inj {a a' b b' : T3} {o o' : Int} (h : hkey a o b = hkey a' o' b') : a = a' ∧ o = o' ∧ b = b' := by
  unfold hkey at h
  simp only [NestedKey.tup.injEq, List.cons.injEq, NestedKey.num.injEq, and_true] at h
  obtain ⟨⟨h1, h2, h3⟩, h4, h5, h6, h7⟩ := h
  exact ⟨Prod.ext h1 (Prod.ext h2 h3), h4, Prod.ext h5 (Prod.ext h6 h7)⟩
theorem hk_inj (W : Wd s p q) (hx : InU s p q x) (hy : InU s p q y) (e : hk s p q x = hk s p q y) : x = y := by
  obtain ⟨h1, h2, h3⟩ := hkey_inj e
  refine half_inj W hx hy ?_
  generalize halfOf s p q x = a at *
  generalize halfOf s p q y = b at *
  obtain ⟨a1, a2, a3⟩ := a
  obtain ⟨b1, b2, b3⟩ := b
  dsimp only at h1 h2 h3
  rw [h1, h2, h3]
noncomputable def orbU (s : T3) (y : Un) : List Un := (List.range (perU s y)).map fun i => nxi s i y
theorem orbU_len : (orbU s y).length = perU s y := by unfold orbU; rw [List.length_map, List.length_range]
theorem orbU_nodup (W : Wd s p q) (hy : InU s p q y) : (orbU s y).Nodup :=
  nodup_map_of List.nodup_range fun a ha b hb e => it_diff (U_cl W) (U_inj W) hy (perU_ok W hy) (List.mem_range.mp ha) (List.mem_range.mp hb) e
theorem mem_orbU (W : Wd s p q) (hy : InU s p q y) : z ∈ orbU s y ↔ ∃ i, z = nxi s i y := by
  unfold orbU
  rw [List.mem_map]
  constructor
  · rintro ⟨i, _, rfl⟩
    exact ⟨i, rfl⟩
  · rintro ⟨i, rfl⟩
    exact ⟨i % perU s y, List.mem_range.mpr (Nat.mod_lt _ (perU_ok W hy).1), u_mod W hy i⟩
theorem ray_keys (W : Wd s p q) (hy : InU s p q y) {ks : List NestedKey} {k : NestedKey} : (k ∈ rowsKeys ks (rayOf s p q y) ↔ k ∈ ks ∨ ∃ z ∈ orbU s y, k = hk s p q z) ∧ (ks.Nodup → (rowsKeys ks (rayOf s p q y)).Nodup) := by
  obtain ⟨h1, h2⟩ := fold_addK (us := rayOf s p q y) (ks := ks) (k := k) (gk := fun r => hkey r.pt r.on r.way)
  refine ⟨h1.trans (or_congr Iff.rfl ?_), h2⟩
  unfold rayOf rayRows orbU
  constructor
  · rintro ⟨r, hr, rfl⟩
    obtain ⟨i, hi, rfl⟩ := List.mem_map.mp hr
    exact ⟨_, List.mem_map.mpr ⟨i, hi, rfl⟩, rfl⟩
  · rintro ⟨z, hz, rfl⟩
    obtain ⟨i, hi, rfl⟩ := List.mem_map.mp hz
    exact ⟨_, List.mem_map.mpr ⟨i, hi, rfl⟩, rfl⟩
theorem ray_faces (W : Wd s p q) (hy : InU s p q y) : rowsFaces (rayOf s p q y) = cls s y := by
  unfold rowsFaces rayOf rayRows
  rw [List.map_map]
  have e : ((fun r : RayRow => r.on) ∘ fun i => rayRow s (2 * (p * q)) (p * q) (halfOf s p q (nxi s i y))) = uF s (nx s y) := funext fun i => by
    show (nx s (nxi s i y)).f = (nxi s i (nx s y)).f
    exact congrArg Un.f (it_succ (F := nx s) i y)
  rw [e, ← perU_nxi W hy 1]
  exact cls_nxi W hy 1
theorem ray_len (W : Wd s p q) (hy : InU s p q y) : rowsLen p q (rayOf s p q y) = Lof s p q y := by
  obtain ⟨τ, T, hs⟩ := isLen_by W hy (Lof_ok W hy)
  have R := unit_run W hy
  have e : ∀ i, (rayRow s (2 * (p * q)) (p * q) (halfOf s p q (nxi s i y))).len = p * q * τ i := fun i => by
    obtain ⟨t, t0, h1, h2⟩ := half_pass W (nxi_in W hy i)
    show (passM s (2 * (p * q)) (p * q) (halfOf s p q (nxi s i y)).pt (halfOf s p q (nxi s i y)).way).len = _
    rw [h2]
    dsimp only
    have h3 := (T i).2
    have hX0 : Xs s p q (uF s y) (uD s y) (fun i => 2 * uU s y i + 1) i = (halfOf s p q (nxi s i y)).pt := rfl
    have hX1 : Xs s p q (uF s y) (uD s y) (fun i => 2 * uU s y i + 1) (i + 1) = (halfOf s p q (nx s (nxi s i y))).pt := rfl
    have hw : (halfOf s p q (nxi s i y)).way = uD s y (i + 1) := rfl
    rw [hX0, hX1, h1, hw] at h3
    rw [tau_one (out_some (R.out (i + 1))) h3]
  unfold rowsLen rayOf rayRows
  rw [List.map_map]
  have e2 : ((fun r : RayRow => r.len) ∘ fun i => rayRow s (2 * (p * q)) (p * q) (halfOf s p q (nxi s i y))) = fun i => p * q * τ i := funext e
  rw [e2, sum_map_range]
  have e3 : ∀ n, sumN (fun i => p * q * τ i) n = p * q * sumN τ n := fun n => by
    induction n with
    | zero => show (0 : Int) = p * q * 0; simp
    | succ n ih => show sumN _ n + p * q * τ n = p * q * (sumN τ n + τ n); rw [ih, Int.mul_add]
  rw [e3, hs]
  have c0 : 2 * (p * q) * (p * q) ≠ 0 := by
    have pq : 0 < p * q := Int.mul_pos (by have := W.p1; omega) (by have := W.q1; omega)
    exact Int.ne_of_gt (Int.mul_pos (by omega) pq)
  rw [show p * q * (2 * p * q * Lof s p q y) = 2 * (p * q) * (p * q) * Lof s p q y by grind, Int.mul_ediv_cancel_left _ c0]
theorem flat_le {α β : Type} {F : α → List β} {B : Nat} : ∀ {l : List α}, (∀ a ∈ l, (F a).length ≤ B) → (l.flatMap F).length ≤ l.length * B
  | [], _ => by simp
  | a :: l, h => by
    rw [List.flatMap_cons, List.length_append, List.length_cons, Nat.succ_mul]
    have h1 := h a List.mem_cons_self
    have h2 := flat_le (l := l) fun b hb => h b (List.mem_cons_of_mem _ hb)
    omega
theorem out_5 {g : Int} {d : T3} (h : ∀ i, -5 ≤ d.get i ∧ d.get i ≤ 5) : -5 ≤ outward g d ∧ outward g d ≤ 5 := by
  have := h (g / 2)
  unfold outward
  split <;> omega
theorem halves_len (B : Wb s p q) : (halves s p q).length ≤ 3600 := by
  unfold halves
  refine Nat.le_trans (flat_le (B := 600) fun f hf => ?_) (by rw [List.length_range]; exact Nat.le_refl _)
  unfold hF
  refine Nat.le_trans (flat_le (B := 100) fun g hg => ?_) (by rw [List.length_range]; exact Nat.le_refl _)
  unfold hG
  split
  · exact Nat.zero_le _
  · refine Nat.le_trans (flat_le (B := 25) fun d hd => ?_) (Nat.le_refl _)
    unfold hD
    rw [List.length_map, List.length_range]
    have h1 := out_5 (g := (g : Int)) (dirs_5 B hd)
    have h2 := B.s5 (alongOf (f : Int) (g : Int))
    have := mul_rng h1 (by omega : 0 ≤ s.get (alongOf (f : Int) (g : Int)) ∧ s.get (alongOf (f : Int) (g : Int)) ≤ 5)
    omega
/-! ### the law's scan -/
theorem oput_keys (os : OutD) (k : List Int) (v : Int × Int) : (oput os k v).map (·.1) = if k ∈ os.map (·.1) then os.map (·.1) else os.map (·.1) ++ [k] := by
  unfold oput
  split
  · rw [List.map_map]
    refine List.map_congr_left fun e _ => ?_
    show (if e.1 = k then (k, v) else e).1 = e.1
    split
    · rename_i h; exact h.symm
    · rfl
  · rw [List.map_append]
    rfl
theorem oput_mem {os : OutD} {k : List Int} {v : Int × Int} {e : List Int × Int × Int} (h : e ∈ oput os k v) : e = (k, v) ∨ (e ∈ os ∧ e.1 ≠ k) := by
  unfold oput at h
  split at h
  · obtain ⟨a, ha, rfl⟩ := List.mem_map.mp h
    by_cases hk : a.1 = k
    · rw [if_pos hk]; exact .inl rfl
    · rw [if_neg hk]; exact .inr ⟨ha, hk⟩
  · rename_i hk
    rcases List.mem_append.mp h with h | h
    · exact .inr ⟨h, fun e' => hk (e' ▸ List.mem_map.mpr ⟨e, h, rfl⟩)⟩
    · exact .inl (List.mem_singleton.mp h)
theorem oget_in {os : OutD} {e : List Int × Int × Int} (nd : (os.map (·.1)).Nodup) (h : e ∈ os) : oget os e.1 = e.2 := by
  induction os with
  | nil => cases h
  | cons a os ih =>
    rw [List.map_cons, List.nodup_cons] at nd
    unfold oget
    rw [List.find?_cons]
    by_cases hk : a.1 = e.1
    · rw [decide_eq_true hk]
      rcases List.mem_cons.mp h with rfl | h
      · rfl
      · exact (nd.1 (hk ▸ List.mem_map.mpr ⟨e, h, rfl⟩)).elim
    · rw [decide_eq_false hk]
      rcases List.mem_cons.mp h with rfl | h
      · exact (hk rfl).elim
      · exact ih nd.2 h
theorem oget_out {os : OutD} {k : List Int} (h : k ∉ os.map (·.1)) : oget os k = (0, 0) := by
  unfold oget
  rw [List.find?_eq_none.mpr fun e he hk => h (List.mem_map.mpr ⟨e, he, of_decide_eq_true hk⟩)]
theorem oput_new (os : OutD) (k : List Int) (v : Int × Int) : (k, v) ∈ oput os k v := by
  unfold oput
  split
  · rename_i h
    obtain ⟨a, ha, e⟩ := List.mem_map.mp h
    exact List.mem_map.mpr ⟨a, ha, by rw [if_pos e]⟩
  · exact List.mem_append_right _ List.mem_cons_self
theorem oput_old {os : OutD} {k : List Int} {v : Int × Int} {e : List Int × Int × Int} (h : e ∈ os) (n : e.1 ≠ k) : e ∈ oput os k v := by
  unfold oput
  split
  · exact List.mem_map.mpr ⟨e, h, by rw [if_neg n]⟩
  · exact List.mem_append_left _ h
open Classical in
noncomputable def cnt (s : T3) (p q : Int) (ks : List NestedKey) (c : List Int) : Nat := (Us s p q).countP fun y => decide (cls s y = c ∧ hk s p q y ∈ ks)
theorem countP_or {α : Type} {f g h : α → Bool} : ∀ {l : List α}, (∀ a ∈ l, h a = (f a || g a)) → (∀ a ∈ l, ¬ (f a = true ∧ g a = true)) → l.countP h = l.countP f + l.countP g
  | [], _, _ => rfl
  | a :: l, e, d => by
    have ih := countP_or (l := l) (f := f) (g := g) (h := h) (fun b hb => e b (List.mem_cons_of_mem _ hb)) fun b hb => d b (List.mem_cons_of_mem _ hb)
    have ea := e a List.mem_cons_self
    have da := d a List.mem_cons_self
    rw [List.countP_cons, List.countP_cons, List.countP_cons, ih, ea]
    cases hf : f a <;> cases hg : g a <;> simp [hf, hg] at da ⊢ <;> omega
structure LInv (s : T3) (p q : Int) (st : LawSt) : Prop where
  cl : ∀ y, InU s p q y → hk s p q y ∈ st.1 → hk s p q (nx s y) ∈ st.1
  sub : ∀ k ∈ st.1, ∃ y, InU s p q y ∧ k = hk s p q y
  nd : st.1.Nodup
  ond : (st.2.map (·.1)).Nodup
  out : ∀ e ∈ st.2, ∃ y, InU s p q y ∧ e.1 = cls s y ∧ e.2.1 = Lof s p q y
  cover : ∀ y, InU s p q y → hk s p q y ∈ st.1 → cls s y ∈ st.2.map (·.1)
  count : ∀ e ∈ st.2, (e.1.length : Int) * e.2.2 = (cnt s p q st.1 e.1 : Int)
theorem cl_all (W : Wd s p q) {st : LawSt} (I : LInv s p q st) (hy : InU s p q y) (h : hk s p q y ∈ st.1) : ∀ i, hk s p q (nxi s i y) ∈ st.1
  | 0 => h
  | i + 1 => I.cl _ (nxi_in W hy i) (cl_all W I hy h i)
theorem law_step (B : Wb s p q) {st : LawSt} (I : LInv s p q st) (hy : InU s p q y) :
    LInv s p q (halfStep p q (ryU s p q) st (halfOf s p q y)) ∧ hk s p q y ∈ (halfStep p q (ryU s p q) st (halfOf s p q y)).1 ∧ ∀ k ∈ st.1, k ∈ (halfStep p q (ryU s p q) st (halfOf s p q y)).1 := by
  have W := B.wd
  unfold halfStep
  split
  · rename_i h
    exact ⟨I, h, fun k hk => hk⟩
  · rename_i h
    rw [ryU_eq W hy, ray_faces W hy, ray_len W hy]
    have km : ∀ k, k ∈ rowsKeys st.1 (rayOf s p q y) ↔ k ∈ st.1 ∨ ∃ z ∈ orbU s y, k = hk s p q z := fun k => (ray_keys W hy).1
    have hz : ∀ z ∈ orbU s y, InU s p q z ∧ cls s z = cls s y ∧ hk s p q z ∉ st.1 := fun z hz => by
      obtain ⟨i, rfl⟩ := (mem_orbU W hy).mp hz
      refine ⟨nxi_in W hy i, cls_nxi W hy i, fun hm => h ?_⟩
      have hp := perU_ok W hy
      have := cl_all W I (nxi_in W hy i) hm (perU s y * i - i)
      rw [nxi_nxi, Nat.sub_add_cancel (Nat.le_mul_of_pos_left i hp.1), show nxi s (perU s y * i) y = y from it_mul hp.2.1 i] at this
      exact this
    have hm : ∀ z, InU s p q z → (hk s p q z ∈ rowsKeys st.1 (rayOf s p q y) ↔ hk s p q z ∈ st.1 ∨ z ∈ orbU s y) := fun z hzU => by
      rw [km]
      refine or_congr Iff.rfl ⟨?_, fun h => ⟨z, h, rfl⟩⟩
      rintro ⟨w, hw, e⟩
      rw [hk_inj W hzU (hz w hw).1 e]
      exact hw
    have cn : ∀ c, cnt s p q (rowsKeys st.1 (rayOf s p q y)) c = cnt s p q st.1 c + (if c = cls s y then perU s y else 0) := fun c => by
      classical
      have e1 : cnt s p q (rowsKeys st.1 (rayOf s p q y)) c = cnt s p q st.1 c + (Us s p q).countP fun z => decide (cls s z = c ∧ z ∈ orbU s y) := by
        unfold cnt
        refine countP_or (fun a ha => ?_) (fun a ha => ?_)
        · have := hm a ((mem_Us W).mp ha)
          simp only [this, ← Bool.decide_or]
          refine decide_eq_decide.mpr ?_
          constructor
          · rintro ⟨h1, h2 | h2⟩
            · exact .inl ⟨h1, h2⟩
            · exact .inr ⟨h1, h2⟩
          · rintro (⟨h1, h2⟩ | ⟨h1, h2⟩)
            · exact ⟨h1, .inl h2⟩
            · exact ⟨h1, .inr h2⟩
        · rintro ⟨h1, h2⟩
          exact (hz a (of_decide_eq_true h2).2).2.2 (of_decide_eq_true h1).2
      rw [e1]
      congr 1
      split
      · rename_i hc
        rw [List.countP_eq_length_filter, ← orbU_len (s := s) (y := y)]
        refine ((List.perm_ext_iff_of_nodup ((nodup_Us W).filter _) (orbU_nodup W hy)).mpr fun z => ?_).length_eq
        rw [List.mem_filter, decide_eq_true_eq, mem_Us W]
        exact ⟨fun h => h.2.2, fun h => ⟨(hz z h).1, by rw [(hz z h).2.1, hc], h⟩⟩
      · rename_i hc
        refine List.countP_eq_zero.mpr fun z hzU hz' => ?_
        have hz' := of_decide_eq_true hz'
        exact hc (by rw [← hz'.1, (hz z hz'.2).2.1])
    have kd : (oput st.2 (cls s y) (Lof s p q y, (oget st.2 (cls s y)).2 + 1)).map (·.1) = if cls s y ∈ st.2.map (·.1) then st.2.map (·.1) else st.2.map (·.1) ++ [cls s y] := oput_keys _ _ _
    have cin : ∀ c, c ∈ (oput st.2 (cls s y) (Lof s p q y, (oget st.2 (cls s y)).2 + 1)).map (·.1) ↔ c ∈ st.2.map (·.1) ∨ c = cls s y := fun c => by
      rw [kd]
      split
      · rename_i hc
        exact ⟨.inl, fun h => h.elim id fun e => e ▸ hc⟩
      · rw [List.mem_append, List.mem_singleton]
    refine ⟨⟨fun z hzU hzk => ?_, fun k hkk => ?_, ((ray_keys (k := hk s p q y)) W hy).2 I.nd, ?_, fun e he => ?_, fun z hzU hzk => ?_, fun e he => ?_⟩, ?_, fun k hk => (km k).mpr (.inl hk)⟩ <;> dsimp only at *
    · rcases (hm z hzU).mp hzk with h1 | h1
      · exact (km _).mpr (.inl (I.cl z hzU h1))
      · obtain ⟨i, rfl⟩ := (mem_orbU W hy).mp h1
        exact (hm _ (nx_in W hzU)).mpr (.inr ((mem_orbU W hy).mpr ⟨i + 1, rfl⟩))
    · rcases (km k).mp hkk with h1 | ⟨z, h1, e⟩
      · exact I.sub k h1
      · exact ⟨z, (hz z h1).1, e⟩
    · rw [kd]
      split
      · exact I.ond
      · rename_i hc
        rw [List.nodup_append]
        exact ⟨I.ond, by simp, fun a ha b hb e => hc (by rw [List.mem_singleton.mp hb] at e; exact e ▸ ha)⟩
    · rcases oput_mem he with rfl | ⟨he, _⟩
      · exact ⟨y, hy, rfl, rfl⟩
      · exact I.out e he
    · rw [cin]
      rcases (hm z hzU).mp hzk with h1 | h1
      · exact .inl (I.cover z hzU h1)
      · exact .inr (hz z h1).2.1
    · rw [cn]
      rcases oput_mem he with rfl | ⟨he, hne⟩
      · dsimp only
        rw [if_pos rfl, cls_len W hy]
        by_cases hc : cls s y ∈ st.2.map (·.1)
        · obtain ⟨e', he', ec⟩ := List.mem_map.mp hc
          have := I.count e' he'
          rw [← ec, oget_in I.ond he']
          rw [ec] at this ⊢
          rw [cls_len W hy] at this
          rw [Int.mul_add, this]
          omega
        · rw [oget_out hc]
          have h0 : cnt s p q st.1 (cls s y) = 0 := by
            refine List.countP_eq_zero.mpr fun z hzU hz' => ?_
            have hz' := of_decide_eq_true hz'
            exact hc (hz'.1 ▸ I.cover z ((mem_Us W).mp hzU) hz'.2)
          rw [h0]
          dsimp only
          omega
      · rw [if_neg hne, I.count e he]
        omega
    · exact (hm y hy).mpr (.inr ((mem_orbU W hy).mpr ⟨0, rfl⟩))
theorem law_fold (B : Wb s p q) : ∀ {ts : List RaySt} {st : LawSt}, (∀ t ∈ ts, ∃ y, InU s p q y ∧ t = halfOf s p q y) → LInv s p q st →
    LInv s p q (ts.foldl (halfStep p q (ryU s p q)) st) ∧ (∀ y, InU s p q y → halfOf s p q y ∈ ts → hk s p q y ∈ (ts.foldl (halfStep p q (ryU s p q)) st).1) ∧ ∀ k ∈ st.1, k ∈ (ts.foldl (halfStep p q (ryU s p q)) st).1
  | [], st, _, I => ⟨I, fun y _ h => (by cases h), fun k hk => hk⟩
  | t :: ts, st, ht, I => by
    obtain ⟨y, hy, rfl⟩ := ht t List.mem_cons_self
    obtain ⟨I1, c1, m1⟩ := law_step B I hy
    obtain ⟨I2, c2, m2⟩ := law_fold B (fun u hu => ht u (List.mem_cons_of_mem _ hu)) I1
    rw [List.foldl_cons]
    refine ⟨I2, fun z hz h => ?_, fun k hk => m2 k (m1 k hk)⟩
    rcases List.mem_cons.mp h with h | h
    · rw [half_inj B.wd hz hy h]
      exact m2 _ c1
    · exact c2 z hz h
theorem law_done (B : Wb s p q) : LInv s p q (lawScan s p q (ryU s p q)) ∧ ∀ y, InU s p q y → hk s p q y ∈ (lawScan s p q (ryU s p q)).1 := by
  obtain ⟨h1, h2, _⟩ := law_fold B (ts := halves s p q) (st := ([], [])) (fun t ht => half_in B.wd ht) ⟨fun y _ h => (by cases h), fun k hk => (by cases hk), List.nodup_nil, List.nodup_nil, fun l hl => (by cases hl), fun y _ h => (by cases h), fun l hl => (by cases hl)⟩
  exact ⟨h1, fun y hy => h2 y hy (half_all B.wd hy)⟩
theorem law_out (B : Wb s p q) : (∀ e ∈ (lawScan s p q (ryU s p q)).2, ∃ y, InU s p q y ∧ e = laneX s p q y) ∧ ∀ y, InU s p q y → laneX s p q y ∈ (lawScan s p q (ryU s p q)).2 := by
  have W := B.wd
  obtain ⟨I, all⟩ := law_done B
  have h1 : ∀ e ∈ (lawScan s p q (ryU s p q)).2, ∃ y, InU s p q y ∧ e = laneX s p q y := fun e he => by
    obtain ⟨y, hy, e1, e2⟩ := I.out e he
    refine ⟨y, hy, ?_⟩
    have hc := I.count e he
    have h2 : cnt s p q (lawScan s p q (ryU s p q)).1 e.1 = ((Us s p q).filter fun z => decide (cls s z = cls s y)).length := by
      classical
      unfold cnt
      rw [List.countP_eq_length_filter, e1]
      congr 1
      refine List.filter_congr fun z hz => ?_
      refine decide_eq_decide.mpr ⟨fun h => h.1, fun h => ⟨h, all z ((mem_Us W).mp hz)⟩⟩
    rw [h2, class_size W hy, e1, cls_len W hy] at hc
    have n0 := (perU_ok W hy).1
    have e3 : e.2.2 = Wof s y := Int.eq_of_mul_eq_mul_left (by omega) hc
    obtain ⟨a, b, c⟩ := e
    dsimp only at e1 e2 e3
    unfold laneX
    rw [e1, e2, e3]
  refine ⟨h1, fun y hy => ?_⟩
  obtain ⟨e, he, ec⟩ := List.mem_map.mp (I.cover y hy (all y hy))
  obtain ⟨z, hz, rfl⟩ := h1 e he
  rw [laneX_cls W hy hz ec.symm]
  exact he
theorem lawIn (B : Wb s p q) : LawIn s p q (ryU s p q) := by
  have W := B.wd
  have I := (law_done B).1
  refine ⟨fun h hh => ?_, halves_len B, ?_, ?_⟩
  · obtain ⟨y, hy, rfl⟩ := half_in W hh
    have hp := perU_ok W hy
    have R := unit_run W hy
    refine ⟨perU s y, fun i => halfOf s p q (nxi s i y), rfl, ⟨hp.1, (per_400 B hy).1, fun i _ => half_next W (nxi_in W hy i), ?_, fun i i0 hi e => ?_, fun i _ => ⟨R.face (i + 1), fun j => ?_, out_some (R.out (i + 1))⟩⟩, (per_400 B hy).2, ryU_eq W hy⟩
    · show halfOf s p q (nxi s (perU s y) y) = halfOf s p q (nxi s 0 y)
      rw [show nxi s (perU s y) y = y from hp.2.1]
      rfl
    · exact hp.2.2 i i0 hi (half_inj W (nxi_in W hy i) hy e)
    · have := dirs_5 B (R.dir (i + 1)) j
      show -1000000 < (uD s y (i + 1)).get j ∧ (uD s y (i + 1)).get j < 1000000
      omega
  · have h2 := I.nd.length_le_of_subset (l₂ := (Us s p q).map (hk s p q)) fun k hkk => by
      obtain ⟨y, hy, e⟩ := I.sub k hkk
      exact List.mem_map.mpr ⟨y, (mem_Us W).mpr hy, e.symm⟩
    have := len_800 B
    rw [List.length_map] at h2
    omega
  · have h2 := I.ond.length_le_of_subset (l₂ := (Us s p q).map (cls s)) fun k hkk => by
      obtain ⟨e, he, rfl⟩ := List.mem_map.mp hkk
      obtain ⟨y, hy, e1, _⟩ := I.out e he
      exact List.mem_map.mpr ⟨y, (mem_Us W).mpr hy, e1.symm⟩
    have := len_800 B
    rw [List.length_map, List.length_map] at h2
    omega
end
end TP

/-! G17 -/
set_option maxHeartbeats 1000000
set_option linter.unusedVariables false
set_option linter.unusedSectionVars false
namespace TP
open PySem PySem.W
/-! ### boxes seen otherwise -/
def dirH (h : How) (d : T3) : T3 := (h.sg.1 * d.get h.ord.1, h.sg.2.1 * d.get h.ord.2.1, h.sg.2.2 * d.get h.ord.2.2)
def orgH (h : How) (s : T3) : T3 := (if h.sg.1 = 1 then 0 else s.get h.ord.1, if h.sg.2.1 = 1 then 0 else s.get h.ord.2.1, if h.sg.2.2 = 1 then 0 else s.get h.ord.2.2)
def kap (h : How) (s : T3) (f : Int) (d : T3) : Int := measure (ledFace f h) (dirH h d) (orgH h s)
def EndsH (h : How) (s : T3) (f g : Int) (d : T3) : Prop :=
  ((edgeEnds (ledBox s h) (ledFace f h) (ledFace g h) (dirH h d)).1 = kap h s f d - (edgeEnds s f g d).1 ∧ (edgeEnds (ledBox s h) (ledFace f h) (ledFace g h) (dirH h d)).2 = kap h s f d - (edgeEnds s f g d).2) ∨
  ((edgeEnds (ledBox s h) (ledFace f h) (ledFace g h) (dirH h d)).1 = kap h s f d - (edgeEnds s f g d).2 ∧ (edgeEnds (ledBox s h) (ledFace f h) (ledFace g h) (dirH h d)).2 = kap h s f d - (edgeEnds s f g d).1)
/-- a way that mirrors -/
structure Gen (h : How) : Prop where
  ok : ∀ f, FaceOk f → FaceOk (ledFace f h)
  inj : ∀ f g, FaceOk f → FaceOk g → ledFace f h = ledFace g h → f = g
  half : ∀ f g, FaceOk f → FaceOk g → f / 2 ≠ g / 2 → ledFace f h / 2 ≠ ledFace g h / 2
  out : ∀ g d, FaceOk g → outward (ledFace g h) (dirH h d) = outward g d
  over : ∀ f g d, FaceOk f → FaceOk g → f / 2 ≠ g / 2 → goneOver (ledFace f h) (ledFace g h) (dirH h d) = dirH h (goneOver f g d)
  ends : ∀ s f g d, FaceOk f → FaceOk g → f / 2 ≠ g / 2 → EndsH h s f g d
  dirs : ∀ f p q d, FaceOk f → d ∈ dirs4 f p q → dirH h d ∈ dirs4 (ledFace f h) q p
  meas : ∀ f d e, FaceOk f → d.get (f / 2) = 0 → e.get (f / 2) = 0 → measure (ledFace f h) (dirH h d) (dirH h e) = -(measure f d e)
  zero : ∀ f d, FaceOk f → d.get (f / 2) = 0 → (dirH h d).get (ledFace f h / 2) = 0
  dinj : ∀ d e, dirH h d = dirH h e → d = e
  sum : ∀ s, (ledBox s h).1 + (ledBox s h).2.1 + (ledBox s h).2.2 = s.1 + s.2.1 + s.2.2
  box : ∀ s p q, Wb s p q → Wb (ledBox s h) q p
def hT01 : How := ⟨(1, 0, 2), (1, 1, 1)⟩
def hT12 : How := ⟨(0, 2, 1), (1, 1, 1)⟩
def hF0 : How := ⟨(0, 1, 2), (-1, 1, 1)⟩
def hF1 : How := ⟨(0, 1, 2), (1, -1, 1)⟩
def hF2 : How := ⟨(0, 1, 2), (1, 1, -1)⟩
theorem gen_T01 : Gen hT01 := by
  unfold hT01
  refine ⟨?_, ?_, ?_, ?_, ?_, ?_, ?_, ?_, ?_, ?_, ?_, ?_⟩
  · intro f hf
    rcases face6 hf with rfl | rfl | rfl | rfl | rfl | rfl <;> exact ⟨by decide, by decide⟩
  · intro f g hf hg e
    (rcases face6 (by assumption : FaceOk f) with rfl | rfl | rfl | rfl | rfl | rfl <;> rcases face6 (by assumption : FaceOk g) with rfl | rfl | rfl | rfl | rfl | rfl) <;> first | rfl | exact absurd e (by decide)
  · intro f g hf hg n
    (rcases face6 (by assumption : FaceOk f) with rfl | rfl | rfl | rfl | rfl | rfl <;> rcases face6 (by assumption : FaceOk g) with rfl | rfl | rfl | rfl | rfl | rfl) <;> first | exact absurd rfl n | decide
  · intro g d hg
    obtain ⟨x, y, z⟩ := d
    rcases face6 hg with rfl | rfl | rfl | rfl | rfl | rfl <;> simp [outward, ledFace, ledAt, dirH, T3.get]
  · intro f g d hf hg n
    obtain ⟨x, y, z⟩ := d
    (rcases face6 (by assumption : FaceOk f) with rfl | rfl | rfl | rfl | rfl | rfl <;> rcases face6 (by assumption : FaceOk g) with rfl | rfl | rfl | rfl | rfl | rfl) <;> first | exact absurd rfl n | (simp [outward, ledFace, ledAt, dirH, T3.get, T3.set, goneOver])
  · intro s f g d hf hg n
    obtain ⟨x, y, z⟩ := d
    obtain ⟨a, b, c⟩ := s
    unfold EndsH
    (rcases face6 (by assumption : FaceOk f) with rfl | rfl | rfl | rfl | rfl | rfl <;> rcases face6 (by assumption : FaceOk g) with rfl | rfl | rfl | rfl | rfl | rfl) <;> first | exact absurd rfl n | (simp [kap, orgH, ledBox, ledFace, ledAt, dirH, T3.get, T3.set, edgeEnds, measure, axes, spotAt, along, level]; try grind)
  · intro f p q d hf hd
    unfold dirs4 at hd
    simp only [List.mem_cons, List.not_mem_nil, or_false] at hd
    rcases hd with rfl | rfl | rfl | rfl <;> rcases face6 hf with rfl | rfl | rfl | rfl | rfl | rfl <;> simp [dirs4, unfr, T3.set, T3.get, axes, dirH, ledFace, ledAt]
  · intro f d e hf h1 h2
    obtain ⟨x, y, z⟩ := d
    obtain ⟨a, b, c⟩ := e
    rcases face6 hf with rfl | rfl | rfl | rfl | rfl | rfl <;> simp [dirH, ledFace, ledAt, T3.get, measure, axes] at h1 h2 ⊢ <;> grind
  · intro f d hf h1
    obtain ⟨x, y, z⟩ := d
    rcases face6 hf with rfl | rfl | rfl | rfl | rfl | rfl <;> simp [dirH, ledFace, ledAt, T3.get] at h1 ⊢ <;> exact h1
  · intro d e
    obtain ⟨x, y, z⟩ := d
    obtain ⟨a, b, c⟩ := e
    simp [dirH, T3.get] <;> (intro h1 h2 h3; simp [h1, h2, h3])
  · intro s
    obtain ⟨a, b, c⟩ := s
    simp [ledBox, T3.get] <;> omega
  · intro s p q B
    obtain ⟨a, b, c⟩ := s
    obtain ⟨⟨⟨w1, w2, w3⟩, w4, w5, w6⟩, s5, p5, q5, tot⟩ := B
    have s0 := s5 0
    have s1 := s5 1
    have s2 := s5 2
    simp [T3.get] at s0 s1 s2
    dsimp only at w1 w2 w3 tot
    refine ⟨⟨?_, w5, w4, by rw [Int.gcd_comm]; exact w6⟩, fun i => ?_, q5, p5, ?_⟩
    · unfold Pos3
      simp [ledBox, T3.get]
      omega
    · simp only [ledBox, T3.get]
      simp
      (repeat' split) <;> assumption
    · simp [ledBox, T3.get]
      have : q + p = p + q := by omega
      rw [this]
      refine Int.le_trans (Int.le_of_eq ?_) tot
      first | rfl | (congr 1; omega)
theorem gen_T12 : Gen hT12 := by
  unfold hT12
  refine ⟨?_, ?_, ?_, ?_, ?_, ?_, ?_, ?_, ?_, ?_, ?_, ?_⟩
  · intro f hf
    rcases face6 hf with rfl | rfl | rfl | rfl | rfl | rfl <;> exact ⟨by decide, by decide⟩
  · intro f g hf hg e
    (rcases face6 (by assumption : FaceOk f) with rfl | rfl | rfl | rfl | rfl | rfl <;> rcases face6 (by assumption : FaceOk g) with rfl | rfl | rfl | rfl | rfl | rfl) <;> first | rfl | exact absurd e (by decide)
  · intro f g hf hg n
    (rcases face6 (by assumption : FaceOk f) with rfl | rfl | rfl | rfl | rfl | rfl <;> rcases face6 (by assumption : FaceOk g) with rfl | rfl | rfl | rfl | rfl | rfl) <;> first | exact absurd rfl n | decide
  · intro g d hg
    obtain ⟨x, y, z⟩ := d
    rcases face6 hg with rfl | rfl | rfl | rfl | rfl | rfl <;> simp [outward, ledFace, ledAt, dirH, T3.get]
  · intro f g d hf hg n
    obtain ⟨x, y, z⟩ := d
    (rcases face6 (by assumption : FaceOk f) with rfl | rfl | rfl | rfl | rfl | rfl <;> rcases face6 (by assumption : FaceOk g) with rfl | rfl | rfl | rfl | rfl | rfl) <;> first | exact absurd rfl n | (simp [outward, ledFace, ledAt, dirH, T3.get, T3.set, goneOver])
  · intro s f g d hf hg n
    obtain ⟨x, y, z⟩ := d
    obtain ⟨a, b, c⟩ := s
    unfold EndsH
    (rcases face6 (by assumption : FaceOk f) with rfl | rfl | rfl | rfl | rfl | rfl <;> rcases face6 (by assumption : FaceOk g) with rfl | rfl | rfl | rfl | rfl | rfl) <;> first | exact absurd rfl n | (simp [kap, orgH, ledBox, ledFace, ledAt, dirH, T3.get, T3.set, edgeEnds, measure, axes, spotAt, along, level]; try grind)
  · intro f p q d hf hd
    unfold dirs4 at hd
    simp only [List.mem_cons, List.not_mem_nil, or_false] at hd
    rcases hd with rfl | rfl | rfl | rfl <;> rcases face6 hf with rfl | rfl | rfl | rfl | rfl | rfl <;> simp [dirs4, unfr, T3.set, T3.get, axes, dirH, ledFace, ledAt]
  · intro f d e hf h1 h2
    obtain ⟨x, y, z⟩ := d
    obtain ⟨a, b, c⟩ := e
    rcases face6 hf with rfl | rfl | rfl | rfl | rfl | rfl <;> simp [dirH, ledFace, ledAt, T3.get, measure, axes] at h1 h2 ⊢ <;> grind
  · intro f d hf h1
    obtain ⟨x, y, z⟩ := d
    rcases face6 hf with rfl | rfl | rfl | rfl | rfl | rfl <;> simp [dirH, ledFace, ledAt, T3.get] at h1 ⊢ <;> exact h1
  · intro d e
    obtain ⟨x, y, z⟩ := d
    obtain ⟨a, b, c⟩ := e
    simp [dirH, T3.get] <;> (intro h1 h2 h3; simp [h1, h2, h3])
  · intro s
    obtain ⟨a, b, c⟩ := s
    simp [ledBox, T3.get] <;> omega
  · intro s p q B
    obtain ⟨a, b, c⟩ := s
    obtain ⟨⟨⟨w1, w2, w3⟩, w4, w5, w6⟩, s5, p5, q5, tot⟩ := B
    have s0 := s5 0
    have s1 := s5 1
    have s2 := s5 2
    simp [T3.get] at s0 s1 s2
    dsimp only at w1 w2 w3 tot
    refine ⟨⟨?_, w5, w4, by rw [Int.gcd_comm]; exact w6⟩, fun i => ?_, q5, p5, ?_⟩
    · unfold Pos3
      simp [ledBox, T3.get]
      omega
    · simp only [ledBox, T3.get]
      simp
      (repeat' split) <;> assumption
    · simp [ledBox, T3.get]
      have : q + p = p + q := by omega
      rw [this]
      refine Int.le_trans (Int.le_of_eq ?_) tot
      first | rfl | (congr 1; omega)
theorem gen_F0 : Gen hF0 := by
  unfold hF0
  refine ⟨?_, ?_, ?_, ?_, ?_, ?_, ?_, ?_, ?_, ?_, ?_, ?_⟩
  · intro f hf
    rcases face6 hf with rfl | rfl | rfl | rfl | rfl | rfl <;> exact ⟨by decide, by decide⟩
  · intro f g hf hg e
    (rcases face6 (by assumption : FaceOk f) with rfl | rfl | rfl | rfl | rfl | rfl <;> rcases face6 (by assumption : FaceOk g) with rfl | rfl | rfl | rfl | rfl | rfl) <;> first | rfl | exact absurd e (by decide)
  · intro f g hf hg n
    (rcases face6 (by assumption : FaceOk f) with rfl | rfl | rfl | rfl | rfl | rfl <;> rcases face6 (by assumption : FaceOk g) with rfl | rfl | rfl | rfl | rfl | rfl) <;> first | exact absurd rfl n | decide
  · intro g d hg
    obtain ⟨x, y, z⟩ := d
    rcases face6 hg with rfl | rfl | rfl | rfl | rfl | rfl <;> simp [outward, ledFace, ledAt, dirH, T3.get]
  · intro f g d hf hg n
    obtain ⟨x, y, z⟩ := d
    (rcases face6 (by assumption : FaceOk f) with rfl | rfl | rfl | rfl | rfl | rfl <;> rcases face6 (by assumption : FaceOk g) with rfl | rfl | rfl | rfl | rfl | rfl) <;> first | exact absurd rfl n | (simp [outward, ledFace, ledAt, dirH, T3.get, T3.set, goneOver])
  · intro s f g d hf hg n
    obtain ⟨x, y, z⟩ := d
    obtain ⟨a, b, c⟩ := s
    unfold EndsH
    (rcases face6 (by assumption : FaceOk f) with rfl | rfl | rfl | rfl | rfl | rfl <;> rcases face6 (by assumption : FaceOk g) with rfl | rfl | rfl | rfl | rfl | rfl) <;> first | exact absurd rfl n | (simp [kap, orgH, ledBox, ledFace, ledAt, dirH, T3.get, T3.set, edgeEnds, measure, axes, spotAt, along, level]; try grind)
  · intro f p q d hf hd
    unfold dirs4 at hd
    simp only [List.mem_cons, List.not_mem_nil, or_false] at hd
    rcases hd with rfl | rfl | rfl | rfl <;> rcases face6 hf with rfl | rfl | rfl | rfl | rfl | rfl <;> simp [dirs4, unfr, T3.set, T3.get, axes, dirH, ledFace, ledAt]
  · intro f d e hf h1 h2
    obtain ⟨x, y, z⟩ := d
    obtain ⟨a, b, c⟩ := e
    rcases face6 hf with rfl | rfl | rfl | rfl | rfl | rfl <;> simp [dirH, ledFace, ledAt, T3.get, measure, axes] at h1 h2 ⊢ <;> grind
  · intro f d hf h1
    obtain ⟨x, y, z⟩ := d
    rcases face6 hf with rfl | rfl | rfl | rfl | rfl | rfl <;> simp [dirH, ledFace, ledAt, T3.get] at h1 ⊢ <;> exact h1
  · intro d e
    obtain ⟨x, y, z⟩ := d
    obtain ⟨a, b, c⟩ := e
    simp [dirH, T3.get] <;> (intro h1 h2 h3; simp [h1, h2, h3])
  · intro s
    obtain ⟨a, b, c⟩ := s
    simp [ledBox, T3.get] <;> omega
  · intro s p q B
    obtain ⟨a, b, c⟩ := s
    obtain ⟨⟨⟨w1, w2, w3⟩, w4, w5, w6⟩, s5, p5, q5, tot⟩ := B
    have s0 := s5 0
    have s1 := s5 1
    have s2 := s5 2
    simp [T3.get] at s0 s1 s2
    dsimp only at w1 w2 w3 tot
    refine ⟨⟨?_, w5, w4, by rw [Int.gcd_comm]; exact w6⟩, fun i => ?_, q5, p5, ?_⟩
    · unfold Pos3
      simp [ledBox, T3.get]
      omega
    · simp only [ledBox, T3.get]
      simp
      (repeat' split) <;> assumption
    · simp [ledBox, T3.get]
      have : q + p = p + q := by omega
      rw [this]
      refine Int.le_trans (Int.le_of_eq ?_) tot
      first | rfl | (congr 1; omega)
theorem gen_F1 : Gen hF1 := by
  unfold hF1
  refine ⟨?_, ?_, ?_, ?_, ?_, ?_, ?_, ?_, ?_, ?_, ?_, ?_⟩
  · intro f hf
    rcases face6 hf with rfl | rfl | rfl | rfl | rfl | rfl <;> exact ⟨by decide, by decide⟩
  · intro f g hf hg e
    (rcases face6 (by assumption : FaceOk f) with rfl | rfl | rfl | rfl | rfl | rfl <;> rcases face6 (by assumption : FaceOk g) with rfl | rfl | rfl | rfl | rfl | rfl) <;> first | rfl | exact absurd e (by decide)
  · intro f g hf hg n
    (rcases face6 (by assumption : FaceOk f) with rfl | rfl | rfl | rfl | rfl | rfl <;> rcases face6 (by assumption : FaceOk g) with rfl | rfl | rfl | rfl | rfl | rfl) <;> first | exact absurd rfl n | decide
  · intro g d hg
    obtain ⟨x, y, z⟩ := d
    rcases face6 hg with rfl | rfl | rfl | rfl | rfl | rfl <;> simp [outward, ledFace, ledAt, dirH, T3.get]
  · intro f g d hf hg n
    obtain ⟨x, y, z⟩ := d
    (rcases face6 (by assumption : FaceOk f) with rfl | rfl | rfl | rfl | rfl | rfl <;> rcases face6 (by assumption : FaceOk g) with rfl | rfl | rfl | rfl | rfl | rfl) <;> first | exact absurd rfl n | (simp [outward, ledFace, ledAt, dirH, T3.get, T3.set, goneOver])
  · intro s f g d hf hg n
    obtain ⟨x, y, z⟩ := d
    obtain ⟨a, b, c⟩ := s
    unfold EndsH
    (rcases face6 (by assumption : FaceOk f) with rfl | rfl | rfl | rfl | rfl | rfl <;> rcases face6 (by assumption : FaceOk g) with rfl | rfl | rfl | rfl | rfl | rfl) <;> first | exact absurd rfl n | (simp [kap, orgH, ledBox, ledFace, ledAt, dirH, T3.get, T3.set, edgeEnds, measure, axes, spotAt, along, level]; try grind)
  · intro f p q d hf hd
    unfold dirs4 at hd
    simp only [List.mem_cons, List.not_mem_nil, or_false] at hd
    rcases hd with rfl | rfl | rfl | rfl <;> rcases face6 hf with rfl | rfl | rfl | rfl | rfl | rfl <;> simp [dirs4, unfr, T3.set, T3.get, axes, dirH, ledFace, ledAt]
  · intro f d e hf h1 h2
    obtain ⟨x, y, z⟩ := d
    obtain ⟨a, b, c⟩ := e
    rcases face6 hf with rfl | rfl | rfl | rfl | rfl | rfl <;> simp [dirH, ledFace, ledAt, T3.get, measure, axes] at h1 h2 ⊢ <;> grind
  · intro f d hf h1
    obtain ⟨x, y, z⟩ := d
    rcases face6 hf with rfl | rfl | rfl | rfl | rfl | rfl <;> simp [dirH, ledFace, ledAt, T3.get] at h1 ⊢ <;> exact h1
  · intro d e
    obtain ⟨x, y, z⟩ := d
    obtain ⟨a, b, c⟩ := e
    simp [dirH, T3.get] <;> (intro h1 h2 h3; simp [h1, h2, h3])
  · intro s
    obtain ⟨a, b, c⟩ := s
    simp [ledBox, T3.get] <;> omega
  · intro s p q B
    obtain ⟨a, b, c⟩ := s
    obtain ⟨⟨⟨w1, w2, w3⟩, w4, w5, w6⟩, s5, p5, q5, tot⟩ := B
    have s0 := s5 0
    have s1 := s5 1
    have s2 := s5 2
    simp [T3.get] at s0 s1 s2
    dsimp only at w1 w2 w3 tot
    refine ⟨⟨?_, w5, w4, by rw [Int.gcd_comm]; exact w6⟩, fun i => ?_, q5, p5, ?_⟩
    · unfold Pos3
      simp [ledBox, T3.get]
      omega
    · simp only [ledBox, T3.get]
      simp
      (repeat' split) <;> assumption
    · simp [ledBox, T3.get]
      have : q + p = p + q := by omega
      rw [this]
      refine Int.le_trans (Int.le_of_eq ?_) tot
      first | rfl | (congr 1; omega)
theorem gen_F2 : Gen hF2 := by
  unfold hF2
  refine ⟨?_, ?_, ?_, ?_, ?_, ?_, ?_, ?_, ?_, ?_, ?_, ?_⟩
  · intro f hf
    rcases face6 hf with rfl | rfl | rfl | rfl | rfl | rfl <;> exact ⟨by decide, by decide⟩
  · intro f g hf hg e
    (rcases face6 (by assumption : FaceOk f) with rfl | rfl | rfl | rfl | rfl | rfl <;> rcases face6 (by assumption : FaceOk g) with rfl | rfl | rfl | rfl | rfl | rfl) <;> first | rfl | exact absurd e (by decide)
  · intro f g hf hg n
    (rcases face6 (by assumption : FaceOk f) with rfl | rfl | rfl | rfl | rfl | rfl <;> rcases face6 (by assumption : FaceOk g) with rfl | rfl | rfl | rfl | rfl | rfl) <;> first | exact absurd rfl n | decide
  · intro g d hg
    obtain ⟨x, y, z⟩ := d
    rcases face6 hg with rfl | rfl | rfl | rfl | rfl | rfl <;> simp [outward, ledFace, ledAt, dirH, T3.get]
  · intro f g d hf hg n
    obtain ⟨x, y, z⟩ := d
    (rcases face6 (by assumption : FaceOk f) with rfl | rfl | rfl | rfl | rfl | rfl <;> rcases face6 (by assumption : FaceOk g) with rfl | rfl | rfl | rfl | rfl | rfl) <;> first | exact absurd rfl n | (simp [outward, ledFace, ledAt, dirH, T3.get, T3.set, goneOver])
  · intro s f g d hf hg n
    obtain ⟨x, y, z⟩ := d
    obtain ⟨a, b, c⟩ := s
    unfold EndsH
    (rcases face6 (by assumption : FaceOk f) with rfl | rfl | rfl | rfl | rfl | rfl <;> rcases face6 (by assumption : FaceOk g) with rfl | rfl | rfl | rfl | rfl | rfl) <;> first | exact absurd rfl n | (simp [kap, orgH, ledBox, ledFace, ledAt, dirH, T3.get, T3.set, edgeEnds, measure, axes, spotAt, along, level]; try grind)
  · intro f p q d hf hd
    unfold dirs4 at hd
    simp only [List.mem_cons, List.not_mem_nil, or_false] at hd
    rcases hd with rfl | rfl | rfl | rfl <;> rcases face6 hf with rfl | rfl | rfl | rfl | rfl | rfl <;> simp [dirs4, unfr, T3.set, T3.get, axes, dirH, ledFace, ledAt]
  · intro f d e hf h1 h2
    obtain ⟨x, y, z⟩ := d
    obtain ⟨a, b, c⟩ := e
    rcases face6 hf with rfl | rfl | rfl | rfl | rfl | rfl <;> simp [dirH, ledFace, ledAt, T3.get, measure, axes] at h1 h2 ⊢ <;> grind
  · intro f d hf h1
    obtain ⟨x, y, z⟩ := d
    rcases face6 hf with rfl | rfl | rfl | rfl | rfl | rfl <;> simp [dirH, ledFace, ledAt, T3.get] at h1 ⊢ <;> exact h1
  · intro d e
    obtain ⟨x, y, z⟩ := d
    obtain ⟨a, b, c⟩ := e
    simp [dirH, T3.get] <;> (intro h1 h2 h3; simp [h1, h2, h3])
  · intro s
    obtain ⟨a, b, c⟩ := s
    simp [ledBox, T3.get] <;> omega
  · intro s p q B
    obtain ⟨a, b, c⟩ := s
    obtain ⟨⟨⟨w1, w2, w3⟩, w4, w5, w6⟩, s5, p5, q5, tot⟩ := B
    have s0 := s5 0
    have s1 := s5 1
    have s2 := s5 2
    simp [T3.get] at s0 s1 s2
    dsimp only at w1 w2 w3 tot
    refine ⟨⟨?_, w5, w4, by rw [Int.gcd_comm]; exact w6⟩, fun i => ?_, q5, p5, ?_⟩
    · unfold Pos3
      simp [ledBox, T3.get]
      omega
    · simp only [ledBox, T3.get]
      simp
      (repeat' split) <;> assumption
    · simp [ledBox, T3.get]
      have : q + p = p + q := by omega
      rw [this]
      refine Int.le_trans (Int.le_of_eq ?_) tot
      first | rfl | (congr 1; omega)
end TP

/-! G18 -/
set_option maxHeartbeats 1000000
set_option linter.unusedVariables false
set_option linter.unusedSectionVars false
namespace TP
open PySem PySem.W
def mapU (h : How) (s : T3) (x : Un) : Un := ⟨ledFace x.f h, dirH h x.d, kap h s x.f x.d - x.u - 1⟩
section
variable {h : How} {s : T3} {p q : Int} {x y : Un} {f g : Int} {d : T3}
theorem mn_H (G : Gen h) (hf : FaceOk f) (hg : FaceOk g) (n : f / 2 ≠ g / 2) : mn (ledBox s h) (ledFace f h) (ledFace g h) (dirH h d) = kap h s f d - mx s f g d ∧ mx (ledBox s h) (ledFace f h) (ledFace g h) (dirH h d) = kap h s f d - mn s f g d := by
  have := G.ends s f g d hf hg n
  unfold EndsH at this
  unfold mn mx
  omega
theorem grown_H (G : Gen h) (hf : FaceOk f) (hg : FaceOk g) (n : f / 2 ≠ g / 2) (z : d.get (f / 2) = 0) : grown (ledBox s h) (ledFace f h) (ledFace g h) (dirH h d) = kap h s g (goneOver f g d) - kap h s f d - grown s f g d := by
  obtain ⟨a1, a2⟩ := mn_over (s := s) hf hg n z
  obtain ⟨b1, b2⟩ := mn_over (s := ledBox s h) (G.ok f hf) (G.ok g hg) (G.half f g hf hg n) (G.zero f d hf z)
  obtain ⟨c1, c2⟩ := mn_H (s := s) (d := d) G hf hg n
  obtain ⟨e1, e2⟩ := mn_H (s := s) (d := goneOver f g d) G hg hf (fun e => n e.symm)
  rw [G.over f g d hf hg n] at b1 b2
  omega
theorem map_step (W : Wd s p q) (G : Gen h) (W' : Wd (ledBox s h) q p) (hx : InU s p q x) : InU (ledBox s h) q p (mapU h s x) ∧ nx (ledBox s h) (mapU h s x) = mapU h s (nx s x) := by
  have hx0 := hx
  obtain ⟨hf, hd, g, hg⟩ := hx
  have hg0 := hg
  obtain ⟨a1, a2, a3, a4, a5⟩ := hg
  have n : x.f / 2 ≠ g / 2 := fun e => a2 e.symm
  obtain ⟨c1, c2⟩ := mn_H (s := s) (d := x.d) G hf a1 n
  have hG : Goes (ledBox s h) (mapU h s x) (ledFace g h) := by
    refine ⟨G.ok g a1, fun e => G.half x.f g hf a1 n e.symm, ?_, ?_, ?_⟩
    · show 0 < outward (ledFace g h) (dirH h x.d)
      rw [G.out g x.d a1]
      exact a3
    · show mn (ledBox s h) (ledFace x.f h) (ledFace g h) (dirH h x.d) ≤ kap h s x.f x.d - x.u - 1
      omega
    · show kap h s x.f x.d - x.u - 1 + 1 ≤ mx (ledBox s h) (ledFace x.f h) (ledFace g h) (dirH h x.d)
      omega
  have hI : InU (ledBox s h) q p (mapU h s x) := ⟨G.ok _ hf, G.dirs _ _ _ _ hf hd, _, hG⟩
  refine ⟨hI, ?_⟩
  rw [nx_of W' hI hG, nx_of W hx0 hg0]
  have gr := grown_H (s := s) (d := x.d) G hf a1 n (dirs_zero W hf hd)
  unfold go mapU
  dsimp only
  rw [G.over x.f g x.d hf a1 n, gr]
  congr 1
  omega
theorem map_nxi (W : Wd s p q) (G : Gen h) (W' : Wd (ledBox s h) q p) (hx : InU s p q x) : ∀ i, nxi (ledBox s h) i (mapU h s x) = mapU h s (nxi s i x)
  | 0 => rfl
  | i + 1 => by
    show nx _ (nxi _ i (mapU h s x)) = mapU h s (nx s (nxi s i x))
    rw [map_nxi W G W' hx i, (map_step W G W' (nxi_in W hx i)).2]
theorem map_inj (G : Gen h) (hx : FaceOk x.f) (hy : FaceOk y.f) (e : mapU h s x = mapU h s y) : x = y := by
  have e1 := G.inj _ _ hx hy (congrArg Un.f e)
  have e2 := G.dinj _ _ (congrArg Un.d e)
  have e3 : kap h s x.f x.d - x.u - 1 = kap h s y.f y.d - y.u - 1 := congrArg Un.u e
  rw [e1, e2] at e3
  obtain ⟨a, b, c⟩ := x
  obtain ⟨a', b', c'⟩ := y
  dsimp only at e1 e2 e3
  rw [e1, e2, show c = c' by omega]
theorem map_surj (W : Wd s p q) (G : Gen h) (W' : Wd (ledBox s h) q p) (hy : InU (ledBox s h) q p y) : ∃ x, InU s p q x ∧ y = mapU h s x := by
  refine Classical.byContradiction fun hn => ?_
  have nd : (y :: (Us s p q).map (mapU h s)).Nodup := by
    rw [List.nodup_cons]
    refine ⟨fun hm => ?_, nodup_map_of (nodup_Us W) fun a ha b hb e => map_inj G ((mem_Us W).mp ha).1 ((mem_Us W).mp hb).1 e⟩
    obtain ⟨x, hx, e⟩ := List.mem_map.mp hm
    exact hn ⟨x, (mem_Us W).mp hx, e.symm⟩
  have := nd.length_le_of_subset (l₂ := Us (ledBox s h) q p) fun z hz => by
    rcases List.mem_cons.mp hz with rfl | hz
    · exact (mem_Us W').mpr hy
    · obtain ⟨x, hx, rfl⟩ := List.mem_map.mp hz
      exact (mem_Us W').mpr (map_step W G W' ((mem_Us W).mp hx)).1
  rw [List.length_cons, List.length_map] at this
  have h1 := len_Us W
  have h2 := len_Us W'
  rw [G.sum s, show q + p = p + q by omega] at h2
  omega
theorem map_per (W : Wd s p q) (G : Gen h) (W' : Wd (ledBox s h) q p) (hx : InU s p q x) : perU (ledBox s h) (mapU h s x) = perU s x := by
  obtain ⟨a1, a2, a3⟩ := perU_ok W hx
  have al : ∀ i, it (nx (ledBox s h)) i (mapU h s x) = mapU h s (it (nx s) i x) := map_nxi W G W' hx
  refine perU_is W' (map_step W G W' hx).1 ⟨a1, by rw [al, a2], fun m m0 mn e => a3 m m0 mn ?_⟩
  rw [al] at e
  exact map_inj G (nxi_in W hx m).1 hx.1 e
theorem map_wd (W : Wd s p q) (G : Gen h) (W' : Wd (ledBox s h) q p) (hx : InU s p q x) : wd (ledBox s h) (mapU h s x) = (wd s x).map fun f => ledFace f h := by
  unfold wd
  rw [map_per W G W' hx, List.map_map]
  refine List.map_congr_left fun i _ => ?_
  show (nxi (ledBox s h) i (mapU h s x)).f = ledFace (nxi s i x).f h
  rw [map_nxi W G W' hx]
  rfl
theorem least_map {φ : Int → Int} {L : List Int} (n0 : 0 < L.length) : leastBegun ((leastBegun L).map φ) = leastBegun (L.map φ) := by
  obtain ⟨i, hi, e⟩ := least_rot n0
  rw [e, ← rot_map, least_rotL (by rw [List.length_map]; exact hi)]
theorem map_cls (W : Wd s p q) (G : Gen h) (W' : Wd (ledBox s h) q p) (hx : InU s p q x) : cls (ledBox s h) (mapU h s x) = leastBegun ((cls s x).map fun f => ledFace f h) := by
  unfold cls
  rw [map_wd W G W' hx, least_map (wd_pos W hx)]
theorem map_slack (W : Wd s p q) (G : Gen h) (W' : Wd (ledBox s h) q p) (hx : InU s p q x) : Wof (ledBox s h) (mapU h s x) = Wof s x := by
  have R := unit_run W hx
  have e : ∀ i, uF (ledBox s h) (mapU h s x) i = ledFace (uF s x i) h ∧ uD (ledBox s h) (mapU h s x) i = dirH h (uD s x i) ∧ uU (ledBox s h) (mapU h s x) i = kap h s (uF s x i) (uD s x i) - uU s x i - 1 := fun i => by
    unfold uF uD uU
    rw [map_nxi W G W' hx]
    exact ⟨rfl, rfl, rfl⟩
  have m : ∀ i, _ := fun i => mn_H (s := s) (d := uD s x i) G (R.face i) (R.face (i + 1)) (R.ne i)
  have e1 : slR (ledBox s h) (mapU h s x) = slL s x := by
    unfold slR slL
    rw [map_per W G W' hx]
    congr 1
    refine List.map_congr_left fun i _ => ?_
    rw [(e i).1, (e (i + 1)).1, (e i).2.1, (e i).2.2, (m i).1]
    omega
  have e2 : slL (ledBox s h) (mapU h s x) = slR s x := by
    unfold slR slL
    rw [map_per W G W' hx]
    congr 1
    refine List.map_congr_left fun i _ => ?_
    rw [(e i).1, (e (i + 1)).1, (e i).2.1, (e i).2.2, (m i).2]
    omega
  unfold Wof
  rw [e1, e2]
  omega
theorem tr_H (G : Gen h) {F : Nat → Int} (hF : WordOk F) (v : T3) : ∀ i, tr (fun i => ledFace (F i) h) (dirH h v) i = dirH h (tr F v i)
  | 0 => rfl
  | i + 1 => by
    show goneOver _ _ (tr (fun i => ledFace (F i) h) (dirH h v) i) = dirH h (goneOver _ _ _)
    rw [tr_H G hF v i, G.over _ _ _ (hF i).1 (hF (i + 1)).1 (hF i).2]
theorem Ts_H (G : Gen h) {F : Nat → Int} (hF : WordOk F) {v : T3} (z : v.get (F 0 / 2) = 0) : ∀ i, Ts (ledBox s h) (fun i => ledFace (F i) h) (dirH h v) i = kap h s (F i) (tr F v i) - kap h s (F 0) v - Ts s F v i
  | 0 => by show (0 : Int) = kap h s (F 0) v - kap h s (F 0) v - 0; omega
  | i + 1 => by
    show Ts _ _ _ i + grown _ _ _ (tr (fun i => ledFace (F i) h) (dirH h v) i) = kap h s (F (i + 1)) (goneOver (F i) (F (i + 1)) (tr F v i)) - _ - (Ts s F v i + grown s _ _ _)
    rw [Ts_H G hF z i, tr_H G hF v i, grown_H G (hF i).1 (hF (i + 1)).1 (hF i).2 (tr_zero hF z i)]
    omega
theorem map_len (W : Wd s p q) (G : Gen h) (W' : Wd (ledBox s h) q p) (hx : InU s p q x) : Lof (ledBox s h) q p (mapU h s x) = Lof s p q x := by
  have hx' := (map_step W G W' hx).1
  have hp := perU_ok W hx
  have hp' := perU_ok W' hx'
  rw [map_per W G W' hx] at hp'
  have R := unit_run W hx
  have R' := unit_run W' hx'
  have C := unit_closed (δ := 1) hp.2.1 (m := fun i => 2 * uU s x i + 1) fun i => rfl
  have C' := unit_closed (δ := 1) hp'.2.1 (m := fun i => 2 * uU (ledBox s h) (mapU h s x) i + 1) fun i => rfl
  obtain ⟨τ, T, e⟩ := isLen_by W hx (Lof_ok W hx)
  obtain ⟨τ', T', e'⟩ := isLen_by W' hx' (Lof_ok W' hx')
  rw [map_per W G W' hx] at e'
  obtain ⟨L, L0, h1, h2⟩ := run_len W R C hp.1 T
  obtain ⟨L', L0', h1', h2'⟩ := run_len W' R' C' hp.1 T'
  have eL : Lof s p q x = L := Int.eq_of_mul_eq_mul_left (Int.ne_of_gt (two_pq W)) (by rw [← e, h1])
  have eL' : Lof (ledBox s h) q p (mapU h s x) = L' := Int.eq_of_mul_eq_mul_left (Int.ne_of_gt (two_pq W')) (by rw [← e', h1'])
  rw [eL, eL']
  have hF := (R.shift 1).word
  have eF : ∀ i, uF (ledBox s h) (mapU h s x) i = ledFace (uF s x i) h := fun i => by unfold uF; rw [map_nxi W G W' hx]; rfl
  have eD : uD (ledBox s h) (mapU h s x) 1 = dirH h (uD s x 1) := by unfold uD; rw [map_nxi W G W' hx]; rfl
  have f1 := R.face 1
  obtain ⟨a, b, hd, ha, hb, cop, _⟩ := dirs_ab W (R.dir 1)
  have z1 := dirs_zero W f1 (R.dir 1)
  have zv := (ab_unfr (a := 0) (b := 1) f1).2.2
  have cF : uF s x (perU s x + 1) = uF s x 1 := by rw [Nat.add_comm]; exact C.f 1
  have cD : uD s x (perU s x + 1) = uD s x 1 := by rw [Nat.add_comm]; exact C.d 1
  have ct := (R.shift 1).tr (perU s x)
  rw [Nat.zero_add, cD, hd] at ct
  have cl := tr_closed hF rfl cF ha ct 0 1
  have k1 := h2 0 1
  have k2 := Ts_H (s := s) G hF zv (perU s x)
  rw [cl, show uF s x (perU s x + 1) = uF s x (0 + 1) from cF] at k2
  have k3 := h2' (cA (uF (ledBox s h) (mapU h s x) 1) (dirH h (unfr (uF s x 1) 0 1))) (cB (uF (ledBox s h) (mapU h s x) 1) (dirH h (unfr (uF s x 1) 0 1)))
  have zH := G.zero _ _ f1 zv
  rw [← unfr_of (R'.face 1) (by rw [eF]; exact zH)] at k3
  rw [show (fun i => uF (ledBox s h) (mapU h s x) (i + 1)) = fun i => ledFace (uF s x (i + 1)) h from funext fun i => eF (i + 1), eF, eD, G.meas _ _ _ f1 z1 zv] at k3
  rw [hd, meas_unfr f1] at k1 k3
  change Ts (ledBox s h) (fun i => ledFace (uF s x (i + 1)) h) (dirH h (unfr (uF s x 1) 0 1)) (perU s x) = kap h s (uF s x 1) (unfr (uF s x 1) 0 1) - kap h s (uF s x 1) (unfr (uF s x 1) 0 1) - Ts s (fun i => uF s x (i + 1)) (unfr (uF s x 1) 0 1) (perU s x) at k2
  rw [k2, k1] at k3
  refine Int.eq_of_mul_eq_mul_right ha ?_
  grind
/-! ### the lanes as a set -/
def IsLane (s : T3) (p q : Int) (l : Lane) : Prop := ∃ x, InU s p q x ∧ l = laneX s p q x
structure Eqv (s : T3) (p q : Int) (s' : T3) (p' q' : Int) (φ : Int → Int) : Prop where
  wb : Wb s' p' q'
  ok : ∀ f, FaceOk f → FaceOk (φ f)
  inj : ∀ f g, FaceOk f → FaceOk g → φ f = φ g → f = g
  to : ∀ l, IsLane s p q l → IsLane s' p' q' (leastBegun (l.1.map φ), l.2)
  from_ : ∀ l', IsLane s' p' q' l' → ∃ l, IsLane s p q l ∧ l' = (leastBegun (l.1.map φ), l.2)
theorem cls_pos (W : Wd s p q) (hx : InU s p q x) : 0 < (cls s x).length := by rw [cls_len W hx]; exact (perU_ok W hx).1
theorem cls_face (W : Wd s p q) (hx : InU s p q x) : ∀ f ∈ cls s x, FaceOk f := by
  obtain ⟨i, h1, h2⟩ := cls_wd W hx
  rw [h2]
  intro f hf
  unfold wd at hf
  obtain ⟨j, _, rfl⟩ := List.mem_map.mp hf
  exact (nxi_in W h1 j).1
theorem cls_least (W : Wd s p q) (hx : InU s p q x) : leastBegun (cls s x) = cls s x := by
  have := least_map (φ := id) (wd_pos W hx)
  rw [List.map_id, List.map_id] at this
  exact this
theorem Eqv.refl (B : Wb s p q) : Eqv s p q s p q id := by
  refine ⟨B, fun _ h => h, fun _ _ _ _ e => e, fun l hl => ?_, fun l hl => ⟨l, hl, ?_⟩⟩ <;> obtain ⟨x, hx, rfl⟩ := hl
  · rw [List.map_id]
    refine ⟨x, hx, ?_⟩
    unfold laneX
    dsimp only
    rw [cls_least B.wd hx]
  · rw [List.map_id]
    unfold laneX
    dsimp only
    rw [cls_least B.wd hx]
theorem Eqv.gen {s' : T3} {p' q' : Int} {φ : Int → Int} (B : Wb s p q) (E : Eqv s p q s' p' q' φ) {h : How} (G : Gen h) : Eqv s p q (ledBox s' h) q' p' (fun f => ledFace (φ f) h) := by
  have W := B.wd
  have W1 := E.wb.wd
  have B2 := G.box s' p' q' E.wb
  have W2 := B2.wd
  have comp : ∀ {L : List Int}, 0 < L.length → leastBegun (L.map fun f => ledFace (φ f) h) = leastBegun ((leastBegun (L.map φ)).map fun f => ledFace f h) := fun {L} n0 => by
    rw [least_map (by rw [List.length_map]; exact n0), List.map_map]
    rfl
  refine ⟨B2, fun f hf => G.ok _ (E.ok f hf), fun f g hf hg e => E.inj f g hf hg (G.inj _ _ (E.ok f hf) (E.ok g hg) e), fun l hl => ?_, fun l' hl => ?_⟩
  · obtain ⟨y, hy, ey⟩ := E.to l hl
    obtain ⟨x, hx, rfl⟩ := hl
    refine ⟨mapU h s' y, (map_step W1 G W2 hy).1, ?_⟩
    unfold laneX at ey ⊢
    dsimp only at ey ⊢
    simp only [Prod.mk.injEq] at ey
    rw [map_cls W1 G W2 hy, map_len W1 G W2 hy, map_slack W1 G W2 hy, comp (cls_pos W hx), ← ey.1, ← ey.2.1, ← ey.2.2]
  · obtain ⟨y, hy, rfl⟩ := hl
    obtain ⟨z, hz, rfl⟩ := map_surj W1 G W2 hy
    obtain ⟨l, hl, el⟩ := E.from_ _ ⟨z, hz, rfl⟩
    refine ⟨l, hl, ?_⟩
    obtain ⟨x, hx, rfl⟩ := hl
    unfold laneX at el ⊢
    dsimp only at el ⊢
    simp only [Prod.mk.injEq] at el
    rw [map_cls W1 G W2 hz, map_len W1 G W2 hz, map_slack W1 G W2 hz, comp (cls_pos W hx), ← el.1, el.2.1, el.2.2]
theorem Eqv.cast {s' s'' : T3} {p' q' p'' q'' : Int} {φ ψ : Int → Int} (B : Wb s p q) (E : Eqv s p q s' p' q' φ) (e1 : s'' = s') (e2 : p'' = p') (e3 : q'' = q') (e : ∀ f, FaceOk f → ψ f = φ f) : Eqv s p q s'' p'' q'' ψ := by
  subst e1 e2 e3
  have k : ∀ l, IsLane s p q l → l.1.map ψ = l.1.map φ := fun l hl => by
    obtain ⟨x, hx, rfl⟩ := hl
    exact List.map_congr_left fun f hf => e f (cls_face B.wd hx f hf)
  refine ⟨E.wb, fun f hf => by rw [e f hf]; exact E.ok f hf, fun f g hf hg h => E.inj f g hf hg (by rw [← e f hf, ← e g hg]; exact h), fun l hl => ?_, fun l' hl => ?_⟩
  · rw [k l hl]
    exact E.to l hl
  · obtain ⟨l, h1, h2⟩ := E.from_ l' hl
    exact ⟨l, h1, by rw [k l h1]; exact h2⟩
end
end TP

/-! G19 -/
set_option maxHeartbeats 1000000
set_option linter.unusedVariables false
set_option linter.unusedSectionVars false
namespace TP
open PySem PySem.W
/-! ### all 48 ways -/
theorem eqv_all {s : T3} {p q : Int} (B : Wb s p q) (h : How) (hok : HowOk h) : Eqv s p q (ledBox s h) (ledSlope p q h).1 (ledSlope p q h).2 (fun f => ledFace f h) := by
  obtain ⟨ord, sg⟩ := h
  obtain ⟨h1, h2⟩ := hok
  dsimp only at h1 h2
  unfold allOrders at h1
  unfold allSigns at h2
  simp only [List.mem_cons, List.not_mem_nil, or_false] at h1 h2
  rcases h1 with rfl | rfl | rfl | rfl | rfl | rfl <;> rcases h2 with rfl | rfl | rfl | rfl | rfl | rfl | rfl | rfl
  · exact Eqv.cast B (Eqv.gen B (Eqv.gen B (Eqv.gen B (Eqv.refl B) gen_F0) gen_F1) gen_F2) rfl rfl rfl (all_faces rfl rfl rfl rfl rfl rfl)
  · exact Eqv.cast B (Eqv.gen B (Eqv.gen B (Eqv.refl B) gen_F0) gen_F1) rfl rfl rfl (all_faces rfl rfl rfl rfl rfl rfl)
  · exact Eqv.cast B (Eqv.gen B (Eqv.gen B (Eqv.refl B) gen_F0) gen_F2) rfl rfl rfl (all_faces rfl rfl rfl rfl rfl rfl)
  · exact Eqv.cast B (Eqv.gen B (Eqv.refl B) gen_F0) rfl rfl rfl (all_faces rfl rfl rfl rfl rfl rfl)
  · exact Eqv.cast B (Eqv.gen B (Eqv.gen B (Eqv.refl B) gen_F1) gen_F2) rfl rfl rfl (all_faces rfl rfl rfl rfl rfl rfl)
  · exact Eqv.cast B (Eqv.gen B (Eqv.refl B) gen_F1) rfl rfl rfl (all_faces rfl rfl rfl rfl rfl rfl)
  · exact Eqv.cast B (Eqv.gen B (Eqv.refl B) gen_F2) rfl rfl rfl (all_faces rfl rfl rfl rfl rfl rfl)
  · exact Eqv.cast B (Eqv.refl B) rfl rfl rfl (all_faces rfl rfl rfl rfl rfl rfl)
  · exact Eqv.cast B (Eqv.gen B (Eqv.gen B (Eqv.gen B (Eqv.gen B (Eqv.refl B) gen_T12) gen_F0) gen_F1) gen_F2) rfl rfl rfl (all_faces rfl rfl rfl rfl rfl rfl)
  · exact Eqv.cast B (Eqv.gen B (Eqv.gen B (Eqv.gen B (Eqv.refl B) gen_T12) gen_F0) gen_F1) rfl rfl rfl (all_faces rfl rfl rfl rfl rfl rfl)
  · exact Eqv.cast B (Eqv.gen B (Eqv.gen B (Eqv.gen B (Eqv.refl B) gen_T12) gen_F0) gen_F2) rfl rfl rfl (all_faces rfl rfl rfl rfl rfl rfl)
  · exact Eqv.cast B (Eqv.gen B (Eqv.gen B (Eqv.refl B) gen_T12) gen_F0) rfl rfl rfl (all_faces rfl rfl rfl rfl rfl rfl)
  · exact Eqv.cast B (Eqv.gen B (Eqv.gen B (Eqv.gen B (Eqv.refl B) gen_T12) gen_F1) gen_F2) rfl rfl rfl (all_faces rfl rfl rfl rfl rfl rfl)
  · exact Eqv.cast B (Eqv.gen B (Eqv.gen B (Eqv.refl B) gen_T12) gen_F1) rfl rfl rfl (all_faces rfl rfl rfl rfl rfl rfl)
  · exact Eqv.cast B (Eqv.gen B (Eqv.gen B (Eqv.refl B) gen_T12) gen_F2) rfl rfl rfl (all_faces rfl rfl rfl rfl rfl rfl)
  · exact Eqv.cast B (Eqv.gen B (Eqv.refl B) gen_T12) rfl rfl rfl (all_faces rfl rfl rfl rfl rfl rfl)
  · exact Eqv.cast B (Eqv.gen B (Eqv.gen B (Eqv.gen B (Eqv.gen B (Eqv.refl B) gen_T01) gen_F0) gen_F1) gen_F2) rfl rfl rfl (all_faces rfl rfl rfl rfl rfl rfl)
  · exact Eqv.cast B (Eqv.gen B (Eqv.gen B (Eqv.gen B (Eqv.refl B) gen_T01) gen_F0) gen_F1) rfl rfl rfl (all_faces rfl rfl rfl rfl rfl rfl)
  · exact Eqv.cast B (Eqv.gen B (Eqv.gen B (Eqv.gen B (Eqv.refl B) gen_T01) gen_F0) gen_F2) rfl rfl rfl (all_faces rfl rfl rfl rfl rfl rfl)
  · exact Eqv.cast B (Eqv.gen B (Eqv.gen B (Eqv.refl B) gen_T01) gen_F0) rfl rfl rfl (all_faces rfl rfl rfl rfl rfl rfl)
  · exact Eqv.cast B (Eqv.gen B (Eqv.gen B (Eqv.gen B (Eqv.refl B) gen_T01) gen_F1) gen_F2) rfl rfl rfl (all_faces rfl rfl rfl rfl rfl rfl)
  · exact Eqv.cast B (Eqv.gen B (Eqv.gen B (Eqv.refl B) gen_T01) gen_F1) rfl rfl rfl (all_faces rfl rfl rfl rfl rfl rfl)
  · exact Eqv.cast B (Eqv.gen B (Eqv.gen B (Eqv.refl B) gen_T01) gen_F2) rfl rfl rfl (all_faces rfl rfl rfl rfl rfl rfl)
  · exact Eqv.cast B (Eqv.gen B (Eqv.refl B) gen_T01) rfl rfl rfl (all_faces rfl rfl rfl rfl rfl rfl)
  · exact Eqv.cast B (Eqv.gen B (Eqv.gen B (Eqv.gen B (Eqv.gen B (Eqv.gen B (Eqv.refl B) gen_T01) gen_T12) gen_F0) gen_F1) gen_F2) rfl rfl rfl (all_faces rfl rfl rfl rfl rfl rfl)
  · exact Eqv.cast B (Eqv.gen B (Eqv.gen B (Eqv.gen B (Eqv.gen B (Eqv.refl B) gen_T01) gen_T12) gen_F0) gen_F1) rfl rfl rfl (all_faces rfl rfl rfl rfl rfl rfl)
  · exact Eqv.cast B (Eqv.gen B (Eqv.gen B (Eqv.gen B (Eqv.gen B (Eqv.refl B) gen_T01) gen_T12) gen_F0) gen_F2) rfl rfl rfl (all_faces rfl rfl rfl rfl rfl rfl)
  · exact Eqv.cast B (Eqv.gen B (Eqv.gen B (Eqv.gen B (Eqv.refl B) gen_T01) gen_T12) gen_F0) rfl rfl rfl (all_faces rfl rfl rfl rfl rfl rfl)
  · exact Eqv.cast B (Eqv.gen B (Eqv.gen B (Eqv.gen B (Eqv.gen B (Eqv.refl B) gen_T01) gen_T12) gen_F1) gen_F2) rfl rfl rfl (all_faces rfl rfl rfl rfl rfl rfl)
  · exact Eqv.cast B (Eqv.gen B (Eqv.gen B (Eqv.gen B (Eqv.refl B) gen_T01) gen_T12) gen_F1) rfl rfl rfl (all_faces rfl rfl rfl rfl rfl rfl)
  · exact Eqv.cast B (Eqv.gen B (Eqv.gen B (Eqv.gen B (Eqv.refl B) gen_T01) gen_T12) gen_F2) rfl rfl rfl (all_faces rfl rfl rfl rfl rfl rfl)
  · exact Eqv.cast B (Eqv.gen B (Eqv.gen B (Eqv.refl B) gen_T01) gen_T12) rfl rfl rfl (all_faces rfl rfl rfl rfl rfl rfl)
  · exact Eqv.cast B (Eqv.gen B (Eqv.gen B (Eqv.gen B (Eqv.gen B (Eqv.gen B (Eqv.refl B) gen_T12) gen_T01) gen_F0) gen_F1) gen_F2) rfl rfl rfl (all_faces rfl rfl rfl rfl rfl rfl)
  · exact Eqv.cast B (Eqv.gen B (Eqv.gen B (Eqv.gen B (Eqv.gen B (Eqv.refl B) gen_T12) gen_T01) gen_F0) gen_F1) rfl rfl rfl (all_faces rfl rfl rfl rfl rfl rfl)
  · exact Eqv.cast B (Eqv.gen B (Eqv.gen B (Eqv.gen B (Eqv.gen B (Eqv.refl B) gen_T12) gen_T01) gen_F0) gen_F2) rfl rfl rfl (all_faces rfl rfl rfl rfl rfl rfl)
  · exact Eqv.cast B (Eqv.gen B (Eqv.gen B (Eqv.gen B (Eqv.refl B) gen_T12) gen_T01) gen_F0) rfl rfl rfl (all_faces rfl rfl rfl rfl rfl rfl)
  · exact Eqv.cast B (Eqv.gen B (Eqv.gen B (Eqv.gen B (Eqv.gen B (Eqv.refl B) gen_T12) gen_T01) gen_F1) gen_F2) rfl rfl rfl (all_faces rfl rfl rfl rfl rfl rfl)
  · exact Eqv.cast B (Eqv.gen B (Eqv.gen B (Eqv.gen B (Eqv.refl B) gen_T12) gen_T01) gen_F1) rfl rfl rfl (all_faces rfl rfl rfl rfl rfl rfl)
  · exact Eqv.cast B (Eqv.gen B (Eqv.gen B (Eqv.gen B (Eqv.refl B) gen_T12) gen_T01) gen_F2) rfl rfl rfl (all_faces rfl rfl rfl rfl rfl rfl)
  · exact Eqv.cast B (Eqv.gen B (Eqv.gen B (Eqv.refl B) gen_T12) gen_T01) rfl rfl rfl (all_faces rfl rfl rfl rfl rfl rfl)
  · exact Eqv.cast B (Eqv.gen B (Eqv.gen B (Eqv.gen B (Eqv.gen B (Eqv.gen B (Eqv.gen B (Eqv.refl B) gen_T01) gen_T12) gen_T01) gen_F0) gen_F1) gen_F2) rfl rfl rfl (all_faces rfl rfl rfl rfl rfl rfl)
  · exact Eqv.cast B (Eqv.gen B (Eqv.gen B (Eqv.gen B (Eqv.gen B (Eqv.gen B (Eqv.refl B) gen_T01) gen_T12) gen_T01) gen_F0) gen_F1) rfl rfl rfl (all_faces rfl rfl rfl rfl rfl rfl)
  · exact Eqv.cast B (Eqv.gen B (Eqv.gen B (Eqv.gen B (Eqv.gen B (Eqv.gen B (Eqv.refl B) gen_T01) gen_T12) gen_T01) gen_F0) gen_F2) rfl rfl rfl (all_faces rfl rfl rfl rfl rfl rfl)
  · exact Eqv.cast B (Eqv.gen B (Eqv.gen B (Eqv.gen B (Eqv.gen B (Eqv.refl B) gen_T01) gen_T12) gen_T01) gen_F0) rfl rfl rfl (all_faces rfl rfl rfl rfl rfl rfl)
  · exact Eqv.cast B (Eqv.gen B (Eqv.gen B (Eqv.gen B (Eqv.gen B (Eqv.gen B (Eqv.refl B) gen_T01) gen_T12) gen_T01) gen_F1) gen_F2) rfl rfl rfl (all_faces rfl rfl rfl rfl rfl rfl)
  · exact Eqv.cast B (Eqv.gen B (Eqv.gen B (Eqv.gen B (Eqv.gen B (Eqv.refl B) gen_T01) gen_T12) gen_T01) gen_F1) rfl rfl rfl (all_faces rfl rfl rfl rfl rfl rfl)
  · exact Eqv.cast B (Eqv.gen B (Eqv.gen B (Eqv.gen B (Eqv.gen B (Eqv.refl B) gen_T01) gen_T12) gen_T01) gen_F2) rfl rfl rfl (all_faces rfl rfl rfl rfl rfl rfl)
  · exact Eqv.cast B (Eqv.gen B (Eqv.gen B (Eqv.gen B (Eqv.refl B) gen_T01) gen_T12) gen_T01) rfl rfl rfl (all_faces rfl rfl rfl rfl rfl rfl)
end TP

/-! G20 -/
set_option maxHeartbeats 1000000
set_option linter.unusedVariables false
set_option linter.unusedSectionVars false
namespace TP
open PySem PySem.W
/-! ### sums -/
theorem sumN_split (F : Nat → Int) (m : Nat) : ∀ n, sumN F (m + n) = sumN F m + sumN (fun i => F (m + i)) n
  | 0 => by show sumN F m = sumN F m + 0; omega
  | n + 1 => by
    have := sumN_split F m n
    show sumN F (m + n) + F (m + n) = sumN F m + (sumN (fun i => F (m + i)) n + F (m + n))
    omega
theorem sumN_congr {F G : Nat → Int} : ∀ {n}, (∀ i, i < n → F i = G i) → sumN F n = sumN G n
  | 0, _ => rfl
  | n + 1, h => by
    show sumN F n + F n = sumN G n + G n
    rw [sumN_congr fun i hi => h i (by omega), h n (by omega)]
theorem sumN_const (c : Int) : ∀ n : Nat, sumN (fun _ => c) n = n * c
  | 0 => by show (0 : Int) = ((0 : Nat) : Int) * c; simp
  | n + 1 => by
    show sumN _ n + c = ((n + 1 : Nat) : Int) * c
    rw [sumN_const c n, Int.natCast_add, Int.add_mul]
    omega
theorem sumN_odd (a c : Int) : ∀ n : Nat, sumN (fun i => (2 * (i : Int) + 1 + a) * c) n = ((n : Int) * n + n * a) * c
  | 0 => by show (0 : Int) = _; simp
  | n + 1 => by
    show sumN _ n + (2 * (n : Int) + 1 + a) * c = _
    rw [sumN_odd a c n, Int.natCast_add]
    grind
theorem sumN_mul (c : Int) (F : Nat → Int) : ∀ n, sumN (fun i => c * F i) n = c * sumN F n
  | 0 => by show (0 : Int) = c * 0; simp
  | n + 1 => by show sumN _ n + c * F n = c * (sumN F n + F n); rw [sumN_mul c F n, Int.mul_add]
theorem sumN_sub (F G : Nat → Int) : ∀ n, sumN (fun i => F i - G i) n = sumN F n - sumN G n
  | 0 => by show (0 : Int) = 0 - 0; omega
  | n + 1 => by show sumN _ n + (F n - G n) = sumN F n + F n - (sumN G n + G n); rw [sumN_sub F G n]; omega
section
variable {s : T3} {p q : Int} {x y z : Un} {f g h : Int} {d : T3}
/-- the number along the first axis of a face where the way with the measure u + 1/2 meets the edge to g -/
def edgeA (s : T3) (p q f : Int) (d : T3) (g u : Int) : Int := if g / 2 = (axes f).1 then 2 * p * q * level s g else (2 * u + 1 - 2 * (edgeEnds s f g d).1) * (p * q / slope f g d)
theorem axes_ok (hf : FaceOk f) : (axes f).1 ≠ (axes f).2 ∧ (axes f).1 ≠ f / 2 ∧ (axes f).2 ≠ f / 2 ∧ (axes f).1 + (axes f).2 + f / 2 = 3 ∧ 0 ≤ (axes f).1 ∧ 0 ≤ (axes f).2 ∧ (axes f).1 ≤ 2 ∧ (axes f).2 ≤ 2 := by
  rcases face6 hf with rfl | rfl | rfl | rfl | rfl | rfl <;> decide
theorem beside_axis (hf : FaceOk f) (hg : FaceOk g) (n : f / 2 ≠ g / 2) : (g / 2 = (axes f).1 ∧ along f g = (axes f).2) ∨ (g / 2 = (axes f).2 ∧ along f g = (axes f).1) := by
  have h1 := hg.1
  have h2 := hg.2
  rcases face6 hf with rfl | rfl | rfl | rfl | rfl | rfl <;> simp [axes, along] at n ⊢ <;> omega
theorem edge_num (W : Wd s p q) (hf : FaceOk f) (hg : FaceOk g) (n : f / 2 ≠ g / 2) (hd : d ∈ dirs4 f p q) {X : T3} {u : Int} (o1 : X.get (f / 2) = 2 * p * q * level s f) (o2 : X.get (g / 2) = 2 * p * q * level s g)
    (m : measure f d X = (2 * u + 1) * (p * q)) : cA f X = edgeA s p q f d g u := by
  unfold edgeA cA
  split
  · rename_i e
    rw [← e, o2]
  · rename_i e
    have ha : along f g = (axes f).1 := by rcases beside_axis hf hg n with h | h; · exact absurd h.1 e
                                           · exact h.2
    rw [edge_lin hf hg n o1 o2, ha] at m
    obtain ⟨z, k, hk⟩ := slope_dvd W hf hg n hd
    rw [hk, Int.mul_ediv_cancel_left _ z]
    refine Int.eq_of_mul_eq_mul_left z ?_
    have e2 : 2 * p * q = 2 * (slope f g d * k) := by rw [← hk]; grind
    rw [hk, e2] at m
    generalize slope f g d = σ at *
    grind
/-- over all of an edge -/
theorem edge_sum (W : Wd s p q) (hf : FaceOk f) (hg : FaceOk g) (n : f / 2 ≠ g / 2) (hd : d ∈ dirs4 f p q) :
    sumN (fun i => edgeA s p q f d g (mn s f g d + (i : Int))) (mx s f g d - mn s f g d).toNat = if g / 2 = (axes f).1 then (slope f g d).natAbs * s.get (axes f).2 * (2 * p * q * level s g) else (slope f g d).natAbs * (s.get (axes f).1 * s.get (axes f).1) * (p * q) := by
  have es := ends_slope (s := s) (d := d) hf hg n
  obtain ⟨z, k, hk⟩ := slope_dvd W hf hg n hd
  have hS := pos_get W.pos (along f g)
  have hc : mx s f g d - mn s f g d = (slope f g d).natAbs * s.get (along f g) ∧ ((0 < slope f g d ∧ mn s f g d = (edgeEnds s f g d).1) ∨ (slope f g d < 0 ∧ mn s f g d = (edgeEnds s f g d).1 + slope f g d * s.get (along f g))) := by
    unfold mn mx
    rw [es]
    rcases Int.lt_or_gt_of_ne z with h | h
    · have h0 : slope f g d * s.get (along f g) < 0 := Int.mul_neg_of_neg_of_pos h (by omega)
      rw [show ((slope f g d).natAbs : Int) = -(slope f g d) by omega, Int.neg_mul]
      exact ⟨by omega, .inr ⟨h, by omega⟩⟩
    · have h0 : 0 < slope f g d * s.get (along f g) := Int.mul_pos h (by omega)
      rw [show ((slope f g d).natAbs : Int) = slope f g d by omega]
      exact ⟨by omega, .inl ⟨h, by omega⟩⟩
  obtain ⟨hc, hm⟩ := hc
  have hN : ((mx s f g d - mn s f g d).toNat : Int) = (slope f g d).natAbs * s.get (along f g) := by
    have : 0 ≤ ((slope f g d).natAbs : Int) * s.get (along f g) := Int.mul_nonneg (by omega) (by omega)
    omega
  generalize (mx s f g d - mn s f g d).toNat = N at *
  unfold edgeA
  split
  · rename_i e
    have ha : along f g = (axes f).2 := by rcases beside_axis hf hg n with h | h; · exact h.2
                                           · exact absurd (e.symm.trans h.1) (axes_ok hf).1
    rw [sumN_const, hN, ha]
  · rename_i e
    have ha : along f g = (axes f).1 := by rcases beside_axis hf hg n with h | h; · exact absurd h.1 e
                                           · exact h.2
    rw [ha] at hm hN
    rw [hk, Int.mul_ediv_cancel_left _ z]
    rcases hm with ⟨h0, hm⟩ | ⟨h0, hm⟩
    · rw [show ((slope f g d).natAbs : Int) = slope f g d by omega] at hN ⊢
      rw [sumN_congr (G := fun i => (2 * (i : Int) + 1 + 0) * k) fun i _ => by rw [hm]; congr 1; omega, sumN_odd, hN]
      grind
    · rw [show ((slope f g d).natAbs : Int) = -(slope f g d) by omega] at hN ⊢
      rw [sumN_congr (G := fun i => (2 * (i : Int) + 1 + 2 * (slope f g d * s.get (axes f).1)) * k) fun i _ => by rw [hm]; congr 1; omega, sumN_odd, hN]
      grind
theorem slope_abs (hf : FaceOk f) (hg : FaceOk g) (n : f / 2 ≠ g / 2) : (g / 2 = (axes f).1 → ((slope f g d).natAbs : Int) = (cA f d).natAbs) ∧ (g / 2 = (axes f).2 → ((slope f g d).natAbs : Int) = (cB f d).natAbs) := by
  have ax := (axes_ok hf).1
  unfold slope
  rcases beside_axis hf hg n with ⟨h1, h2⟩ | ⟨h1, h2⟩
  · rw [if_pos h2]
    exact ⟨fun _ => rfl, fun h => absurd (h1.symm.trans h) ax⟩
  · rw [if_neg (by rw [h2]; exact ax), Int.natAbs_neg]
    exact ⟨fun h => absurd (h.symm.trans h1) ax, fun _ => rfl⟩
/-- both edges over which a way leaves (or comes) -/
theorem two_edges (W : Wd s p q) (hf : FaceOk f) (hd : d ∈ dirs4 f p q) {g g' : Int} (hg : FaceOk g) (hg' : FaceOk g') (n : f / 2 ≠ g / 2) (n' : f / 2 ≠ g' / 2) (ne : g / 2 ≠ g' / 2) {δ : Int}
    (lv : ∀ k, k = g ∨ k = g' → k / 2 = (axes f).1 → level s k = δ) :
    sumN (fun i => edgeA s p q f d g (mn s f g d + (i : Int))) (mx s f g d - mn s f g d).toNat + sumN (fun i => edgeA s p q f d g' (mn s f g' d + (i : Int))) (mx s f g' d - mn s f g' d).toNat =
      (cA f d).natAbs * s.get (axes f).2 * (2 * p * q * δ) + (cB f d).natAbs * (s.get (axes f).1 * s.get (axes f).1) * (p * q) := by
  have ax := (axes_ok hf).1
  rw [edge_sum W hf hg n hd, edge_sum W hf hg' n' hd]
  rcases beside_axis hf hg n with ⟨h1, _⟩ | ⟨h1, _⟩ <;> rcases beside_axis hf hg' n' with ⟨h2, _⟩ | ⟨h2, _⟩
  · exact absurd (h1.trans h2.symm) ne
  · rw [if_pos h1, if_neg (by rw [h2]; exact fun e => ax e.symm), (slope_abs hf hg n).1 h1, (slope_abs hf hg' n').2 h2, lv g (.inl rfl) h1]
  · rw [if_neg (by rw [h1]; exact fun e => ax e.symm), if_pos h2, (slope_abs hf hg n).2 h1, (slope_abs hf hg' n').1 h2, lv g' (.inr rfl) h2]
    omega
  · exact absurd (h1.trans h2.symm) ne
theorem face_sum (W : Wd s p q) (hf : FaceOk f) (hd : d ∈ dirs4 f p q) {t : Un → Int} (ht : ∀ x g h, x ∈ unitsFD s f d → Goes s x g → Goes s (rv x) h → cA f d * t x = edgeA s p q f d g x.u - edgeA s p q f d h x.u) :
    ((unitsFD s f d).map t).sum = 2 * p * q * (s.get (axes f).1 * s.get (axes f).2) := by
  obtain ⟨gR, gL, lo, mc, hi, S⟩ := dirs_spl W hf hd
  obtain ⟨hR, hL, lo', mc', hi', S'⟩ := dirs_spl W hf (dirs_neg W hf hd)
  obtain ⟨a, b, hab, ha, hb, _⟩ := dirs_ab W hd
  have ca : cA f d = a := by rw [hab]; exact (ab_unfr hf).1
  have neR := mn_neg (s := s) (f := f) (g := hR) (d := d)
  have neL := mn_neg (s := s) (f := f) (g := hL) (d := d)
  have hlo : lo = -hi' ∧ hi = -lo' := by
    have r1 := S.rng hR S'.okR S'.nR
    have r2 := S.rng hL S'.okL S'.nL
    have r3 := S'.rng gR S.okR S.nR
    have r4 := S'.rng gL S.okL S.nL
    have n3 := mn_neg (s := s) (f := f) (g := gR) (d := d)
    have n4 := mn_neg (s := s) (f := f) (g := gL) (d := d)
    have := S'.eR
    have := S'.eL
    have := S.eR
    have := S.eL
    omega
  have e1 := S.eR
  have e2 := S.eL
  have e3 := S'.eR
  have e4 := S'.eL
  have l1 := S.lt
  have l2 := S'.lt
  have hsum : ((unitsFD s f d).map t).sum = sumN (fun i => t ⟨f, d, lo + (i : Int)⟩) (hi - lo).toNat := by
    unfold unitsFD lowsOf
    rw [side_spl S, List.map_map, List.map_map, ← sum_map_range]
    rfl
  have mem : ∀ i : Nat, i < (hi - lo).toNat → (⟨f, d, lo + (i : Int)⟩ : Un) ∈ unitsFD s f d := fun i hi' => mem_unitsFD.mpr ⟨rfl, rfl, by rw [side_spl S]; dsimp only; omega, by rw [side_spl S]; dsimp only; omega⟩
  rw [hsum]
  refine Int.eq_of_mul_eq_mul_left ha ?_
  rw [← sumN_mul]
  have key : sumN (fun i => a * t ⟨f, d, lo + (i : Int)⟩) (hi - lo).toNat = sumN (fun i => (if lo + (i : Int) < mc then edgeA s p q f d gR (lo + (i : Int)) else edgeA s p q f d gL (lo + (i : Int))) - (if lo + (i : Int) < -mc' then edgeA s p q f d hL (lo + (i : Int)) else edgeA s p q f d hR (lo + (i : Int)))) (hi - lo).toNat := by
    refine sumN_congr fun i hi0 => ?_
    rw [← ca]
    have hm := mem i hi0
    by_cases c1 : lo + (i : Int) < mc <;> by_cases c2 : lo + (i : Int) < -mc'
    · rw [if_pos c1, if_pos c2]
      exact ht _ gR hL hm ⟨S.okR, S.nR, S.outR, by dsimp only; omega, by dsimp only; omega⟩ ⟨S'.okL, S'.nL, S'.outL, by show mn s f hL (T3.neg d) ≤ -(lo + (i : Int)) - 1; omega, by show -(lo + (i : Int)) - 1 + 1 ≤ mx s f hL (T3.neg d); omega⟩
    · rw [if_pos c1, if_neg c2]
      exact ht _ gR hR hm ⟨S.okR, S.nR, S.outR, by dsimp only; omega, by dsimp only; omega⟩ ⟨S'.okR, S'.nR, S'.outR, by show mn s f hR (T3.neg d) ≤ -(lo + (i : Int)) - 1; omega, by show -(lo + (i : Int)) - 1 + 1 ≤ mx s f hR (T3.neg d); omega⟩
    · rw [if_neg c1, if_pos c2]
      exact ht _ gL hL hm ⟨S.okL, S.nL, S.outL, by dsimp only; omega, by dsimp only; omega⟩ ⟨S'.okL, S'.nL, S'.outL, by show mn s f hL (T3.neg d) ≤ -(lo + (i : Int)) - 1; omega, by show -(lo + (i : Int)) - 1 + 1 ≤ mx s f hL (T3.neg d); omega⟩
    · rw [if_neg c1, if_neg c2]
      exact ht _ gL hR hm ⟨S.okL, S.nL, S.outL, by dsimp only; omega, by dsimp only; omega⟩ ⟨S'.okR, S'.nR, S'.outR, by show mn s f hR (T3.neg d) ≤ -(lo + (i : Int)) - 1; omega, by show -(lo + (i : Int)) - 1 + 1 ≤ mx s f hR (T3.neg d); omega⟩
  rw [key, sumN_sub]
  have s1 : sumN (fun i => if lo + (i : Int) < mc then edgeA s p q f d gR (lo + (i : Int)) else edgeA s p q f d gL (lo + (i : Int))) (hi - lo).toNat = sumN (fun i => edgeA s p q f d gR (mn s f gR d + (i : Int))) (mx s f gR d - mn s f gR d).toNat + sumN (fun i => edgeA s p q f d gL (mn s f gL d + (i : Int))) (mx s f gL d - mn s f gL d).toNat := by
    rw [show (hi - lo).toNat = (mx s f gR d - mn s f gR d).toNat + (mx s f gL d - mn s f gL d).toNat by omega, sumN_split]
    congr 1
    · refine sumN_congr fun i hi0 => ?_
      rw [if_pos (by omega), e1.1]
    · refine sumN_congr fun i hi0 => ?_
      rw [if_neg (by omega), show lo + (((mx s f gR d - mn s f gR d).toNat + i : Nat) : Int) = mn s f gL d + (i : Int) by omega]
  have s2 : sumN (fun i => if lo + (i : Int) < -mc' then edgeA s p q f d hL (lo + (i : Int)) else edgeA s p q f d hR (lo + (i : Int))) (hi - lo).toNat = sumN (fun i => edgeA s p q f d hL (mn s f hL d + (i : Int))) (mx s f hL d - mn s f hL d).toNat + sumN (fun i => edgeA s p q f d hR (mn s f hR d + (i : Int))) (mx s f hR d - mn s f hR d).toNat := by
    rw [show (hi - lo).toNat = (mx s f hL d - mn s f hL d).toNat + (mx s f hR d - mn s f hR d).toNat by omega, sumN_split]
    congr 1
    · refine sumN_congr fun i hi0 => ?_
      rw [if_pos (by omega), show lo + (i : Int) = mn s f hL d + (i : Int) by omega]
    · refine sumN_congr fun i hi0 => ?_
      rw [if_neg (by omega), show lo + (((mx s f hL d - mn s f hL d).toNat + i : Nat) : Int) = mn s f hR d + (i : Int) by omega]
  rw [s1, s2]
  have ga : ∀ k, d.get (k / 2) = d.get (k / 2) := fun _ => rfl
  have odd_of : ∀ k, FaceOk k → 0 < outward k d → k / 2 = (axes f).1 → level s k = if 0 < a then s.get (axes f).1 else 0 := fun k hk ho e => by
    have hda : d.get (k / 2) = a := by rw [e]; exact ca
    rcases out_pos ho with ⟨h1, h2⟩ | ⟨h1, h2⟩
    · rw [level_odd h1, if_pos (by omega), e]
    · rw [level_even h1, if_neg (by omega)]
  have even_of : ∀ k, FaceOk k → 0 < outward k (T3.neg d) → k / 2 = (axes f).1 → level s k = if 0 < a then 0 else s.get (axes f).1 := fun k hk ho e => by
    have hda : (T3.neg d).get (k / 2) = -a := by rw [neg_get, e]; exact congrArg Neg.neg ca
    rcases out_pos ho with ⟨h1, h2⟩ | ⟨h1, h2⟩
    · rw [level_odd h1, if_neg (by omega), e]
    · rw [level_even h1, if_pos (by omega)]
  have o1 : ∀ k, k = gR ∨ k = gL → k / 2 = (axes f).1 → level s k = if 0 < a then s.get (axes f).1 else 0 := fun k hk e => by
    rcases hk with rfl | rfl
    · exact odd_of _ S.okR S.outR e
    · exact odd_of _ S.okL S.outL e
  have o2 : ∀ k, k = hL ∨ k = hR → k / 2 = (axes f).1 → level s k = if 0 < a then 0 else s.get (axes f).1 := fun k hk e => by
    rcases hk with rfl | rfl
    · exact even_of _ S'.okL S'.outL e
    · exact even_of _ S'.okR S'.outR e
  rw [two_edges W hf hd S.okR S.okL (fun e => S.nR e.symm) (fun e => S.nL e.symm) S.nRL o1, two_edges W hf hd S'.okL S'.okR (fun e => S'.nL e.symm) (fun e => S'.nR e.symm) (fun e => S'.nRL e.symm) o2]
  rw [ca]
  rcases Int.lt_or_gt_of_ne ha with h | h
  · rw [if_neg (by omega), if_neg (by omega), show (a.natAbs : Int) = -a by omega]
    grind
  · rw [if_pos (by omega), if_pos (by omega), show (a.natAbs : Int) = a by omega]
    grind
end
end TP

/-! G21 -/
set_option maxHeartbeats 1000000
set_option linter.unusedVariables false
set_option linter.unusedSectionVars false
namespace TP
open PySem PySem.W
section
variable {s : T3} {p q : Int} {x y z : Un} {f g h : Int} {d : T3}
noncomputable def tyU (s : T3) (p q : Int) (y : Un) : Int := by
  classical exact if h : ∃ τ, (halfOf s p q (nx s y)).pt = T3.add (halfOf s p q y).pt (T3.smul τ (halfOf s p q y).way) then h.choose else 0
noncomputable def txU (s : T3) (p q : Int) (x : Un) : Int := tyU s p q (nxi s (perU s x - 1) x)
theorem tyU_ok (W : Wd s p q) (hy : InU s p q y) : (halfOf s p q (nx s y)).pt = T3.add (halfOf s p q y).pt (T3.smul (tyU s p q y) (halfOf s p q y).way) := by
  have h : ∃ τ, (halfOf s p q (nx s y)).pt = T3.add (halfOf s p q y).pt (T3.smul τ (halfOf s p q y).way) := by
    obtain ⟨τ, _, h, _⟩ := half_pass W hy
    exact ⟨τ, h⟩
  unfold tyU
  rw [dif_pos h]
  exact h.choose_spec
theorem pred_ok (W : Wd s p q) (hx : InU s p q x) : InU s p q (nxi s (perU s x - 1) x) ∧ nx s (nxi s (perU s x - 1) x) = x := by
  have hp := perU_ok W hx
  refine ⟨nxi_in W hx _, ?_⟩
  show nxi s (perU s x - 1 + 1) x = x
  rw [Nat.sub_add_cancel hp.1]
  exact hp.2.1
theorem tx_ok (W : Wd s p q) (hx : InU s p q x) (hg : Goes s x g) (hh : Goes s (rv x) h) : cA x.f x.d * txU s p q x = edgeA s p q x.f x.d g x.u - edgeA s p q x.f x.d h x.u := by
  obtain ⟨hy, hn⟩ := pred_ok W hx
  have ty := tyU_ok W hy
  unfold txU
  generalize nxi s (perU s x - 1) x = y at *
  have st := unit_step W hy 0
  have hyg : Goes s y (nx s y).f := st.1
  obtain ⟨_, k2, _⟩ := go_in W hy hyg
  rw [← nx_of W hy hyg, hn] at k2
  have eh : h = y.f := goes_one W hx.1 (dirs_neg W hx.1 hx.2.1) (x := rv x) hh k2
  have sx := unit_step W hx 0
  have hxg : Goes s x (nx s x).f := sx.1
  have eg : g = (nx s x).f := goes_one W hx.1 hx.2.1 hg hxg
  rw [hn] at ty
  have hpy : (halfOf s p q y).pt = ent s p q y.f x.f x.d (2 * x.u + 1) := by unfold halfOf; rw [hn]
  have hwy : (halfOf s p q y).way = x.d := by unfold halfOf; rw [hn]
  have hpx : (halfOf s p q x).pt = ent s p q x.f (nx s x).f (nx s x).d (2 * (nx s x).u + 1) := rfl
  have ny : x.f / 2 ≠ y.f / 2 := fun e => by
    have := hyg.2.1
    rw [hn] at this
    exact this e
  have nxx : (nx s x).f / 2 ≠ x.f / 2 := hxg.2.1
  obtain ⟨o1, o2, _⟩ := ent_on (s := s) (p := p) (q := q) (d := x.d) (m := 2 * x.u + 1) hx.1 hy.1 ny
  obtain ⟨r1, r2, _⟩ := ent_on (s := s) (p := p) (q := q) (d := (nx s x).d) (m := 2 * (nx s x).u + 1) (nx_in W hx).1 hx.1 nxx
  have me := ent_meas (m := 2 * x.u + 1) W hx.1 hy.1 ny hx.2.1
  rw [← hpy] at o1 o2 me
  rw [← hpx] at r1 r2
  rw [hwy] at ty
  have me2 : measure x.f x.d (halfOf s p q x).pt = (2 * x.u + 1) * (p * q) := by
    rw [ty, meas_add, me]
    unfold measure
    grind
  have e1 := edge_num W hx.1 (nx_in W hx).1 (fun e => nxx e.symm) hx.2.1 r2 r1 me2
  have e2 := edge_num W hx.1 hy.1 ny hx.2.1 o1 o2 me
  rw [eg, eh, ← e1, ← e2]
  have e3 : cA x.f (halfOf s p q x).pt = cA x.f (halfOf s p q y).pt + tyU s p q y * cA x.f x.d := by
    unfold cA
    rw [ty, add_get]
  rw [e3]
  grind
theorem sum_flat {α β : Type} {F : α → List β} {t : β → Int} : ∀ {l : List α}, ((l.flatMap F).map t).sum = (l.map fun a => ((F a).map t).sum).sum
  | [] => rfl
  | a :: l => by rw [List.flatMap_cons, List.map_append, List.sum_append, sum_flat (l := l)]; rfl
theorem sum_same {α : Type} {t : α → Int} {c : Int} : ∀ {l : List α}, (∀ a ∈ l, t a = c) → (l.map t).sum = l.length * c
  | [], _ => by simp
  | a :: l, h => by
    rw [List.map_cons, List.sum_cons, h a List.mem_cons_self, sum_same fun b hb => h b (List.mem_cons_of_mem _ hb), List.length_cons, Int.natCast_add, Int.add_mul]
    omega
theorem sum_Us (W : Wd s p q) : ((Us s p q).map (txU s p q)).sum = 2 * p * q * (8 * (s.1 * s.2.1 + s.2.1 * s.2.2 + s.2.2 * s.1)) := by
  have key : ∀ f, FaceOk f → (((dirsOn f p q).flatMap fun d => unitsFD s f d).map (txU s p q)).sum = 4 * (2 * p * q * (s.get (axes f).1 * s.get (axes f).2)) := fun f hf => by
    rw [sum_flat, sum_same (c := 2 * p * q * (s.get (axes f).1 * s.get (axes f).2))]
    · congr 1
      unfold dirsOn
      rw [List.length_mergeSort]
      rfl
    · intro d hd
      have hd := mem_dirsOn.mp hd
      refine face_sum W hf hd fun x g h hx hg hh => ?_
      have hxU : InU s p q x := (mem_Us W).mp (List.mem_flatMap.mpr ⟨f, mem_face.mpr hf, List.mem_flatMap.mpr ⟨d, mem_dirsOn.mpr hd, hx⟩⟩)
      obtain ⟨e1, e2, _⟩ := mem_unitsFD.mp hx
      have := tx_ok W hxU hg hh
      rw [e1, e2] at this
      exact this
  unfold Us
  rw [sum_flat]
  simp only [List.map_cons, List.map_nil, List.sum_cons, List.sum_nil]
  rw [key 0 ⟨by decide, by decide⟩, key 1 ⟨by decide, by decide⟩, key 2 ⟨by decide, by decide⟩, key 3 ⟨by decide, by decide⟩, key 4 ⟨by decide, by decide⟩, key 5 ⟨by decide, by decide⟩]
  simp [axes, T3.get]
  grind
theorem orbit_sum (W : Wd s p q) (hx : InU s p q x) : sumN (fun i => txU s p q (nxi s i x)) (perU s x) = 2 * p * q * Lof s p q x := by
  obtain ⟨τ, T, hs⟩ := isLen_by W hx (Lof_ok W hx)
  have R := unit_run W hx
  have hp := perU_ok W hx
  have C := unit_closed (δ := 1) hp.2.1 (m := fun i => 2 * uU s x i + 1) fun i => rfl
  have e : ∀ i, tyU s p q (nxi s i x) = τ i := fun i => by
    have h3 := (T i).2
    have hX0 : Xs s p q (uF s x) (uD s x) (fun i => 2 * uU s x i + 1) i = (halfOf s p q (nxi s i x)).pt := rfl
    have hX1 : Xs s p q (uF s x) (uD s x) (fun i => 2 * uU s x i + 1) (i + 1) = (halfOf s p q (nx s (nxi s i x))).pt := rfl
    have hw : (halfOf s p q (nxi s i x)).way = uD s x (i + 1) := rfl
    rw [hX0, hX1, tyU_ok W (nxi_in W hx i), hw] at h3
    exact tau_one (out_some (R.out (i + 1))) h3
  have e2 : (fun i => txU s p q (nxi s i x)) = fun i => τ (i + (perU s x - 1)) := funext fun i => by
    unfold txU
    rw [perU_nxi W hx, nxi_nxi, Nat.add_comm, e]
  rw [e2, sumN_per (taus_per W R C T), hs]
theorem sumN_swap (F : Nat → Nat → Int) (m : Nat) : ∀ n, sumN (fun i => sumN (fun k => F i k) m) n = sumN (fun k => sumN (fun i => F i k) n) m
  | 0 => by
    show (0 : Int) = sumN (fun _ => 0) m
    rw [sumN_const]
    simp
  | n + 1 => by
    show sumN _ n + sumN (fun k => F n k) m = _
    rw [sumN_swap F m n]
    have : ∀ m, sumN (fun k => sumN (fun i => F i k) n) m + sumN (fun k => F n k) m = sumN (fun k => sumN (fun i => F i k) (n + 1)) m := fun m => by
      induction m with
      | zero => rfl
      | succ m ih =>
        show (sumN (fun k => sumN (fun i => F i k) n) m + sumN (fun i => F i m) n) + (sumN (fun k => F n k) m + F n m) = sumN (fun k => sumN (fun i => F i k) (n + 1)) m + (sumN (fun i => F i m) n + F n m)
        rw [← ih]
        omega
    exact this m
theorem lane_sum (W : Wd s p q) (hx : InU s p q x) : ((laneU s x).map (txU s p q)).sum = 2 * p * q * (Lof s p q x * Wof s x) := by
  have sp := sl_pos W hx
  unfold laneU
  rw [sum_flat]
  have e1 : (fun i => ((List.range (Wof s x).toNat).map fun (k : Nat) => sh (nxi s i x) ((k : Int) - slR s x)) |>.map (txU s p q) |>.sum) = fun i => sumN (fun k => txU s p q (sh (nxi s i x) ((k : Int) - slR s x))) (Wof s x).toNat := funext fun i => by
    rw [List.map_map, ← sum_map_range]
    rfl
  rw [e1, sum_map_range, sumN_swap]
  have e2 : sumN (fun k => sumN (fun i => txU s p q (sh (nxi s i x) ((k : Int) - slR s x))) (perU s x)) (Wof s x).toNat = sumN (fun _ => 2 * p * q * Lof s p q x) (Wof s x).toNat := by
    refine sumN_congr fun k hk => ?_
    unfold Wof at hk
    have hf : fit s x ((k : Int) - slR s x) := (fit_iff W hx).mpr (by omega)
    have hz := (fit_go W hx hf).1
    have := orbit_sum W hz
    rw [fit_per W hx hf, isLen_one W hz (Lof_ok W hz) (isLen_sh W hx hf (Lof_ok W hx))] at this
    rw [← this]
    exact sumN_congr fun i _ => by rw [fit_all W hx hf]
  rw [e2, sumN_const]
  have : ((Wof s x).toNat : Int) = Wof s x := by have := Wof_pos W hx; omega
  rw [this]
  grind
theorem sum_pick {β : Type} [DecidableEq β] {k : β} {v : Int} : ∀ {cs : List β}, cs.Nodup → k ∈ cs → (cs.map fun c => if k = c then v else 0).sum = v
  | [], _, h => by cases h
  | c :: cs, nd, h => by
    obtain ⟨n1, n2⟩ := List.nodup_cons.mp nd
    rw [List.map_cons, List.sum_cons]
    by_cases e : k = c
    · rw [if_pos e]
      have : (cs.map fun c => if k = c then v else 0).sum = cs.length * 0 := sum_same fun a ha => if_neg fun e2 => n1 (by rw [← e, e2]; exact ha)
      rw [this]
      omega
    · rw [if_neg e, sum_pick n2 ((List.mem_cons.mp h).resolve_left e)]
      omega
theorem sum_add {α : Type} {f g : α → Int} : ∀ {l : List α}, (l.map fun a => f a + g a).sum = (l.map f).sum + (l.map g).sum
  | [] => rfl
  | a :: l => by
    rw [List.map_cons, List.map_cons, List.map_cons, List.sum_cons, List.sum_cons, List.sum_cons, sum_add (l := l)]
    omega
theorem part_sum {α β : Type} [DecidableEq β] {κ : α → β} {t : α → Int} {cs : List β} (nd : cs.Nodup) : ∀ {U : List α}, (∀ x ∈ U, κ x ∈ cs) → (U.map t).sum = (cs.map fun c => ((U.filter fun x => decide (κ x = c)).map t).sum).sum
  | [], _ => by
    have : (cs.map fun c => ((([] : List α).filter fun x => decide (κ x = c)).map t).sum).sum = cs.length * 0 := sum_same fun a _ => rfl
    rw [this]
    simp
  | x :: U, h => by
    have ih := part_sum (t := t) nd (U := U) fun y hy => h y (List.mem_cons_of_mem _ hy)
    have e : (fun c => (((x :: U).filter fun x => decide (κ x = c)).map t).sum) = fun c => (if κ x = c then t x else 0) + ((U.filter fun x => decide (κ x = c)).map t).sum := funext fun c => by
      rw [List.filter_cons]
      by_cases hc : κ x = c
      · rw [if_pos (decide_eq_true hc), if_pos hc]
        rfl
      · rw [if_neg (by rw [decide_eq_false hc]; decide), if_neg hc]
        omega
    rw [e, sum_add, sum_pick nd (h x List.mem_cons_self), ← ih]
    rfl
theorem sum_perm {l l' : List Int} (h : l.Perm l') : l.sum = l'.sum := by
  induction h with
  | nil => rfl
  | cons a _ ih => rw [List.sum_cons, List.sum_cons, ih]
  | swap a b l => rw [List.sum_cons, List.sum_cons, List.sum_cons, List.sum_cons]; omega
  | trans _ _ h1 h2 => rw [h1, h2]
/-- the skin of the box, lane by lane -/
theorem area_ok (W : Wd s p q) {ls : List Lane} (nd : (ls.map (·.1)).Nodup) (h1 : ∀ l ∈ ls, IsLane s p q l) (h2 : ∀ x, InU s p q x → cls s x ∈ ls.map (·.1)) :
    (ls.map fun l => l.2.1 * l.2.2).sum = 8 * (s.1 * s.2.1 + s.2.1 * s.2.2 + s.2.2 * s.1) := by
  refine Int.eq_of_mul_eq_mul_left (Int.ne_of_gt (two_pq W)) ?_
  rw [← sum_Us W, part_sum (κ := cls s) nd (U := Us s p q) fun x hx => h2 x ((mem_Us W).mp hx), List.map_map]
  have e : ∀ l ∈ ls, ((fun c => (((Us s p q).filter fun x => decide (cls s x = c)).map (txU s p q)).sum) ∘ fun l : Lane => l.1) l = 2 * p * q * (l.2.1 * l.2.2) := fun l hl => by
    obtain ⟨x, hx, rfl⟩ := h1 l hl
    show (((Us s p q).filter fun y => decide (cls s y = cls s x)).map (txU s p q)).sum = 2 * p * q * (Lof s p q x * Wof s x)
    rw [← lane_sum W hx]
    exact sum_perm ((lane_perm W hx).map _)
  rw [List.map_congr_left e]
  have e3 : ∀ ls : List Lane, 2 * p * q * (ls.map fun l => l.2.1 * l.2.2).sum = (ls.map fun l => 2 * p * q * (l.2.1 * l.2.2)).sum := fun ls => by
    induction ls with
    | nil => simp
    | cons a ls ih => rw [List.map_cons, List.map_cons, List.sum_cons, List.sum_cons, Int.mul_add, ih]
  exact e3 ls
end
end TP

/-! G22 -/
set_option maxHeartbeats 1000000
set_option linter.unusedVariables false
set_option linter.unusedSectionVars false
namespace TP
open PySem PySem.W
/-! ### two rising lists with the same items -/
theorem perm_sorted {α : Type} {le : α → α → Bool} (anti : ∀ a b, le a b = true → le b a = true → a = b) : ∀ {l m : List α}, l.Perm m → l.Pairwise (fun a b => le a b = true) → m.Pairwise (fun a b => le a b = true) → l = m
  | [], m, h, _, _ => by rw [List.nil_perm.mp h]
  | a :: l, [], h, _, _ => by cases List.perm_nil.mp h
  | a :: l, b :: m, h, h1, h2 => by
    obtain ⟨a1, a2⟩ := List.pairwise_cons.mp h1
    obtain ⟨b1, b2⟩ := List.pairwise_cons.mp h2
    have e : a = b := by
      rcases List.mem_cons.mp (h.mem_iff.mp List.mem_cons_self) with e | e
      · exact e
      · rcases List.mem_cons.mp (h.mem_iff.mpr List.mem_cons_self) with e2 | e2
        · exact e2.symm
        · exact anti a b (a1 b e2) (b1 a e)
    subst e
    rw [perm_sorted anti (List.Perm.cons_inv h) a2 b2]
section
variable {α : Type} [DecidableEq α] [DatumOrd α] [Lin α]
theorem leX_anti (a b : α) (h1 : leX a b = true) (h2 : leX b a = true) : a = b := by
  unfold leX at h1 h2
  exact Lin.tot a b (by simpa using h2) (by simpa using h1)
theorem leX_tr (a b c : α) (h1 : leX a b = true) (h2 : leX b c = true) : leX a c = true := by
  unfold leX at *
  have := nlt_tr (a := a) (b := b) (c := c) (by simpa using h1) (by simpa using h2)
  simpa using this
theorem leX_tot (a b : α) : (leX a b || leX b a) = true := by
  unfold leX
  cases h : DatumOrd.lt b a with
  | false => rfl
  | true => rw [lt_not h]; rfl
theorem leX_lt {a b : α} (h : leX a b = true) (n : a ≠ b) : DatumOrd.lt a b = true := by
  unfold leX at h
  cases e : DatumOrd.lt a b with
  | true => rfl
  | false => exact (n (Lin.tot a b e (by simpa using h))).elim
end
/-! ### twins -/
section
variable {s : T3} {p q : Int} {x y z : Un}
theorem rv_nxi (W : Wd s p q) (hz : InU s p q z) : ∀ i, nxi s i (rv (nxi s i z)) = rv z
  | 0 => rfl
  | i + 1 => by
    have h : nxi s (i + 1) (rv (nxi s (i + 1) z)) = nxi s i (nx s (rv (nxi s (i + 1) z))) := it_succ i _
    rw [h, show nx s (rv (nxi s (i + 1) z)) = rv (nxi s i z) from nx_rv W (nxi_in W hz i), rv_nxi W hz i]
theorem rv_go (W : Wd s p q) (hx : InU s p q x) {i : Nat} (hi : i ≤ perU s x) : nxi s i (rv x) = rv (nxi s (perU s x - i) x) := by
  have hp := perU_ok W hx
  have := rv_nxi W (nxi_in W hx (perU s x - i)) i
  rw [nxi_nxi, show i + (perU s x - i) = perU s x by omega, show nxi s (perU s x) x = x from hp.2.1] at this
  exact this
theorem rv_inj {x y : Un} (e : rv x = rv y) : x = y := by rw [← rv_rv x, e, rv_rv]
theorem rv_per (W : Wd s p q) (hx : InU s p q x) : perU s (rv x) = perU s x := by
  obtain ⟨a1, a2, a3⟩ := perU_ok W hx
  refine perU_is W (rv_in W hx) ⟨a1, ?_, fun m m0 mn e => a3 (perU s x - m) (by omega) (by omega) ?_⟩
  · have := rv_go W hx (Nat.le_refl _)
    rw [Nat.sub_self] at this
    exact this
  · have := rv_go W hx (show m ≤ perU s x by omega)
    rw [show nxi s m (rv x) = rv x from e] at this
    exact (rv_inj this).symm
theorem rv_wd (W : Wd s p q) (hx : InU s p q x) : wd s (rv x) = backR (wd s x) := by
  have n0 := (perU_ok W hx).1
  refine list_ext (by rw [backR_len, wd_len, wd_len, rv_per W hx]) fun i hi => ?_
  rw [wd_len, rv_per W hx] at hi
  rw [wd_get (by rw [rv_per W hx]; exact hi)]
  have h1 := backR_fAt (L := wd s x) (by rw [wd_len]; exact n0) i
  rw [wd_len, Nat.mod_eq_of_lt hi, wd_fAt W hx] at h1
  have h2 : (backR (wd s x))[i]? = some (fAt (backR (wd s x)) i) := by
    have := fAt_mod (L := backR (wd s x)) (by rw [backR_len, wd_len]; exact n0) i
    rw [backR_len, wd_len, Nat.mod_eq_of_lt hi] at this
    exact this
  rw [h2, h1]
  unfold uF
  rw [rv_go W hx (by omega)]
  rfl
/-- the class gone backwards -/
def bar (c : List Int) : List Int := leastBegun (backR c)
theorem bar_cls (W : Wd s p q) (hx : InU s p q x) : ∃ z, InU s p q z ∧ cls s z = cls s x ∧ cls s x = wd s z ∧ bar (cls s x) = cls s (rv z) := by
  obtain ⟨i, h1, h2⟩ := cls_wd W hx
  refine ⟨_, h1, cls_nxi W hx i, h2, ?_⟩
  unfold bar
  rw [h2, ← rv_wd W h1]
  rfl
theorem bar_bar (W : Wd s p q) (hx : InU s p q x) : bar (bar (cls s x)) = cls s x := by
  obtain ⟨z, h1, h2, h3, h4⟩ := bar_cls W hx
  rw [h4]
  obtain ⟨j, k1, k2⟩ := cls_wd W (rv_in W h1)
  unfold bar
  rw [k2, ← rv_wd W k1]
  have hv := rv_in W k1
  have e : nxi s j (rv (nxi s j (rv z))) = z := by rw [rv_nxi W (rv_in W h1), rv_rv]
  show cls s (rv (nxi s j (rv z))) = _
  rw [← cls_nxi W hv j, e, h2]
theorem bar_ne {c : List Int} (h : RowOk c) : leastBegun c ≠ bar c := fun e => by
  obtain ⟨h1, h2, h3⟩ := h
  have n0 : 0 < c.length := by omega
  unfold bar at e
  obtain ⟨i, hi, e2⟩ := (least_iff n0 (by rw [backR_len]; exact n0)).mp e
  have key : ∀ j, j < c.length → fAt c (c.length - j) = fAt c (i + j) := fun j hj => by
    have a1 := backR_fAt n0 j
    rw [Nat.mod_eq_of_lt hj, e2] at a1
    rw [← a1]
    have g1 := fAt_mod (L := rotL c i) (by rw [rot_len]; exact n0) j
    rw [rot_len, Nat.mod_eq_of_lt hj, rotL_get (by omega) hj, fAt_mod n0] at g1
    exact (Option.some.inj g1).symm
  rcases Nat.mod_two_eq_zero_or_one (c.length - i) with hm | hm
  · have k := key ((c.length - i) / 2 - 1) (by omega)
    have := (h3 (i + ((c.length - i) / 2 - 1))).2.2
    rw [show c.length - ((c.length - i) / 2 - 1) = i + ((c.length - i) / 2 - 1) + 2 by omega] at k
    exact this k.symm
  · have k := key ((c.length - i) / 2) (by omega)
    have := (h3 (i + (c.length - i) / 2)).2.1
    rw [show c.length - (c.length - i) / 2 = i + (c.length - i) / 2 + 1 by omega] at k
    exact this (by rw [k])
end
/-- what a rising list of classes needs to lie twin by twin -/
structure Paired2 (cs : List (List Int)) : Prop where
  inv : ∀ c ∈ cs, bar (bar c) = c
  ne : ∀ c ∈ cs, bar c ≠ c
  cl : ∀ c ∈ cs, bar c ∈ cs
  rho : ∀ c ∈ cs, leastRow c = (minOf (Tup.mk c) [Tup.mk (bar c)]).items
theorem min_two (a b : List Int) : (minOf (Tup.mk a) [Tup.mk b]).items = a ∨ (minOf (Tup.mk a) [Tup.mk b]).items = b := by
  rcases minOf_mem (Tup.mk a) [Tup.mk b] with h | h
  · rw [h]; exact .inl rfl
  · rw [List.mem_singleton.mp h]; exact .inr rfl
theorem min_comm (a b : List Int) : minOf (Tup.mk a) [Tup.mk b] = minOf (Tup.mk b) [Tup.mk a] :=
  isMin_one (minOf_isMin _ _) (minOf_isMin _ _) fun x => by simp only [List.mem_cons, List.not_mem_nil, or_false]; exact Or.comm
def keyC (c : List Int) : RF := (⟨leastRow c⟩, ⟨c⟩)
theorem keyC_lt {a b : List Int} : DatumOrd.lt (keyC a) (keyC b) = if (Tup.mk (leastRow a)) = Tup.mk (leastRow b) then DatumOrd.lt (Tup.mk a) (Tup.mk b) else DatumOrd.lt (Tup.mk (leastRow a)) (Tup.mk (leastRow b)) := rfl
theorem twins_ok : ∀ (n : Nat) {cs : List (List Int)}, cs.length ≤ n → Paired2 cs → cs.Pairwise (fun a b => DatumOrd.lt (keyC a) (keyC b) = true) →
    ∀ k, 2 * k < cs.length → ∃ a b, cs[2 * k]? = some a ∧ cs[2 * k + 1]? = some b ∧ leastRow a = a ∧ leastRow b = leastRow a ∧ b ≠ a
  | 0, cs, hn, _, _, k, hk => by omega
  | n + 1, [], _, _, _, k, hk => by simp at hk
  | n + 1, a :: rest, hn, P, S, k, hk => by
    obtain ⟨s1, s2⟩ := List.pairwise_cons.mp S
    have ha : a ∈ a :: rest := List.mem_cons_self
    have hbar : bar a ∈ rest := (List.mem_cons.mp (P.cl a ha)).resolve_left (P.ne a ha)
    have hb' : bar a ∈ a :: rest := List.mem_cons_of_mem _ hbar
    have rr : leastRow (bar a) = leastRow a := by rw [P.rho _ hb', P.rho _ ha, P.inv a ha, min_comm]
    have ra : leastRow a = a := by
      rcases min_two a (bar a) with h | h
      · rw [P.rho a ha, h]
      · have hlt := s1 (bar a) hbar
        rw [keyC_lt, if_pos (by rw [rr])] at hlt
        have hm := minOf_isMin (Tup.mk a) [Tup.mk (bar a)]
        have h2 : minOf (Tup.mk a) [Tup.mk (bar a)] = Tup.mk (bar a) := congrArg Tup.mk h
        have := hm.2 (Tup.mk a) List.mem_cons_self
        rw [h2, hlt] at this
        cases this
    cases rest with
    | nil => cases hbar
    | cons b rest' =>
      obtain ⟨t1, t2⟩ := List.pairwise_cons.mp s2
      have hbm : b ∈ a :: b :: rest' := List.mem_cons_of_mem _ List.mem_cons_self
      have eb : b = bar a := by
        rcases List.mem_cons.mp hbar with h | h
        · exact h.symm
        · have l1 := s1 b List.mem_cons_self
          have l2 := t1 (bar a) h
          have e : leastRow b = leastRow a := by
            refine Classical.byContradiction fun hne => ?_
            rw [keyC_lt, if_neg (fun e => hne (by injection e with e; exact e.symm))] at l1
            rw [keyC_lt, rr, if_neg (fun e => hne (by injection e))] at l2
            have := lt_not l1
            rw [l2] at this
            cases this
          rw [P.rho b hbm, ra] at e
          rcases min_two b (bar b) with h2 | h2
          · rw [h2] at e
            rw [e, Lin.irr] at l1
            cases l1
          · rw [h2] at e
            rw [← e, P.inv b hbm]
      cases k with
      | zero =>
        refine ⟨a, b, rfl, rfl, ra, by rw [eb, rr], by rw [eb]; exact P.ne a ha⟩
      | succ k =>
        have nb : ∀ c ∈ rest', c ≠ b ∧ c ≠ a := fun c hc => by
          have l1 := t1 c hc
          have l2 := s1 c (List.mem_cons_of_mem _ hc)
          constructor
          · rintro rfl; rw [Lin.irr] at l1; cases l1
          · rintro rfl; rw [Lin.irr] at l2; cases l2
        have hin : ∀ c ∈ rest', c ∈ a :: b :: rest' := fun c hc => List.mem_cons_of_mem _ (List.mem_cons_of_mem _ hc)
        have P' : Paired2 rest' := by
          refine ⟨fun c hc => P.inv c (hin c hc), fun c hc => P.ne c (hin c hc), fun c hc => ?_, fun c hc => P.rho c (hin c hc)⟩
          have h1 := P.cl c (hin c hc)
          have h2 := P.inv c (hin c hc)
          rcases List.mem_cons.mp h1 with h | h
          · exact ((nb c hc).1 (by rw [eb, ← h2, h])).elim
          · rcases List.mem_cons.mp h with h | h
            · exact ((nb c hc).2 (by rw [← h2, h, eb, P.inv a ha])).elim
            · exact h
        simp only [List.length_cons] at hn hk
        obtain ⟨u, v, g1, g2, g3⟩ := twins_ok n (cs := rest') (by omega) P' t2 k (by omega)
        refine ⟨u, v, ?_, ?_, g3⟩
        · rw [show 2 * (k + 1) = 2 * k + 1 + 1 by omega, List.getElem?_cons_succ, List.getElem?_cons_succ]
          exact g1
        · rw [show 2 * (k + 1) + 1 = 2 * k + 1 + 1 + 1 by omega, List.getElem?_cons_succ, List.getElem?_cons_succ]
          exact g2
theorem mem_rotL {α : Type} {L : List α} {k : Nat} {a : α} (h : a ∈ rotL L k) : a ∈ L := by
  unfold rotL at h
  rcases List.mem_append.mp h with h | h
  · exact List.mem_of_mem_drop h
  · exact List.mem_of_mem_take h
/-! ### the law, in the plain -/
def row4 (l : Lane) : Row4 := ⟨⟨leastRow l.1⟩, ⟨l.1⟩, l.2.1, l.2.2⟩
section
variable {s : T3} {p q : Int}
noncomputable abbrev lanesU (s : T3) (p q : Int) : List Lane := lanesM s (rgU s) p q
noncomputable abbrev rowsU (s : T3) (p q : Int) : List LRow := lawRows s p q (ryU s p q)
theorem lanes_perm : (lanesU s p q).Perm (scanAll s (rgU s) p q).2 := List.mergeSort_perm _ _
theorem lanes_mem (B : Wb s p q) {l : Lane} : l ∈ lanesU s p q ↔ IsLane s p q l := by
  obtain ⟨I, all⟩ := scan_done B
  rw [lanes_perm.mem_iff]
  constructor
  · exact I.lanes l
  · rintro ⟨x, hx, rfl⟩
    obtain ⟨l, hl, e⟩ := List.mem_map.mp (all x hx)
    obtain ⟨y, hy, rfl⟩ := I.lanes l hl
    rw [laneX_cls B.wd hx hy e.symm]
    exact hl
theorem lanes_nodup (B : Wb s p q) : ((lanesU s p q).map (·.1)).Nodup := (lanes_perm.map _).nodup_iff.mpr (scan_done B).1.nd2
theorem lanes_sorted (B : Wb s p q) : (lanesU s p q).Pairwise fun a b => DatumOrd.lt (rfOf a) (rfOf b) = true := by
  have h1 : (lanesU s p q).Pairwise fun a b => leX (rfOf a) (rfOf b) = true :=
    List.pairwise_mergeSort (le := fun a b => leX (rfOf a) (rfOf b)) (fun a b c h1 h2 => leX_tr _ _ _ h1 h2) (fun a b => leX_tot _ _) _
  have h2 : (lanesU s p q).Pairwise fun a b => a.1 ≠ b.1 := List.pairwise_map.mp (lanes_nodup B)
  refine (h1.and h2).imp fun {a b} h => leX_lt h.1 fun e => h.2 ?_
  have := congrArg (fun z : RF => z.2.items) e
  exact this
theorem law_nodup (B : Wb s p q) : ((lawScan s p q (ryU s p q)).2.map (·.1)).Nodup := (law_done B).1.ond
theorem rows_eq (B : Wb s p q) : ∃ ls : List Lane, ls.Perm (lawScan s p q (ryU s p q)).2 ∧ rowsU s p q = ls.map fun l => ⟨l.1, l.2.1, l.2.2⟩ := by
  have nd := law_nodup B
  refine ⟨(lawScan s p q (ryU s p q)).2.mergeSort fun a b => leX (Tup.mk a.1) (Tup.mk b.1), List.mergeSort_perm _ _, ?_⟩
  show lawRows s p q (ryU s p q) = _
  unfold lawRows
  rw [← List.map_mergeSort (f := fun e : Lane => Tup.mk e.1) (r := fun a b => leX (Tup.mk a.1) (Tup.mk b.1)) (fun _ _ _ _ => rfl), List.map_map]
  refine List.map_congr_left fun l hl => ?_
  have hl := (List.mergeSort_perm _ _).mem_iff.mp hl
  show LRow.mk l.1 (oget _ l.1).1 (oget _ l.1).2 = _
  rw [oget_in nd hl]
theorem rows_facts (B : Wb s p q) : (∀ r, r ∈ rowsU s p q ↔ ∃ l, IsLane s p q l ∧ r = ⟨l.1, l.2.1, l.2.2⟩) ∧ ((rowsU s p q).map (·.faces)).Nodup ∧ (rowsU s p q).length ≤ 50000 := by
  obtain ⟨ls, hp, e⟩ := rows_eq B
  obtain ⟨o1, o2⟩ := law_out B
  refine ⟨fun r => ?_, ?_, ?_⟩
  · rw [e, List.mem_map]
    constructor
    · rintro ⟨l, hl, rfl⟩
      exact ⟨l, o1 l (hp.mem_iff.mp hl), rfl⟩
    · rintro ⟨l, ⟨x, hx, rfl⟩, rfl⟩
      exact ⟨_, hp.mem_iff.mpr (o2 x hx), rfl⟩
  · rw [e, List.map_map]
    exact (hp.map _).nodup_iff.mpr (law_nodup B)
  · rw [e, List.length_map, hp.length_eq]
    exact (lawIn B).out
theorem rows_ok (B : Wb s p q) : ∀ r ∈ rowsU s p q, r.Ok := fun r hr => by
  obtain ⟨l, ⟨x, hx, rfl⟩, rfl⟩ := (rows_facts B).1 r |>.mp hr
  have hc := cls_row B hx
  exact ⟨by have := hc.1; show 0 < (cls s x).length; omega, hc.2.1, cls_face B.wd hx⟩
theorem row4_lt {a b : Lane} (h : DatumOrd.lt (rfOf a) (rfOf b) = true) : leX (row4 a) (row4 b) = true := by
  have hlt : DatumOrd.lt (row4 a) (row4 b) = true := by
    rw [n4_lt]
    unfold n4 row4
    dsimp only
    change (if Tup.mk (leastRow a.1) = Tup.mk (leastRow b.1) then DatumOrd.lt (Tup.mk a.1) (Tup.mk b.1) else DatumOrd.lt (Tup.mk (leastRow a.1)) (Tup.mk (leastRow b.1))) = true at h
    show (if Tup.mk (leastRow a.1) = Tup.mk (leastRow b.1) then (if Tup.mk a.1 = Tup.mk b.1 then _ else DatumOrd.lt (Tup.mk a.1) (Tup.mk b.1)) else DatumOrd.lt (Tup.mk (leastRow a.1)) (Tup.mk (leastRow b.1))) = true
    split at h
    · rename_i e
      rw [if_pos e, if_neg (fun e2 => by rw [e2, Lin.irr] at h; cases h)]
      exact h
    · rename_i e
      rw [if_neg e]
      exact h
  unfold leX
  rw [lt_not hlt]
  rfl
/-- the lanes of the box seen otherwise are the led lanes of the box -/
theorem law_rows (B : Wb s p q) {h : How} (hok : HowOk h) : (lanesU (ledBox s h) (ledSlope p q h).1 (ledSlope p q h).2).map row4 = dueM h (rowsU s p q) := by
  have E := eqv_all B h hok
  have B' := E.wb
  obtain ⟨rm, rn, _⟩ := rows_facts B
  have s1 : ((lanesU (ledBox s h) (ledSlope p q h).1 (ledSlope p q h).2).map row4).Pairwise fun a b => leX a b = true := List.pairwise_map.mpr ((lanes_sorted B').imp fun h => row4_lt h)
  have s2 : (dueM h (rowsU s p q)).Pairwise fun a b => leX a b = true := List.pairwise_mergeSort (le := leX) (fun a b c h1 h2 => leX_tr _ _ _ h1 h2) (fun a b => leX_tot _ _) _
  refine perm_sorted leX_anti ?_ s1 s2
  refine List.Perm.trans ?_ (List.mergeSort_perm _ _).symm
  refine (List.perm_ext_iff_of_nodup ?_ ?_).mpr fun r => ?_
  · have nd := lanes_nodup B'
    have : ((lanesU (ledBox s h) (ledSlope p q h).1 (ledSlope p q h).2).map row4).map (fun r => r.b.items) = (lanesU (ledBox s h) (ledSlope p q h).1 (ledSlope p q h).2).map (·.1) := by rw [List.map_map]; rfl
    rw [← this] at nd
    exact List.Pairwise.of_map (fun r : Row4 => r.b.items) (fun a b h e => h (by rw [e])) nd
  · have key : ∀ a ∈ rowsU s p q, ∀ b ∈ rowsU s p q, dueRow h a = dueRow h b → a = b := fun a ha b hb e => by
      obtain ⟨l, ⟨x, hx, rfl⟩, rfl⟩ := (rm a).mp ha
      obtain ⟨l', ⟨y, hy, rfl⟩, rfl⟩ := (rm b).mp hb
      have e1 : ledRow h (cls s x) = ledRow h (cls s y) := congrArg (fun r : Row4 => r.b.items) e
      unfold ledRow at e1
      obtain ⟨i, hi, e2⟩ := (least_iff (by rw [List.length_map]; exact cls_pos B.wd hx) (by rw [List.length_map]; exact cls_pos B.wd hy)).mp e1
      rw [List.length_map] at hi
      rw [rot_map] at e2
      have inj : ∀ (L M : List Int), (∀ f ∈ L, FaceOk f) → (∀ f ∈ M, FaceOk f) → (L.map fun f => ledFace f h) = (M.map fun f => ledFace f h) → L = M := fun L => by
        induction L with
        | nil =>
          intro M _ _ e
          cases M with
          | nil => rfl
          | cons m M => simp at e
        | cons l L ih =>
          intro M h1 h2 e
          cases M with
          | nil => simp at e
          | cons m M =>
            rw [List.map_cons, List.map_cons, List.cons.injEq] at e
            rw [E.inj l m (h1 l List.mem_cons_self) (h2 m List.mem_cons_self) e.1, ih M (fun f hf => h1 f (List.mem_cons_of_mem _ hf)) (fun f hf => h2 f (List.mem_cons_of_mem _ hf)) e.2]
      have e3 := inj _ _ (cls_face B.wd hy) (fun f hf => cls_face B.wd hx f (mem_rotL hf)) e2
      have e4 : cls s x = cls s y := by rw [← cls_least B.wd hy, e3, least_rotL hi, cls_least B.wd hx]
      rw [laneX_cls B.wd hx hy e4]
    exact nodup_map_of (List.Pairwise.of_map (fun r : LRow => r.faces) (fun a b h e => h (by rw [e])) rn) key
  · rw [List.mem_map, List.mem_map]
    constructor
    · rintro ⟨l', hl', rfl⟩
      obtain ⟨l, hl, rfl⟩ := E.from_ l' ((lanes_mem B').mp hl')
      exact ⟨⟨l.1, l.2.1, l.2.2⟩, (rm _).mpr ⟨l, hl, rfl⟩, rfl⟩
    · rintro ⟨r, hr, rfl⟩
      obtain ⟨l, hl, rfl⟩ := (rm r).mp hr
      exact ⟨_, (lanes_mem B').mpr (E.to l hl), rfl⟩
theorem lanes_twins (B : Wb s p q) : ∀ k, 2 * k < (lanesU s p q).length → ∃ a b, (lanesU s p q)[2 * k]? = some a ∧ (lanesU s p q)[2 * k + 1]? = some b ∧ leastRow a.1 = a.1 ∧ leastRow b.1 = leastRow a.1 ∧ b.1 ≠ a.1 := by
  intro k hk
  have W := B.wd
  have P : Paired2 ((lanesU s p q).map (·.1)) := by
    have hm : ∀ c ∈ (lanesU s p q).map (·.1), ∃ x, InU s p q x ∧ c = cls s x := fun c hc => by
      obtain ⟨l, hl, rfl⟩ := List.mem_map.mp hc
      obtain ⟨x, hx, rfl⟩ := (lanes_mem B).mp hl
      exact ⟨x, hx, rfl⟩
    refine ⟨fun c hc => ?_, fun c hc => ?_, fun c hc => ?_, fun c hc => ?_⟩ <;> obtain ⟨x, hx, rfl⟩ := hm c hc
    · exact bar_bar W hx
    · have := bar_ne (cls_row B hx)
      rw [cls_least W hx] at this
      exact fun e => this e.symm
    · obtain ⟨z, h1, h2, h3, h4⟩ := bar_cls W hx
      exact List.mem_map.mpr ⟨laneX s p q (rv z), (lanes_mem B).mpr ⟨_, rv_in W h1, rfl⟩, h4.symm⟩
    · unfold leastRow
      rw [cls_least W hx]
      rfl
  have S : ((lanesU s p q).map (·.1)).Pairwise (fun a b => DatumOrd.lt (keyC a) (keyC b) = true) := List.pairwise_map.mpr (lanes_sorted B)
  obtain ⟨a, b, g1, g2, g3⟩ := twins_ok _ (Nat.le_refl _) P S k (by rw [List.length_map]; exact hk)
  rw [List.getElem?_map] at g1 g2
  cases e1 : (lanesU s p q)[2 * k]? with
  | none => rw [e1] at g1; cases g1
  | some l1 =>
    cases e2 : (lanesU s p q)[2 * k + 1]? with
    | none => rw [e2] at g2; cases g2
    | some l2 =>
      rw [e1] at g1
      rw [e2] at g2
      cases g1
      cases g2
      exact ⟨l1, l2, rfl, rfl, g3⟩
theorem lanes_area (B : Wb s p q) : ((lanesU s p q).map fun l => l.2.1 * l.2.2).sum = 8 * (s.1 * s.2.1 + s.2.1 * s.2.2 + s.2.2 * s.1) :=
  area_ok B.wd (lanes_nodup B) (fun l hl => (lanes_mem B).mp hl) fun x hx => List.mem_map.mpr ⟨_, (lanes_mem B).mpr ⟨x, hx, rfl⟩, rfl⟩
theorem worldB (h : WorldOk s p q) : Wb s p q := by
  obtain ⟨h1, ⟨p1, p5, q1, q5, c⟩, h3⟩ := h
  refine ⟨⟨⟨?_, ?_, ?_⟩, p1, q1, c⟩, h1, p5, q5, h3⟩
  · exact (h1 0).1
  · exact (h1 1).1
  · exact (h1 2).1
end
end TP

/-! Z1 -/
set_option maxHeartbeats 1000000
set_option linter.unusedVariables false
namespace TP
open PySem PySem.W
theorem rowF_eq : rowF = row4 := rfl
theorem allOk : AllOk := fun s p q hw => by
  have B := worldB hw
  obtain ⟨_, _, rl⟩ := rows_facts B
  refine ⟨ryU s p q, lawIn B, rl, rows_ok B, fun h hok => ⟨rgU (ledBox s h), ?_⟩⟩
  have E := eqv_all B h hok
  have B' := E.wb
  refine ⟨lanesIn B', law_rows B hok, lanes_twins B', fun l hl => ?_, lanes_area B'⟩
  obtain ⟨x, hx, rfl⟩ := (lanes_mem B').mp hl
  have h1 := unit_50 B' hx 0
  have h2 := Wof_pos B'.wd hx
  have h3 := sl_pos B'.wd hx
  show 0 ≤ Wof (ledBox s h) x ∧ Wof (ledBox s h) x ≤ 100000
  unfold Wof at h2 ⊢
  omega
end TP

/-! Z2 -/
set_option maxHeartbeats 0
set_option Elab.async false
set_option linter.all false
set_option maxRecDepth 100000
set_option maxHeartbeats 0
namespace TP
open TPK PySem PySem.Spec PyProof.Rows L2 LamX
abbrev RWL : PySem.W.OpenLaw := PySem.Challenge.rw_tautparcel_k65_whole_lanes_of_a_box_seen
theorem law_hc : PySem.W.WalkO (PySem.W.view R.prog [0, 102]) loose (PySem.W.XL (PySem.W.view R.prog [0, 102]) []) (hookT 822).says R.toRowW (HandSHeadRun.topDef R.prog 102) [] (fun f vs => PySem.call f vs) := by
  refine Att.attach_callB (l := RWL) (n := 63) rfl (by kernel_rfl) fun w s₀ s₁ mg mb fa o pm cd doc a vs ns G Y ho hd hcd hmg hobj hints hlen hbits hg => ?_
  obtain ⟨K, c, pt, S⟩ := Y
  have E := env_of S.inn G.T.g S.says
  obtain ⟨fd, F⟩ := E.d_law
  have hmg' : mg ("law" : PySem.Str) = some (.ref fa) := by
    have e : (HandSHeadRun.topDef R.prog 102).name = ("law" : PySem.Str) := by kernel_rfl
    rw [← e]
    exact hmg
  have hfa := hmg'.symm.trans E.g_law
  cases hfa
  have b := FunD.bindsA (ps := ["_law_script"]) F fun _ _ _ _ _ _ us hl => match us, hl with | [_], _ => rfl
  have one : ∀ {p : Addr × Addr}, p ∈ [(c, pt)] → p = (c, pt) := fun hp => List.mem_singleton.mp hp
  refine law_callTs (cs := [(c, pt)]) (sp := spLaw K pt) (k := 9) (CX := CX0) (x := "_law_script") S.inn G.T.g G.T.b G.T.builtins G.T.nolimit hg (fun p hp => ?_) (fun p hp => ?_) (fun p hp => ?_) G.T.bmain hobj hints (Nat.le_trans hlen (by decide)) ⟨rfl, by decide, by decide⟩ (fun base hK hns hTB => ?_) (fun s u => b s [u] rfl) (fun H hH hS => ?_) (fun _ _ _ z => z)
  · rw [one hp]
    exact S.tab
  · rw [one hp]
    exact S.out
  · rw [one hp]
    exact PySem.W.codeHd_of_K S.inn S.hd
  · exact C_law allOk E S.code (hTB (c, pt) List.mem_cons_self) F
  · refine ⟨a, ns, rfl, hS, hlen, fun p hp => ?_, fun _ => rfl⟩
    rw [List.mem_singleton.mp hp]
    exact TabS.nil (hH (c, pt) List.mem_cons_self)
end TP
open PySem PySem.W PySem.Calls PyProof.Rows
theorem PySem.Challenge.cw_tautparcel_k65_whole_lanes_of_a_box_seen_holds : PySem.Challenge.rw_tautparcel_k65_whole_lanes_of_a_box_seen.Holds := by
  w_on; o_law
  refine HandSHeadRun.head_imp (r := OpenLaw.row PySem.Challenge.rw_tautparcel_k65_whole_lanes_of_a_box_seen) (q := view (OpenLaw.row PySem.Challenge.rw_tautparcel_k65_whole_lanes_of_a_box_seen).prog [0, 102]) (H := TPK.hookT 822) (ob := TPK.ob) (M := 6000) (loose := TP.loose) (d := HandSHeadRun.topDef (OpenLaw.row PySem.Challenge.rw_tautparcel_k65_whole_lanes_of_a_box_seen).prog 102) (kwd := [])
    TPK.ob_eq TPK.run (by kernel_rfl) (by kernel_rfl) (by kernel_rfl) (by rfl) (by first | assumption | decide +kernel) (by decide +kernel) ⟨rfl, rfl, rfl, rfl, rfl, by decide +kernel⟩ ?hw TP.law_hc
  case hw => w_witness2
