import PyProof.Rows.All
import Wide.All
import OpenK.AllK
import Wide.FinOn
import PyProof.EqAt
import PyProof.EqKinds
import PyProof.TupleCall
import HandS.Base
import HandS.Call
import HandS.List
import HandS.Comp
import HandS.Iter
import HandS.Walk
import HandS.Conv
import HandS.Zip
import HandS.IsInst
import HandS.Wide
import HandS.Words
import HandS.Defaults
import HandS.Style
import KE.KStateDown
import HandS.More
import HandS.Exc
import HandS.HeadHook1
import HandS.HeadHook2
import HandS.HeadHook3
import HandS.HeadHook4
import HandS.Gcd
import Flt.RightSqrt
import KE.KSuper
import HandS.ExcInit
import HandS.ExcField
import HandS.ExcIs
import HandS.ClsMeth
import HandS.Lambda
import HandS.EndTab
import HandS.Head0
import HandS.Head1
import HandS.Head2
import HandS.Head3
import HandS.HeadEnd
import HandS.HeadWalk
import HandS.TryOnly
import PyProof.WalksMore
import PyProof.Draws
import HandS.Dict
import HandS.TupSets
import HandS.SortInts
import HandS.WideBits
import HandS.Star
import HandS.CallLocal
import KE.SortKeyHeap
import KE.SortData
import HandS.SortKw
import HandS.SetFor
import HandS.Nested
import PyProof.ReprRoads
import KE.KLam
import KE.KExcIs
import PySem.Challenge.RW_typedcurve_k31_whole_other_sides_togethe
set_option Elab.async false
set_option linter.all false
set_option maxRecDepth 100000
section
set_option maxHeartbeats 2000000
set_option autoImplicit false
/-! The text by places (printed by gen0.py), and what the head tells of it. -/
namespace K31
open PySem PySem.Spec PyProof.Rows L2
def top (i : Nat) : Stmt := PySem.Challenge.pw_typedcurve_k31_whole_other_sides_togethe.main.body.getD i (.Pass ⟨0, 0, 0, 0⟩)
abbrev s_BadNumber_init : Stmt := inClass (top 4) 0
def d_BadNumber_init : He.DefD := ⟨("BadNumber", some "__init__"), "__init__", "BadNumber.__init__", defArgs s_BadNumber_init, defBody s_BadNumber_init, defScope s_BadNumber_init, [], []⟩
abbrev s_BadPlace_init : Stmt := inClass (top 5) 0
def d_BadPlace_init : He.DefD := ⟨("BadPlace", some "__init__"), "__init__", "BadPlace.__init__", defArgs s_BadPlace_init, defBody s_BadPlace_init, defScope s_BadPlace_init, [], []⟩
abbrev s_BadMachine_init : Stmt := inClass (top 6) 0
def d_BadMachine_init : He.DefD := ⟨("BadMachine", some "__init__"), "__init__", "BadMachine.__init__", defArgs s_BadMachine_init, defBody s_BadMachine_init, defScope s_BadMachine_init, [], []⟩
abbrev s_is_integer : Stmt := top 9
def d_is_integer : He.DefD := ⟨("is_integer", none), "is_integer", "is_integer", defArgs s_is_integer, defBody s_is_integer, defScope s_is_integer, [], []⟩
abbrev s_is_within : Stmt := top 10
def d_is_within : He.DefD := ⟨("is_within", none), "is_within", "is_within", defArgs s_is_within, defBody s_is_within, defScope s_is_within, [], []⟩
abbrev s_is_list : Stmt := top 11
def d_is_list : He.DefD := ⟨("is_list", none), "is_list", "is_list", defArgs s_is_list, defBody s_is_list, defScope s_is_list, [], []⟩
abbrev s_common : Stmt := top 12
def d_common : He.DefD := ⟨("common", none), "common", "common", defArgs s_common, defBody s_common, defScope s_common, [], []⟩
abbrev s_is_number : Stmt := top 13
def d_is_number : He.DefD := ⟨("is_number", none), "is_number", "is_number", defArgs s_is_number, defBody s_is_number, defScope s_is_number, [], []⟩
abbrev s_is_point : Stmt := top 14
def d_is_point : He.DefD := ⟨("is_point", none), "is_point", "is_point", defArgs s_is_point, defBody s_is_point, defScope s_is_point, [], []⟩
abbrev s_kept : Stmt := top 15
def d_kept : He.DefD := ⟨("kept", none), "kept", "kept", defArgs s_kept, defBody s_kept, defScope s_kept, [], []⟩
abbrev s_kept_row : Stmt := top 16
def d_kept_row : He.DefD := ⟨("kept_row", none), "kept_row", "kept_row", defArgs s_kept_row, defBody s_kept_row, defScope s_kept_row, [], []⟩
abbrev s_need_integer : Stmt := top 17
def d_need_integer : He.DefD := ⟨("need_integer", none), "need_integer", "need_integer", defArgs s_need_integer, defBody s_need_integer, defScope s_need_integer, [], []⟩
abbrev s_halves : Stmt := top 26
def d_halves : He.DefD := ⟨("halves", none), "halves", "halves", defArgs s_halves, defBody s_halves, defScope s_halves, [], []⟩
abbrev s_lowest : Stmt := top 27
def d_lowest : He.DefD := ⟨("lowest", none), "lowest", "lowest", defArgs s_lowest, defBody s_lowest, defScope s_lowest, [], []⟩
abbrev s_added : Stmt := top 28
def d_added : He.DefD := ⟨("added", none), "added", "added", defArgs s_added, defBody s_added, defScope s_added, [], []⟩
abbrev s_turned : Stmt := top 29
def d_turned : He.DefD := ⟨("turned", none), "turned", "turned", defArgs s_turned, defBody s_turned, defScope s_turned, [], []⟩
abbrev s_less_by : Stmt := top 30
def d_less_by : He.DefD := ⟨("less_by", none), "less_by", "less_by", defArgs s_less_by, defBody s_less_by, defScope s_less_by, [], []⟩
abbrev s_product : Stmt := top 31
def d_product : He.DefD := ⟨("product", none), "product", "product", defArgs s_product, defBody s_product, defScope s_product, [], []⟩
abbrev s_part_by : Stmt := top 32
def d_part_by : He.DefD := ⟨("part_by", none), "part_by", "part_by", defArgs s_part_by, defBody s_part_by, defScope s_part_by, [], []⟩
abbrev s_sign_in : Stmt := top 33
def d_sign_in : He.DefD := ⟨("sign_in", none), "sign_in", "sign_in", defArgs s_sign_in, defBody s_sign_in, defScope s_sign_in, [], []⟩
abbrev s_total : Stmt := top 34
def d_total : He.DefD := ⟨("total", none), "total", "total", defArgs s_total, defBody s_total, defScope s_total, [], []⟩
abbrev s_summed : Stmt := top 35
def d_summed : He.DefD := ⟨("summed", none), "summed", "summed", defArgs s_summed, defBody s_summed, defScope s_summed, [], []⟩
abbrev s_square : Stmt := top 36
def d_square : He.DefD := ⟨("square", none), "square", "square", defArgs s_square, defBody s_square, defScope s_square, [], []⟩
abbrev s_root_in : Stmt := top 37
def d_root_in : He.DefD := ⟨("root_in", none), "root_in", "root_in", defArgs s_root_in, defBody s_root_in, defScope s_root_in, [], []⟩
abbrev s_are_joints : Stmt := top 47
def d_are_joints : He.DefD := ⟨("are_joints", none), "are_joints", "are_joints", defArgs s_are_joints, defBody s_are_joints, defScope s_are_joints, [], []⟩
abbrev s_is_pin : Stmt := top 48
def d_is_pin : He.DefD := ⟨("is_pin", none), "is_pin", "is_pin", defArgs s_is_pin, defBody s_is_pin, defScope s_is_pin, [], []⟩
abbrev s_is_bar : Stmt := top 49
def d_is_bar : He.DefD := ⟨("is_bar", none), "is_bar", "is_bar", defArgs s_is_bar, defBody s_is_bar, defScope s_is_bar, [], []⟩
abbrev s_is_bead : Stmt := top 50
def d_is_bead : He.DefD := ⟨("is_bead", none), "is_bead", "is_bead", defArgs s_is_bead, defBody s_is_bead, defScope s_is_bead, [], []⟩
abbrev s_kept_pin : Stmt := top 51
def d_kept_pin : He.DefD := ⟨("kept_pin", none), "kept_pin", "kept_pin", defArgs s_kept_pin, defBody s_kept_pin, defScope s_kept_pin, [], []⟩
abbrev s_kept_bar : Stmt := top 52
def d_kept_bar : He.DefD := ⟨("kept_bar", none), "kept_bar", "kept_bar", defArgs s_kept_bar, defBody s_kept_bar, defScope s_kept_bar, [], []⟩
abbrev s_kept_bead : Stmt := top 53
def d_kept_bead : He.DefD := ⟨("kept_bead", none), "kept_bead", "kept_bead", defArgs s_kept_bead, defBody s_kept_bead, defScope s_kept_bead, [], []⟩
abbrev s_joints_of : Stmt := top 54
def d_joints_of : He.DefD := ⟨("joints_of", none), "joints_of", "joints_of", defArgs s_joints_of, defBody s_joints_of, defScope s_joints_of, [], []⟩
abbrev s_kept_rows : Stmt := top 55
def d_kept_rows : He.DefD := ⟨("kept_rows", none), "kept_rows", "kept_rows", defArgs s_kept_rows, defBody s_kept_rows, defScope s_kept_rows, [], []⟩
abbrev s_Machine_init : Stmt := inClass (top 56) 1
def d_Machine_init : He.DefD := ⟨("Machine", some "__init__"), "__init__", "Machine.__init__", defArgs s_Machine_init, defBody s_Machine_init, defScope s_Machine_init, [], []⟩
abbrev s_need_machine : Stmt := top 57
def d_need_machine : He.DefD := ⟨("need_machine", none), "need_machine", "need_machine", defArgs s_need_machine, defBody s_need_machine, defScope s_need_machine, [.str "machine"], []⟩
abbrev s_fixed : Stmt := top 59
def d_fixed : He.DefD := ⟨("fixed", none), "fixed", "fixed", defArgs s_fixed, defBody s_fixed, defScope s_fixed, [], []⟩
abbrev s_Paper_init : Stmt := inClass (top 60) 0
def d_Paper_init : He.DefD := ⟨("Paper", some "__init__"), "__init__", "Paper.__init__", defArgs s_Paper_init, defBody s_Paper_init, defScope s_Paper_init, [], []⟩
abbrev s_Paper_bool : Stmt := inClass (top 60) 1
def d_Paper_bool : He.DefD := ⟨("Paper", some "__bool__"), "__bool__", "Paper.__bool__", defArgs s_Paper_bool, defBody s_Paper_bool, defScope s_Paper_bool, [], []⟩
abbrev s_Denial_bool : Stmt := inClass (top 61) 0
def d_Denial_bool : He.DefD := ⟨("Denial", some "__bool__"), "__bool__", "Denial.__bool__", defArgs s_Denial_bool, defBody s_Denial_bool, defScope s_Denial_bool, [], []⟩
abbrev s_is_place : Stmt := top 64
def d_is_place : He.DefD := ⟨("is_place", none), "is_place", "is_place", defArgs s_is_place, defBody s_is_place, defScope s_is_place, [], []⟩
abbrev s_kept_place : Stmt := top 65
def d_kept_place : He.DefD := ⟨("kept_place", none), "kept_place", "kept_place", defArgs s_kept_place, defBody s_kept_place, defScope s_kept_place, [], []⟩
abbrev s_shifted : Stmt := top 66
def d_shifted : He.DefD := ⟨("shifted", none), "shifted", "shifted", defArgs s_shifted, defBody s_shifted, defScope s_shifted, [], []⟩
abbrev s_grown : Stmt := top 67
def d_grown : He.DefD := ⟨("grown", none), "grown", "grown", defArgs s_grown, defBody s_grown, defScope s_grown, [], []⟩
abbrev s_way_from : Stmt := top 68
def d_way_from : He.DefD := ⟨("way_from", none), "way_from", "way_from", defArgs s_way_from, defBody s_way_from, defScope s_way_from, [], []⟩
abbrev s_placed : Stmt := top 69
def d_placed : He.DefD := ⟨("placed", none), "placed", "placed", defArgs s_placed, defBody s_placed, defScope s_placed, [], []⟩
abbrev s_by_one_root : Stmt := top 70
def d_by_one_root : He.DefD := ⟨("by_one_root", none), "by_one_root", "by_one_root", defArgs s_by_one_root, defBody s_by_one_root, defScope s_by_one_root, [], []⟩
abbrev s_are_kin_roots : Stmt := top 71
def d_are_kin_roots : He.DefD := ⟨("are_kin_roots", none), "are_kin_roots", "are_kin_roots", defArgs s_are_kin_roots, defBody s_are_kin_roots, defScope s_are_kin_roots, [], []⟩
abbrev s_off_by : Stmt := top 72
def d_off_by : He.DefD := ⟨("off_by", none), "off_by", "off_by", defArgs s_off_by, defBody s_off_by, defScope s_off_by, [], []⟩
abbrev s_gone : Stmt := top 73
def d_gone : He.DefD := ⟨("gone", none), "gone", "gone", defArgs s_gone, defBody s_gone, defScope s_gone, [], []⟩
abbrev s_are_places : Stmt := top 77
def d_are_places : He.DefD := ⟨("are_places", none), "are_places", "are_places", defArgs s_are_places, defBody s_are_places, defScope s_are_places, [], []⟩
abbrev s_tear_in : Stmt := top 78
def d_tear_in : He.DefD := ⟨("tear_in", none), "tear_in", "tear_in", defArgs s_tear_in, defBody s_tear_in, defScope s_tear_in, [], []⟩
abbrev s_other_side : Stmt := top 79
def d_other_side : He.DefD := ⟨("other_side", none), "other_side", "other_side", defArgs s_other_side, defBody s_other_side, defScope s_other_side, [], []⟩
abbrev s_need_pose : Stmt := top 80
def d_need_pose : He.DefD := ⟨("need_pose", none), "need_pose", "need_pose", defArgs s_need_pose, defBody s_need_pose, defScope s_need_pose, [], []⟩
abbrev s_need_joint : Stmt := top 81
def d_need_joint : He.DefD := ⟨("need_joint", none), "need_joint", "need_joint", defArgs s_need_joint, defBody s_need_joint, defScope s_need_joint, [], []⟩
abbrev s_judged : Stmt := top 82
def d_judged : He.DefD := ⟨("judged", none), "judged", "judged", defArgs s_judged, defBody s_judged, defScope s_judged, [], []⟩
abbrev s_kin_of : Stmt := top 83
def d_kin_of : He.DefD := ⟨("kin_of", none), "kin_of", "kin_of", defArgs s_kin_of, defBody s_kin_of, defScope s_kin_of, [], []⟩
abbrev s_mirrored_aside : Stmt := top 84
def d_mirrored_aside : He.DefD := ⟨("mirrored_aside", none), "mirrored_aside", "mirrored_aside", defArgs s_mirrored_aside, defBody s_mirrored_aside, defScope s_mirrored_aside, [], []⟩
abbrev s_turned_over : Stmt := top 85
def d_turned_over : He.DefD := ⟨("turned_over", none), "turned_over", "turned_over", defArgs s_turned_over, defBody s_turned_over, defScope s_turned_over, [], []⟩
abbrev s__law_prow : Stmt := top 87
def d__law_prow : He.DefD := ⟨("_law_prow", none), "_law_prow", "_law_prow", defArgs s__law_prow, defBody s__law_prow, defScope s__law_prow, [], []⟩
abbrev s__law_mast : Stmt := top 88
def d__law_mast : He.DefD := ⟨("_law_mast", none), "_law_mast", "_law_mast", defArgs s__law_mast, defBody s__law_mast, defScope s__law_mast, [], []⟩
abbrev s__law_pick : Stmt := top 89
def d__law_pick : He.DefD := ⟨("_law_pick", none), "_law_pick", "_law_pick", defArgs s__law_pick, defBody s__law_pick, defScope s__law_pick, [], []⟩
abbrev s__law_lowest : Stmt := top 90
def d__law_lowest : He.DefD := ⟨("_law_lowest", none), "_law_lowest", "_law_lowest", defArgs s__law_lowest, defBody s__law_lowest, defScope s__law_lowest, [], []⟩
abbrev s__law_halves : Stmt := top 91
def d__law_halves : He.DefD := ⟨("_law_halves", none), "_law_halves", "_law_halves", defArgs s__law_halves, defBody s__law_halves, defScope s__law_halves, [], []⟩
abbrev s__law_plus : Stmt := top 92
def d__law_plus : He.DefD := ⟨("_law_plus", none), "_law_plus", "_law_plus", defArgs s__law_plus, defBody s__law_plus, defScope s__law_plus, [], []⟩
abbrev s__law_times : Stmt := top 93
def d__law_times : He.DefD := ⟨("_law_times", none), "_law_times", "_law_times", defArgs s__law_times, defBody s__law_times, defScope s__law_times, [], []⟩
abbrev s__law_whole_root : Stmt := top 94
def d__law_whole_root : He.DefD := ⟨("_law_whole_root", none), "_law_whole_root", "_law_whole_root", defArgs s__law_whole_root, defBody s__law_whole_root, defScope s__law_whole_root, [], []⟩
abbrev s__law_root : Stmt := top 95
def d__law_root : He.DefD := ⟨("_law_root", none), "_law_root", "_law_root", defArgs s__law_root, defBody s__law_root, defScope s__law_root, [], []⟩
abbrev s__law_form : Stmt := top 96
def d__law_form : He.DefD := ⟨("_law_form", none), "_law_form", "_law_form", defArgs s__law_form, defBody s__law_form, defScope s__law_form, [], []⟩
abbrev s__law_small : Stmt := top 97
def d__law_small : He.DefD := ⟨("_law_small", none), "_law_small", "_law_small", defArgs s__law_small, defBody s__law_small, defScope s__law_small, [], []⟩
abbrev s__law_dot : Stmt := top 98
def d__law_dot : He.DefD := ⟨("_law_dot", none), "_law_dot", "_law_dot", defArgs s__law_dot, defBody s__law_dot, defScope s__law_dot, [], []⟩
abbrev s__law_way : Stmt := top 99
def d__law_way : He.DefD := ⟨("_law_way", none), "_law_way", "_law_way", defArgs s__law_way, defBody s__law_way, defScope s__law_way, [], []⟩
abbrev s__law_kin : Stmt := top 100
def d__law_kin : He.DefD := ⟨("_law_kin", none), "_law_kin", "_law_kin", defArgs s__law_kin, defBody s__law_kin, defScope s__law_kin, [], []⟩
abbrev s__law_square : Stmt := top 101
def d__law_square : He.DefD := ⟨("_law_square", none), "_law_square", "_law_square", defArgs s__law_square, defBody s__law_square, defScope s__law_square, [], []⟩
abbrev s__law_bead : Stmt := top 102
def d__law_bead : He.DefD := ⟨("_law_bead", none), "_law_bead", "_law_bead", defArgs s__law_bead, defBody s__law_bead, defScope s__law_bead, [], []⟩
abbrev s__law_over : Stmt := top 103
def d__law_over : He.DefD := ⟨("_law_over", none), "_law_over", "_law_over", defArgs s__law_over, defBody s__law_over, defScope s__law_over, [], []⟩
abbrev s__law_posed : Stmt := top 104
def d__law_posed : He.DefD := ⟨("_law_posed", none), "_law_posed", "_law_posed", defArgs s__law_posed, defBody s__law_posed, defScope s__law_posed, [], []⟩
abbrev s__law_rows : Stmt := top 105
def d__law_rows : He.DefD := ⟨("_law_rows", none), "_law_rows", "_law_rows", defArgs s__law_rows, defBody s__law_rows, defScope s__law_rows, [], []⟩
abbrev s__law_tear : Stmt := top 106
def d__law_tear : He.DefD := ⟨("_law_tear", none), "_law_tear", "_law_tear", defArgs s__law_tear, defBody s__law_tear, defScope s__law_tear, [], []⟩
abbrev s__law_heard : Stmt := top 107
def d__law_heard : He.DefD := ⟨("_law_heard", none), "_law_heard", "_law_heard", defArgs s__law_heard, defBody s__law_heard, defScope s__law_heard, [], []⟩
abbrev s__law_other_side : Stmt := top 108
def d__law_other_side : He.DefD := ⟨("_law_other_side", none), "_law_other_side", "_law_other_side", defArgs s__law_other_side, defBody s__law_other_side, defScope s__law_other_side, [], []⟩
abbrev s__law_joint_right : Stmt := top 109
def d__law_joint_right : He.DefD := ⟨("_law_joint_right", none), "_law_joint_right", "_law_joint_right", defArgs s__law_joint_right, defBody s__law_joint_right, defScope s__law_joint_right, [], []⟩
abbrev s_law : Stmt := top 110
def d_law : He.DefD := ⟨("law", none), "law", "law", defArgs s_law, defBody s_law, defScope s_law, [], []⟩
def fn0 : List He.DefD := [d_BadNumber_init, d_BadPlace_init, d_BadMachine_init, d_is_integer, d_is_within, d_is_list, d_common, d_is_number, d_is_point, d_kept, d_kept_row, d_need_integer, d_halves, d_lowest, d_added, d_turned, d_less_by, d_product, d_part_by, d_sign_in, d_total, d_summed, d_square, d_root_in, d_are_joints]
def fn1 : List He.DefD := [d_is_pin, d_is_bar, d_is_bead, d_kept_pin, d_kept_bar, d_kept_bead, d_joints_of, d_kept_rows, d_Machine_init, d_need_machine, d_fixed, d_Paper_init, d_Paper_bool, d_Denial_bool, d_is_place, d_kept_place, d_shifted, d_grown, d_way_from, d_placed, d_by_one_root, d_are_kin_roots, d_off_by, d_gone, d_are_places]
def fn2 : List He.DefD := [d_tear_in, d_other_side, d_need_pose, d_need_joint, d_judged, d_kin_of, d_mirrored_aside, d_turned_over, d__law_prow, d__law_mast, d__law_pick, d__law_lowest, d__law_halves, d__law_plus, d__law_times, d__law_whole_root, d__law_root, d__law_form, d__law_small, d__law_dot, d__law_way, d__law_kin, d__law_square, d__law_bead, d__law_over]
def fn3 : List He.DefD := [d__law_posed, d__law_rows, d__law_tear, d__law_heard, d__law_other_side, d__law_joint_right, d_law]
def fn : List He.DefD := fn0 ++ fn1 ++ fn2 ++ fn3
def fa0 : List He.Fa := [.glo "is_integer", .glo "is_within", .glo "is_list", .glo "common", .glo "is_number", .glo "is_point", .glo "kept", .glo "kept_row", .glo "need_integer", .glo "halves", .glo "lowest", .glo "added", .glo "turned", .glo "less_by", .glo "product", .glo "part_by", .glo "sign_in", .glo "total", .glo "summed", .glo "square", .glo "root_in", .glo "are_joints", .glo "is_pin", .glo "is_bar", .glo "is_bead"]
def fa1 : List He.Fa := [.glo "kept_pin", .glo "kept_bar", .glo "kept_bead", .glo "joints_of", .glo "kept_rows", .glo "need_machine", .glo "fixed", .glo "is_place", .glo "kept_place", .glo "shifted", .glo "grown", .glo "way_from", .glo "placed", .glo "by_one_root", .glo "are_kin_roots", .glo "off_by", .glo "gone", .glo "are_places", .glo "tear_in", .glo "other_side", .glo "need_pose", .glo "need_joint", .glo "judged", .glo "kin_of", .glo "mirrored_aside"]
def fa2 : List He.Fa := [.glo "turned_over", .glo "_law_prow", .glo "_law_mast", .glo "_law_pick", .glo "_law_lowest", .glo "_law_halves", .glo "_law_plus", .glo "_law_times", .glo "_law_whole_root", .glo "_law_root", .glo "_law_form", .glo "_law_small", .glo "_law_dot", .glo "_law_way", .glo "_law_kin", .glo "_law_square", .glo "_law_bead", .glo "_law_over", .glo "_law_posed", .glo "_law_rows", .glo "_law_tear", .glo "_law_heard", .glo "_law_other_side", .glo "_law_joint_right", .glo "law"]
def fa3 : List He.Fa := [.free "abs", .free "len", .free "isinstance", .free "int", .free "list", .free "tuple", .free "bool", .free "all", .free "any", .free "zip", .free "enumerate", .free "range", .free "min", .free "max", .free "sorted", .free "set", .free "repr", .free "super", .glo "NONE"]
def fa : List He.Fa := fa0 ++ fa1 ++ fa2 ++ fa3
/-- what the facts do not tell: math's isqrt by its name, the constant NONE -/
def exB (K : PySem.W.Frag) : Bool := (match PySem.W.nsIn K mainGlobals "isqrt" with
  | some (some (.builtin id)) => decide (id = "math.isqrt")
  | _ => false) && He.tupB K "NONE" [.int 0, .int 0]
theorem exB_isqrt {K : PySem.W.Frag} (h : exB K = true) : PySem.W.nsIn K mainGlobals "isqrt" = some (some (.builtin "math.isqrt")) := by
  unfold exB at h
  obtain ⟨h1, _⟩ := He.ba h
  split at h1
  · rename_i id e
    rw [e, of_decide_eq_true h1]
  · cases h1
/-- what the top leaves -/
structure TB (K : PySem.W.Frag) (mg : Str → Option Value) : Prop where
  ex : ∃ h : Heap, K.In h ∧ h.Ns mainGlobals mg
  says : He.SaysD fa fn K
  more : exB K = true
section
variable {K : PySem.W.Frag} {mg : Str → Option Value}
theorem TB.def_ (T : TB K mg) (i : Nat) {d : He.DefD} (h : fn[i]? = some d) : ∃ fd, FunD K d.name d.qual d.params d.body d.scope (d.dvs K) (d.kws K) (He.fAd K d.at_) fd := T.says.def_ i h
theorem TB.glo (T : TB K mg) (i : Nat) {x : Str} (h : fa[i]? = some (.glo x)) : mg x = some (.ref (He.ga K x)) := let ⟨_, X, G⟩ := T.ex; He.glo_ok X G (T.says.fact i h)
theorem TB.free (T : TB K mg) (i : Nat) {x : Str} (h : fa[i]? = some (.free x)) : mg x = none := let ⟨_, X, G⟩ := T.ex; He.free_ok X G (T.says.fact i h)
theorem TB.f_is_integer (T : TB K mg) : ∃ fd, FunD K "is_integer" "is_integer" (defArgs s_is_integer) (defBody s_is_integer) (defScope s_is_integer) [] [] (He.ga K "is_integer") fd := T.def_ 3 (d := d_is_integer) rfl
theorem TB.g_is_integer (T : TB K mg) : mg "is_integer" = some (.ref (He.ga K "is_integer")) := T.glo 0 rfl
theorem TB.f_is_within (T : TB K mg) : ∃ fd, FunD K "is_within" "is_within" (defArgs s_is_within) (defBody s_is_within) (defScope s_is_within) [] [] (He.ga K "is_within") fd := T.def_ 4 (d := d_is_within) rfl
theorem TB.g_is_within (T : TB K mg) : mg "is_within" = some (.ref (He.ga K "is_within")) := T.glo 1 rfl
theorem TB.f_is_list (T : TB K mg) : ∃ fd, FunD K "is_list" "is_list" (defArgs s_is_list) (defBody s_is_list) (defScope s_is_list) [] [] (He.ga K "is_list") fd := T.def_ 5 (d := d_is_list) rfl
theorem TB.g_is_list (T : TB K mg) : mg "is_list" = some (.ref (He.ga K "is_list")) := T.glo 2 rfl
theorem TB.f_common (T : TB K mg) : ∃ fd, FunD K "common" "common" (defArgs s_common) (defBody s_common) (defScope s_common) [] [] (He.ga K "common") fd := T.def_ 6 (d := d_common) rfl
theorem TB.g_common (T : TB K mg) : mg "common" = some (.ref (He.ga K "common")) := T.glo 3 rfl
theorem TB.f_is_number (T : TB K mg) : ∃ fd, FunD K "is_number" "is_number" (defArgs s_is_number) (defBody s_is_number) (defScope s_is_number) [] [] (He.ga K "is_number") fd := T.def_ 7 (d := d_is_number) rfl
theorem TB.g_is_number (T : TB K mg) : mg "is_number" = some (.ref (He.ga K "is_number")) := T.glo 4 rfl
theorem TB.f_is_point (T : TB K mg) : ∃ fd, FunD K "is_point" "is_point" (defArgs s_is_point) (defBody s_is_point) (defScope s_is_point) [] [] (He.ga K "is_point") fd := T.def_ 8 (d := d_is_point) rfl
theorem TB.g_is_point (T : TB K mg) : mg "is_point" = some (.ref (He.ga K "is_point")) := T.glo 5 rfl
theorem TB.f_kept (T : TB K mg) : ∃ fd, FunD K "kept" "kept" (defArgs s_kept) (defBody s_kept) (defScope s_kept) [] [] (He.ga K "kept") fd := T.def_ 9 (d := d_kept) rfl
theorem TB.g_kept (T : TB K mg) : mg "kept" = some (.ref (He.ga K "kept")) := T.glo 6 rfl
theorem TB.f_kept_row (T : TB K mg) : ∃ fd, FunD K "kept_row" "kept_row" (defArgs s_kept_row) (defBody s_kept_row) (defScope s_kept_row) [] [] (He.ga K "kept_row") fd := T.def_ 10 (d := d_kept_row) rfl
theorem TB.g_kept_row (T : TB K mg) : mg "kept_row" = some (.ref (He.ga K "kept_row")) := T.glo 7 rfl
theorem TB.f_need_integer (T : TB K mg) : ∃ fd, FunD K "need_integer" "need_integer" (defArgs s_need_integer) (defBody s_need_integer) (defScope s_need_integer) [] [] (He.ga K "need_integer") fd := T.def_ 11 (d := d_need_integer) rfl
theorem TB.g_need_integer (T : TB K mg) : mg "need_integer" = some (.ref (He.ga K "need_integer")) := T.glo 8 rfl
theorem TB.f_halves (T : TB K mg) : ∃ fd, FunD K "halves" "halves" (defArgs s_halves) (defBody s_halves) (defScope s_halves) [] [] (He.ga K "halves") fd := T.def_ 12 (d := d_halves) rfl
theorem TB.g_halves (T : TB K mg) : mg "halves" = some (.ref (He.ga K "halves")) := T.glo 9 rfl
theorem TB.f_lowest (T : TB K mg) : ∃ fd, FunD K "lowest" "lowest" (defArgs s_lowest) (defBody s_lowest) (defScope s_lowest) [] [] (He.ga K "lowest") fd := T.def_ 13 (d := d_lowest) rfl
theorem TB.g_lowest (T : TB K mg) : mg "lowest" = some (.ref (He.ga K "lowest")) := T.glo 10 rfl
theorem TB.f_added (T : TB K mg) : ∃ fd, FunD K "added" "added" (defArgs s_added) (defBody s_added) (defScope s_added) [] [] (He.ga K "added") fd := T.def_ 14 (d := d_added) rfl
theorem TB.g_added (T : TB K mg) : mg "added" = some (.ref (He.ga K "added")) := T.glo 11 rfl
theorem TB.f_turned (T : TB K mg) : ∃ fd, FunD K "turned" "turned" (defArgs s_turned) (defBody s_turned) (defScope s_turned) [] [] (He.ga K "turned") fd := T.def_ 15 (d := d_turned) rfl
theorem TB.g_turned (T : TB K mg) : mg "turned" = some (.ref (He.ga K "turned")) := T.glo 12 rfl
theorem TB.f_less_by (T : TB K mg) : ∃ fd, FunD K "less_by" "less_by" (defArgs s_less_by) (defBody s_less_by) (defScope s_less_by) [] [] (He.ga K "less_by") fd := T.def_ 16 (d := d_less_by) rfl
theorem TB.g_less_by (T : TB K mg) : mg "less_by" = some (.ref (He.ga K "less_by")) := T.glo 13 rfl
theorem TB.f_product (T : TB K mg) : ∃ fd, FunD K "product" "product" (defArgs s_product) (defBody s_product) (defScope s_product) [] [] (He.ga K "product") fd := T.def_ 17 (d := d_product) rfl
theorem TB.g_product (T : TB K mg) : mg "product" = some (.ref (He.ga K "product")) := T.glo 14 rfl
theorem TB.f_part_by (T : TB K mg) : ∃ fd, FunD K "part_by" "part_by" (defArgs s_part_by) (defBody s_part_by) (defScope s_part_by) [] [] (He.ga K "part_by") fd := T.def_ 18 (d := d_part_by) rfl
theorem TB.g_part_by (T : TB K mg) : mg "part_by" = some (.ref (He.ga K "part_by")) := T.glo 15 rfl
theorem TB.f_sign_in (T : TB K mg) : ∃ fd, FunD K "sign_in" "sign_in" (defArgs s_sign_in) (defBody s_sign_in) (defScope s_sign_in) [] [] (He.ga K "sign_in") fd := T.def_ 19 (d := d_sign_in) rfl
theorem TB.g_sign_in (T : TB K mg) : mg "sign_in" = some (.ref (He.ga K "sign_in")) := T.glo 16 rfl
theorem TB.f_total (T : TB K mg) : ∃ fd, FunD K "total" "total" (defArgs s_total) (defBody s_total) (defScope s_total) [] [] (He.ga K "total") fd := T.def_ 20 (d := d_total) rfl
theorem TB.g_total (T : TB K mg) : mg "total" = some (.ref (He.ga K "total")) := T.glo 17 rfl
theorem TB.f_summed (T : TB K mg) : ∃ fd, FunD K "summed" "summed" (defArgs s_summed) (defBody s_summed) (defScope s_summed) [] [] (He.ga K "summed") fd := T.def_ 21 (d := d_summed) rfl
theorem TB.g_summed (T : TB K mg) : mg "summed" = some (.ref (He.ga K "summed")) := T.glo 18 rfl
theorem TB.f_square (T : TB K mg) : ∃ fd, FunD K "square" "square" (defArgs s_square) (defBody s_square) (defScope s_square) [] [] (He.ga K "square") fd := T.def_ 22 (d := d_square) rfl
theorem TB.g_square (T : TB K mg) : mg "square" = some (.ref (He.ga K "square")) := T.glo 19 rfl
theorem TB.f_root_in (T : TB K mg) : ∃ fd, FunD K "root_in" "root_in" (defArgs s_root_in) (defBody s_root_in) (defScope s_root_in) [] [] (He.ga K "root_in") fd := T.def_ 23 (d := d_root_in) rfl
theorem TB.g_root_in (T : TB K mg) : mg "root_in" = some (.ref (He.ga K "root_in")) := T.glo 20 rfl
theorem TB.f_are_joints (T : TB K mg) : ∃ fd, FunD K "are_joints" "are_joints" (defArgs s_are_joints) (defBody s_are_joints) (defScope s_are_joints) [] [] (He.ga K "are_joints") fd := T.def_ 24 (d := d_are_joints) rfl
theorem TB.g_are_joints (T : TB K mg) : mg "are_joints" = some (.ref (He.ga K "are_joints")) := T.glo 21 rfl
theorem TB.f_is_pin (T : TB K mg) : ∃ fd, FunD K "is_pin" "is_pin" (defArgs s_is_pin) (defBody s_is_pin) (defScope s_is_pin) [] [] (He.ga K "is_pin") fd := T.def_ 25 (d := d_is_pin) rfl
theorem TB.g_is_pin (T : TB K mg) : mg "is_pin" = some (.ref (He.ga K "is_pin")) := T.glo 22 rfl
theorem TB.f_is_bar (T : TB K mg) : ∃ fd, FunD K "is_bar" "is_bar" (defArgs s_is_bar) (defBody s_is_bar) (defScope s_is_bar) [] [] (He.ga K "is_bar") fd := T.def_ 26 (d := d_is_bar) rfl
theorem TB.g_is_bar (T : TB K mg) : mg "is_bar" = some (.ref (He.ga K "is_bar")) := T.glo 23 rfl
theorem TB.f_is_bead (T : TB K mg) : ∃ fd, FunD K "is_bead" "is_bead" (defArgs s_is_bead) (defBody s_is_bead) (defScope s_is_bead) [] [] (He.ga K "is_bead") fd := T.def_ 27 (d := d_is_bead) rfl
theorem TB.g_is_bead (T : TB K mg) : mg "is_bead" = some (.ref (He.ga K "is_bead")) := T.glo 24 rfl
theorem TB.f_kept_pin (T : TB K mg) : ∃ fd, FunD K "kept_pin" "kept_pin" (defArgs s_kept_pin) (defBody s_kept_pin) (defScope s_kept_pin) [] [] (He.ga K "kept_pin") fd := T.def_ 28 (d := d_kept_pin) rfl
theorem TB.g_kept_pin (T : TB K mg) : mg "kept_pin" = some (.ref (He.ga K "kept_pin")) := T.glo 25 rfl
theorem TB.f_kept_bar (T : TB K mg) : ∃ fd, FunD K "kept_bar" "kept_bar" (defArgs s_kept_bar) (defBody s_kept_bar) (defScope s_kept_bar) [] [] (He.ga K "kept_bar") fd := T.def_ 29 (d := d_kept_bar) rfl
theorem TB.g_kept_bar (T : TB K mg) : mg "kept_bar" = some (.ref (He.ga K "kept_bar")) := T.glo 26 rfl
theorem TB.f_kept_bead (T : TB K mg) : ∃ fd, FunD K "kept_bead" "kept_bead" (defArgs s_kept_bead) (defBody s_kept_bead) (defScope s_kept_bead) [] [] (He.ga K "kept_bead") fd := T.def_ 30 (d := d_kept_bead) rfl
theorem TB.g_kept_bead (T : TB K mg) : mg "kept_bead" = some (.ref (He.ga K "kept_bead")) := T.glo 27 rfl
theorem TB.f_joints_of (T : TB K mg) : ∃ fd, FunD K "joints_of" "joints_of" (defArgs s_joints_of) (defBody s_joints_of) (defScope s_joints_of) [] [] (He.ga K "joints_of") fd := T.def_ 31 (d := d_joints_of) rfl
theorem TB.g_joints_of (T : TB K mg) : mg "joints_of" = some (.ref (He.ga K "joints_of")) := T.glo 28 rfl
theorem TB.f_kept_rows (T : TB K mg) : ∃ fd, FunD K "kept_rows" "kept_rows" (defArgs s_kept_rows) (defBody s_kept_rows) (defScope s_kept_rows) [] [] (He.ga K "kept_rows") fd := T.def_ 32 (d := d_kept_rows) rfl
theorem TB.g_kept_rows (T : TB K mg) : mg "kept_rows" = some (.ref (He.ga K "kept_rows")) := T.glo 29 rfl
theorem TB.f_fixed (T : TB K mg) : ∃ fd, FunD K "fixed" "fixed" (defArgs s_fixed) (defBody s_fixed) (defScope s_fixed) [] [] (He.ga K "fixed") fd := T.def_ 35 (d := d_fixed) rfl
theorem TB.g_fixed (T : TB K mg) : mg "fixed" = some (.ref (He.ga K "fixed")) := T.glo 31 rfl
theorem TB.f_is_place (T : TB K mg) : ∃ fd, FunD K "is_place" "is_place" (defArgs s_is_place) (defBody s_is_place) (defScope s_is_place) [] [] (He.ga K "is_place") fd := T.def_ 39 (d := d_is_place) rfl
theorem TB.g_is_place (T : TB K mg) : mg "is_place" = some (.ref (He.ga K "is_place")) := T.glo 32 rfl
theorem TB.f_kept_place (T : TB K mg) : ∃ fd, FunD K "kept_place" "kept_place" (defArgs s_kept_place) (defBody s_kept_place) (defScope s_kept_place) [] [] (He.ga K "kept_place") fd := T.def_ 40 (d := d_kept_place) rfl
theorem TB.g_kept_place (T : TB K mg) : mg "kept_place" = some (.ref (He.ga K "kept_place")) := T.glo 33 rfl
theorem TB.f_shifted (T : TB K mg) : ∃ fd, FunD K "shifted" "shifted" (defArgs s_shifted) (defBody s_shifted) (defScope s_shifted) [] [] (He.ga K "shifted") fd := T.def_ 41 (d := d_shifted) rfl
theorem TB.g_shifted (T : TB K mg) : mg "shifted" = some (.ref (He.ga K "shifted")) := T.glo 34 rfl
theorem TB.f_grown (T : TB K mg) : ∃ fd, FunD K "grown" "grown" (defArgs s_grown) (defBody s_grown) (defScope s_grown) [] [] (He.ga K "grown") fd := T.def_ 42 (d := d_grown) rfl
theorem TB.g_grown (T : TB K mg) : mg "grown" = some (.ref (He.ga K "grown")) := T.glo 35 rfl
theorem TB.f_way_from (T : TB K mg) : ∃ fd, FunD K "way_from" "way_from" (defArgs s_way_from) (defBody s_way_from) (defScope s_way_from) [] [] (He.ga K "way_from") fd := T.def_ 43 (d := d_way_from) rfl
theorem TB.g_way_from (T : TB K mg) : mg "way_from" = some (.ref (He.ga K "way_from")) := T.glo 36 rfl
theorem TB.f_placed (T : TB K mg) : ∃ fd, FunD K "placed" "placed" (defArgs s_placed) (defBody s_placed) (defScope s_placed) [] [] (He.ga K "placed") fd := T.def_ 44 (d := d_placed) rfl
theorem TB.g_placed (T : TB K mg) : mg "placed" = some (.ref (He.ga K "placed")) := T.glo 37 rfl
theorem TB.f_by_one_root (T : TB K mg) : ∃ fd, FunD K "by_one_root" "by_one_root" (defArgs s_by_one_root) (defBody s_by_one_root) (defScope s_by_one_root) [] [] (He.ga K "by_one_root") fd := T.def_ 45 (d := d_by_one_root) rfl
theorem TB.g_by_one_root (T : TB K mg) : mg "by_one_root" = some (.ref (He.ga K "by_one_root")) := T.glo 38 rfl
theorem TB.f_are_kin_roots (T : TB K mg) : ∃ fd, FunD K "are_kin_roots" "are_kin_roots" (defArgs s_are_kin_roots) (defBody s_are_kin_roots) (defScope s_are_kin_roots) [] [] (He.ga K "are_kin_roots") fd := T.def_ 46 (d := d_are_kin_roots) rfl
theorem TB.g_are_kin_roots (T : TB K mg) : mg "are_kin_roots" = some (.ref (He.ga K "are_kin_roots")) := T.glo 39 rfl
theorem TB.f_off_by (T : TB K mg) : ∃ fd, FunD K "off_by" "off_by" (defArgs s_off_by) (defBody s_off_by) (defScope s_off_by) [] [] (He.ga K "off_by") fd := T.def_ 47 (d := d_off_by) rfl
theorem TB.g_off_by (T : TB K mg) : mg "off_by" = some (.ref (He.ga K "off_by")) := T.glo 40 rfl
theorem TB.f_gone (T : TB K mg) : ∃ fd, FunD K "gone" "gone" (defArgs s_gone) (defBody s_gone) (defScope s_gone) [] [] (He.ga K "gone") fd := T.def_ 48 (d := d_gone) rfl
theorem TB.g_gone (T : TB K mg) : mg "gone" = some (.ref (He.ga K "gone")) := T.glo 41 rfl
theorem TB.f_are_places (T : TB K mg) : ∃ fd, FunD K "are_places" "are_places" (defArgs s_are_places) (defBody s_are_places) (defScope s_are_places) [] [] (He.ga K "are_places") fd := T.def_ 49 (d := d_are_places) rfl
theorem TB.g_are_places (T : TB K mg) : mg "are_places" = some (.ref (He.ga K "are_places")) := T.glo 42 rfl
theorem TB.f_tear_in (T : TB K mg) : ∃ fd, FunD K "tear_in" "tear_in" (defArgs s_tear_in) (defBody s_tear_in) (defScope s_tear_in) [] [] (He.ga K "tear_in") fd := T.def_ 50 (d := d_tear_in) rfl
theorem TB.g_tear_in (T : TB K mg) : mg "tear_in" = some (.ref (He.ga K "tear_in")) := T.glo 43 rfl
theorem TB.f_other_side (T : TB K mg) : ∃ fd, FunD K "other_side" "other_side" (defArgs s_other_side) (defBody s_other_side) (defScope s_other_side) [] [] (He.ga K "other_side") fd := T.def_ 51 (d := d_other_side) rfl
theorem TB.g_other_side (T : TB K mg) : mg "other_side" = some (.ref (He.ga K "other_side")) := T.glo 44 rfl
theorem TB.f_need_pose (T : TB K mg) : ∃ fd, FunD K "need_pose" "need_pose" (defArgs s_need_pose) (defBody s_need_pose) (defScope s_need_pose) [] [] (He.ga K "need_pose") fd := T.def_ 52 (d := d_need_pose) rfl
theorem TB.g_need_pose (T : TB K mg) : mg "need_pose" = some (.ref (He.ga K "need_pose")) := T.glo 45 rfl
theorem TB.f_need_joint (T : TB K mg) : ∃ fd, FunD K "need_joint" "need_joint" (defArgs s_need_joint) (defBody s_need_joint) (defScope s_need_joint) [] [] (He.ga K "need_joint") fd := T.def_ 53 (d := d_need_joint) rfl
theorem TB.g_need_joint (T : TB K mg) : mg "need_joint" = some (.ref (He.ga K "need_joint")) := T.glo 46 rfl
theorem TB.f_judged (T : TB K mg) : ∃ fd, FunD K "judged" "judged" (defArgs s_judged) (defBody s_judged) (defScope s_judged) [] [] (He.ga K "judged") fd := T.def_ 54 (d := d_judged) rfl
theorem TB.g_judged (T : TB K mg) : mg "judged" = some (.ref (He.ga K "judged")) := T.glo 47 rfl
theorem TB.f_kin_of (T : TB K mg) : ∃ fd, FunD K "kin_of" "kin_of" (defArgs s_kin_of) (defBody s_kin_of) (defScope s_kin_of) [] [] (He.ga K "kin_of") fd := T.def_ 55 (d := d_kin_of) rfl
theorem TB.g_kin_of (T : TB K mg) : mg "kin_of" = some (.ref (He.ga K "kin_of")) := T.glo 48 rfl
theorem TB.f_mirrored_aside (T : TB K mg) : ∃ fd, FunD K "mirrored_aside" "mirrored_aside" (defArgs s_mirrored_aside) (defBody s_mirrored_aside) (defScope s_mirrored_aside) [] [] (He.ga K "mirrored_aside") fd := T.def_ 56 (d := d_mirrored_aside) rfl
theorem TB.g_mirrored_aside (T : TB K mg) : mg "mirrored_aside" = some (.ref (He.ga K "mirrored_aside")) := T.glo 49 rfl
theorem TB.f_turned_over (T : TB K mg) : ∃ fd, FunD K "turned_over" "turned_over" (defArgs s_turned_over) (defBody s_turned_over) (defScope s_turned_over) [] [] (He.ga K "turned_over") fd := T.def_ 57 (d := d_turned_over) rfl
theorem TB.g_turned_over (T : TB K mg) : mg "turned_over" = some (.ref (He.ga K "turned_over")) := T.glo 50 rfl
theorem TB.f__law_prow (T : TB K mg) : ∃ fd, FunD K "_law_prow" "_law_prow" (defArgs s__law_prow) (defBody s__law_prow) (defScope s__law_prow) [] [] (He.ga K "_law_prow") fd := T.def_ 58 (d := d__law_prow) rfl
theorem TB.g__law_prow (T : TB K mg) : mg "_law_prow" = some (.ref (He.ga K "_law_prow")) := T.glo 51 rfl
theorem TB.f__law_mast (T : TB K mg) : ∃ fd, FunD K "_law_mast" "_law_mast" (defArgs s__law_mast) (defBody s__law_mast) (defScope s__law_mast) [] [] (He.ga K "_law_mast") fd := T.def_ 59 (d := d__law_mast) rfl
theorem TB.g__law_mast (T : TB K mg) : mg "_law_mast" = some (.ref (He.ga K "_law_mast")) := T.glo 52 rfl
theorem TB.f__law_pick (T : TB K mg) : ∃ fd, FunD K "_law_pick" "_law_pick" (defArgs s__law_pick) (defBody s__law_pick) (defScope s__law_pick) [] [] (He.ga K "_law_pick") fd := T.def_ 60 (d := d__law_pick) rfl
theorem TB.g__law_pick (T : TB K mg) : mg "_law_pick" = some (.ref (He.ga K "_law_pick")) := T.glo 53 rfl
theorem TB.f__law_lowest (T : TB K mg) : ∃ fd, FunD K "_law_lowest" "_law_lowest" (defArgs s__law_lowest) (defBody s__law_lowest) (defScope s__law_lowest) [] [] (He.ga K "_law_lowest") fd := T.def_ 61 (d := d__law_lowest) rfl
theorem TB.g__law_lowest (T : TB K mg) : mg "_law_lowest" = some (.ref (He.ga K "_law_lowest")) := T.glo 54 rfl
theorem TB.f__law_halves (T : TB K mg) : ∃ fd, FunD K "_law_halves" "_law_halves" (defArgs s__law_halves) (defBody s__law_halves) (defScope s__law_halves) [] [] (He.ga K "_law_halves") fd := T.def_ 62 (d := d__law_halves) rfl
theorem TB.g__law_halves (T : TB K mg) : mg "_law_halves" = some (.ref (He.ga K "_law_halves")) := T.glo 55 rfl
theorem TB.f__law_plus (T : TB K mg) : ∃ fd, FunD K "_law_plus" "_law_plus" (defArgs s__law_plus) (defBody s__law_plus) (defScope s__law_plus) [] [] (He.ga K "_law_plus") fd := T.def_ 63 (d := d__law_plus) rfl
theorem TB.g__law_plus (T : TB K mg) : mg "_law_plus" = some (.ref (He.ga K "_law_plus")) := T.glo 56 rfl
theorem TB.f__law_times (T : TB K mg) : ∃ fd, FunD K "_law_times" "_law_times" (defArgs s__law_times) (defBody s__law_times) (defScope s__law_times) [] [] (He.ga K "_law_times") fd := T.def_ 64 (d := d__law_times) rfl
theorem TB.g__law_times (T : TB K mg) : mg "_law_times" = some (.ref (He.ga K "_law_times")) := T.glo 57 rfl
theorem TB.f__law_whole_root (T : TB K mg) : ∃ fd, FunD K "_law_whole_root" "_law_whole_root" (defArgs s__law_whole_root) (defBody s__law_whole_root) (defScope s__law_whole_root) [] [] (He.ga K "_law_whole_root") fd := T.def_ 65 (d := d__law_whole_root) rfl
theorem TB.g__law_whole_root (T : TB K mg) : mg "_law_whole_root" = some (.ref (He.ga K "_law_whole_root")) := T.glo 58 rfl
theorem TB.f__law_root (T : TB K mg) : ∃ fd, FunD K "_law_root" "_law_root" (defArgs s__law_root) (defBody s__law_root) (defScope s__law_root) [] [] (He.ga K "_law_root") fd := T.def_ 66 (d := d__law_root) rfl
theorem TB.g__law_root (T : TB K mg) : mg "_law_root" = some (.ref (He.ga K "_law_root")) := T.glo 59 rfl
theorem TB.f__law_form (T : TB K mg) : ∃ fd, FunD K "_law_form" "_law_form" (defArgs s__law_form) (defBody s__law_form) (defScope s__law_form) [] [] (He.ga K "_law_form") fd := T.def_ 67 (d := d__law_form) rfl
theorem TB.g__law_form (T : TB K mg) : mg "_law_form" = some (.ref (He.ga K "_law_form")) := T.glo 60 rfl
theorem TB.f__law_small (T : TB K mg) : ∃ fd, FunD K "_law_small" "_law_small" (defArgs s__law_small) (defBody s__law_small) (defScope s__law_small) [] [] (He.ga K "_law_small") fd := T.def_ 68 (d := d__law_small) rfl
theorem TB.g__law_small (T : TB K mg) : mg "_law_small" = some (.ref (He.ga K "_law_small")) := T.glo 61 rfl
theorem TB.f__law_dot (T : TB K mg) : ∃ fd, FunD K "_law_dot" "_law_dot" (defArgs s__law_dot) (defBody s__law_dot) (defScope s__law_dot) [] [] (He.ga K "_law_dot") fd := T.def_ 69 (d := d__law_dot) rfl
theorem TB.g__law_dot (T : TB K mg) : mg "_law_dot" = some (.ref (He.ga K "_law_dot")) := T.glo 62 rfl
theorem TB.f__law_way (T : TB K mg) : ∃ fd, FunD K "_law_way" "_law_way" (defArgs s__law_way) (defBody s__law_way) (defScope s__law_way) [] [] (He.ga K "_law_way") fd := T.def_ 70 (d := d__law_way) rfl
theorem TB.g__law_way (T : TB K mg) : mg "_law_way" = some (.ref (He.ga K "_law_way")) := T.glo 63 rfl
theorem TB.f__law_kin (T : TB K mg) : ∃ fd, FunD K "_law_kin" "_law_kin" (defArgs s__law_kin) (defBody s__law_kin) (defScope s__law_kin) [] [] (He.ga K "_law_kin") fd := T.def_ 71 (d := d__law_kin) rfl
theorem TB.g__law_kin (T : TB K mg) : mg "_law_kin" = some (.ref (He.ga K "_law_kin")) := T.glo 64 rfl
theorem TB.f__law_square (T : TB K mg) : ∃ fd, FunD K "_law_square" "_law_square" (defArgs s__law_square) (defBody s__law_square) (defScope s__law_square) [] [] (He.ga K "_law_square") fd := T.def_ 72 (d := d__law_square) rfl
theorem TB.g__law_square (T : TB K mg) : mg "_law_square" = some (.ref (He.ga K "_law_square")) := T.glo 65 rfl
theorem TB.f__law_bead (T : TB K mg) : ∃ fd, FunD K "_law_bead" "_law_bead" (defArgs s__law_bead) (defBody s__law_bead) (defScope s__law_bead) [] [] (He.ga K "_law_bead") fd := T.def_ 73 (d := d__law_bead) rfl
theorem TB.g__law_bead (T : TB K mg) : mg "_law_bead" = some (.ref (He.ga K "_law_bead")) := T.glo 66 rfl
theorem TB.f__law_over (T : TB K mg) : ∃ fd, FunD K "_law_over" "_law_over" (defArgs s__law_over) (defBody s__law_over) (defScope s__law_over) [] [] (He.ga K "_law_over") fd := T.def_ 74 (d := d__law_over) rfl
theorem TB.g__law_over (T : TB K mg) : mg "_law_over" = some (.ref (He.ga K "_law_over")) := T.glo 67 rfl
theorem TB.f__law_posed (T : TB K mg) : ∃ fd, FunD K "_law_posed" "_law_posed" (defArgs s__law_posed) (defBody s__law_posed) (defScope s__law_posed) [] [] (He.ga K "_law_posed") fd := T.def_ 75 (d := d__law_posed) rfl
theorem TB.g__law_posed (T : TB K mg) : mg "_law_posed" = some (.ref (He.ga K "_law_posed")) := T.glo 68 rfl
theorem TB.f__law_rows (T : TB K mg) : ∃ fd, FunD K "_law_rows" "_law_rows" (defArgs s__law_rows) (defBody s__law_rows) (defScope s__law_rows) [] [] (He.ga K "_law_rows") fd := T.def_ 76 (d := d__law_rows) rfl
theorem TB.g__law_rows (T : TB K mg) : mg "_law_rows" = some (.ref (He.ga K "_law_rows")) := T.glo 69 rfl
theorem TB.f__law_tear (T : TB K mg) : ∃ fd, FunD K "_law_tear" "_law_tear" (defArgs s__law_tear) (defBody s__law_tear) (defScope s__law_tear) [] [] (He.ga K "_law_tear") fd := T.def_ 77 (d := d__law_tear) rfl
theorem TB.g__law_tear (T : TB K mg) : mg "_law_tear" = some (.ref (He.ga K "_law_tear")) := T.glo 70 rfl
theorem TB.f__law_heard (T : TB K mg) : ∃ fd, FunD K "_law_heard" "_law_heard" (defArgs s__law_heard) (defBody s__law_heard) (defScope s__law_heard) [] [] (He.ga K "_law_heard") fd := T.def_ 78 (d := d__law_heard) rfl
theorem TB.g__law_heard (T : TB K mg) : mg "_law_heard" = some (.ref (He.ga K "_law_heard")) := T.glo 71 rfl
theorem TB.f__law_other_side (T : TB K mg) : ∃ fd, FunD K "_law_other_side" "_law_other_side" (defArgs s__law_other_side) (defBody s__law_other_side) (defScope s__law_other_side) [] [] (He.ga K "_law_other_side") fd := T.def_ 79 (d := d__law_other_side) rfl
theorem TB.g__law_other_side (T : TB K mg) : mg "_law_other_side" = some (.ref (He.ga K "_law_other_side")) := T.glo 72 rfl
theorem TB.f__law_joint_right (T : TB K mg) : ∃ fd, FunD K "_law_joint_right" "_law_joint_right" (defArgs s__law_joint_right) (defBody s__law_joint_right) (defScope s__law_joint_right) [] [] (He.ga K "_law_joint_right") fd := T.def_ 80 (d := d__law_joint_right) rfl
theorem TB.g__law_joint_right (T : TB K mg) : mg "_law_joint_right" = some (.ref (He.ga K "_law_joint_right")) := T.glo 73 rfl
theorem TB.f_law (T : TB K mg) : ∃ fd, FunD K "law" "law" (defArgs s_law) (defBody s_law) (defScope s_law) [] [] (He.ga K "law") fd := T.def_ 81 (d := d_law) rfl
theorem TB.g_law (T : TB K mg) : mg "law" = some (.ref (He.ga K "law")) := T.glo 74 rfl
theorem TB.b_abs (T : TB K mg) : mg "abs" = none := T.free 75 rfl
theorem TB.b_len (T : TB K mg) : mg "len" = none := T.free 76 rfl
theorem TB.b_isinstance (T : TB K mg) : mg "isinstance" = none := T.free 77 rfl
theorem TB.b_int (T : TB K mg) : mg "int" = none := T.free 78 rfl
theorem TB.b_list (T : TB K mg) : mg "list" = none := T.free 79 rfl
theorem TB.b_tuple (T : TB K mg) : mg "tuple" = none := T.free 80 rfl
theorem TB.b_bool (T : TB K mg) : mg "bool" = none := T.free 81 rfl
theorem TB.b_all (T : TB K mg) : mg "all" = none := T.free 82 rfl
theorem TB.b_any (T : TB K mg) : mg "any" = none := T.free 83 rfl
theorem TB.b_zip (T : TB K mg) : mg "zip" = none := T.free 84 rfl
theorem TB.b_enumerate (T : TB K mg) : mg "enumerate" = none := T.free 85 rfl
theorem TB.b_range (T : TB K mg) : mg "range" = none := T.free 86 rfl
theorem TB.b_min (T : TB K mg) : mg "min" = none := T.free 87 rfl
theorem TB.b_max (T : TB K mg) : mg "max" = none := T.free 88 rfl
theorem TB.b_sorted (T : TB K mg) : mg "sorted" = none := T.free 89 rfl
theorem TB.b_set (T : TB K mg) : mg "set" = none := T.free 90 rfl
theorem TB.b_repr (T : TB K mg) : mg "repr" = none := T.free 91 rfl
theorem TB.b_super (T : TB K mg) : mg "super" = none := T.free 92 rfl
theorem TB.g_isqrt (T : TB K mg) : mg "isqrt" = some (.builtin "math.isqrt") := let ⟨_, X, G⟩ := T.ex; PySem.W.mg_of X G (exB_isqrt T.more)
theorem TB.g_NONE (T : TB K mg) : mg "NONE" = some (.ref (He.ga K "NONE")) := T.glo 93 rfl
theorem TB.v_NONE (T : TB K mg) (H : Hp) : SqT K H (He.ga K "NONE") [.int 0, .int 0] := He.tupB_ok (He.ba T.more).2 H
end
end K31
end
section
set_option maxHeartbeats 2000000
set_option autoImplicit false
/-! What the head tells of the classes. -/
namespace K31
open PySem PySem.Spec PyProof.Rows L2
abbrev s_Right_init : Stmt := inClass (top 75) 0
abbrev s_Torn_init : Stmt := inClass (top 76) 0
def faC : List He.Fa := [.glo "Machine", .glo "Right", .glo "Torn", .glo "BadNumber", .glo "BadPlace", .glo "CurveError", .mkr "Machine", .mkr "Right", .mkr "Torn", .cls "Machine", .cls "Right", .cls "Torn",
  .noat "Machine" "many", .noat "Machine" "pins", .noat "Machine" "bars", .noat "Machine" "beads", .noat "Machine" "pen", .noat "Right" "word", .noat "Right" "parts", .noat "Torn" "word", .noat "Torn" "parts", .noat "Torn" "kind", .noat "Torn" "at", .free "ValueError"]
/-- isinstance asks its instances rightly -/
def isiB (K : PySem.W.Frag) (C : Addr) : Bool := He.eqO (PySem.W.findIn K (.ref C) "__class__") (some (some (.builtin "object.__class__"))) && (He.eqO (PySem.W.specialIn K (.builtin "object.__class__") "__get__") (some (some (.builtin "getset_descriptor.__get__"))) &&
  (decide (PySem.W.takesIn K (.builtin "object.__class__") = some true) && decide (PySem.W.mroIn K C (.type "object") = some true)))
def readB (K : PySem.W.Frag) (C : Addr) : Bool := PySem.W.readsIn K C (.type "type") && He.eqO (PySem.W.specialIn K (.ref C) "__getattribute__") (some (some (.builtin "type.__getattribute__")))
def mostB (K : PySem.W.Frag) : Bool := match PySem.W.findCls K (.ref (He.ga K "Machine")) (.type "type") "MOST" with
  | some (.val (.int i _)) => decide (i = 4000)
  | _ => false
/-- an own __init__ that closes over __class__: the cell, the code object's file -/
def cellOf (K : PySem.W.Frag) (C : Str) : Addr := match K.lookup (He.ma K (He.ga K C) "__init__") with
  | some ⟨_, _, .func fd, _⟩ => (match fd.closure with
    | [(_, c)] => c
    | _ => 0)
  | _ => 0
def cellB (K : PySem.W.Frag) (C : Str) : Bool := match K.lookup (cellOf K C) with
  | some ⟨_, _, .cell (some (.ref D)), _⟩ => decide (D = He.ga K C)
  | _ => false
def fileB (K : PySem.W.Frag) (P : Program) (cd : Value) : Bool := match cd with
  | .ref c => (match K.lookup c with
    | some ⟨_, _, .fields vs, _⟩ => (match (vs[2]? : Option Value) with
      | some (Value.str ff _) => (P.main.file : Str) == ff
      | _ => false)
    | _ => false)
  | _ => false
def initB (K : PySem.W.Frag) (P : Program) (C q : Str) : Bool := match K.lookup (He.ma K (He.ga K C) "__init__") with
  | some ⟨_, _, .func fd, _⟩ => PySem.W.codeIn K fd.code q && fileB K P fd.code
  | _ => false
def papB (K : PySem.W.Frag) (P : Program) (C B q : Str) : Bool := He.eqO (PySem.W.ks_superIn K (He.ga K C) (He.ga K C) "__init__") (some (some (.ref (He.ma K (He.ga K "Paper") "__init__")))) && (decide (PySem.W.typeIn K (.ref (He.ma K (He.ga K "Paper") "__init__")) = some (.type "function")) &&
  (decide (PySem.W.mroIn K (He.ga K C) (.ref (He.ga K C)) = some true) && ((PySem.W.clsIn K (He.ga K C)).isSome && (He.eqO (PySem.W.findIn K (.ref (He.ga K C)) "__bool__") (some (some (.ref (He.ma K (He.ga K B) "__bool__")))) &&
  (decide (PySem.W.typeIn K (.ref (He.ma K (He.ga K B) "__bool__")) = some (.type "function")) && (PySem.W.fnIn K (He.ma K (He.ga K "Paper") "__init__") && (cellB K C && initB K P C q)))))))
/-- an exception class with its own __init__ -/
def oexB (K : PySem.W.Frag) (C : Addr) : Bool := match K.lookup C with
  | some ⟨.type T, dd, .cls cd, sl⟩ => (match cd.mro, sl.toList with
    | .ref C2 :: bm, [k0, k1, k2, k3, some (.builtin n), k5] => decide (T = "type") && (decide (C2 = C) && (decide (n = "ValueError.__new__") && (!cd.hasDel && (cd.hasDict && PySem.HandSPX.refsVE bm))))
    | _, _ => false)
  | _ => false
theorem oexB_ok {K : PySem.W.Frag} {C : Addr} (h : oexB K C = true) : ∃ nm q N bs bm sn sub ab col dd k0 k1 k2 k3 k5, K.lookup C = some (excClassObj nm q C N bs bm true sn sub ab col dd k0 k1 k2 k3 k5 "ValueError.__new__") ∧ PySem.HandSPX.refsVE bm = true := by
  unfold oexB at h
  split at h
  · rename_i T dd cd sl ho
    split at h
    · rename_i C2 bm k0 k1 k2 k3 n k5 hm hs
      obtain ⟨h1, h⟩ := He.ba h
      obtain ⟨h2, h⟩ := He.ba h
      obtain ⟨h3, h⟩ := He.ba h
      obtain ⟨h4, h⟩ := He.ba h
      obtain ⟨h5, h6⟩ := He.ba h
      have e1 : T = "type" := of_decide_eq_true h1
      have e2 : C2 = C := of_decide_eq_true h2
      have e3 : n = "ValueError.__new__" := of_decide_eq_true h3
      subst e1 e2 e3
      obtain ⟨n1, n2, n3, n4, n5, n6, n7, n8, n9, n10, n11⟩ := cd
      have e4 : n11 = false := by simpa using h4
      have e5 : n6 = true := h5
      have e6 : n3 = .ref C2 :: bm := hm
      subst e4 e5 e6
      obtain ⟨l⟩ := sl
      have e7 : l = [k0, k1, k2, k3, some (.builtin "ValueError.__new__"), k5] := hs
      subst e7
      exact ⟨n1, n5, n4, n2, bm, n7, n8, n9, n10, dd, k0, k1, k2, k3, k5, ho, h6⟩
    · cases h
  · cases h
def errB (K : PySem.W.Frag) (C : Str) : Bool := oexB K (He.ga K C) && (He.eqO (PySem.W.findIn K (.ref (He.ga K C)) "__setattr__") (some (some (.builtin "object.__setattr__"))) && (decide (PySem.W.subIn K (.ref (He.ga K C)) (.type "BaseException") = some true) &&
  (decide (PySem.W.typeIn K (.ref (He.ga K C)) = some (.type "type")) && (PySem.W.keepIn K (.ref (He.ga K C)) && (He.eqO (PySem.W.findIn K (.ref (He.ga K C)) "__init__") (some (some (.ref (He.ma K (He.ga K C) "__init__")))) &&
  (decide (PySem.W.typeIn K (.ref (He.ma K (He.ga K C) "__init__")) = some (.type "function")) && (He.eqO (PySem.W.findIn K (.ref (He.ga K C)) "part") (some none) && (xfB K (He.ga K C) && (isiB K (He.ga K C) &&
  (decide (PySem.W.exmOne K (.ref (He.ga K C)) (.ref (He.ga K "CurveError")) = some true) && decide (PySem.W.kitOne K (.ref (He.ga K C)) (.ref (He.ga K C)) = some true)))))))))))
def veiB (K : PySem.W.Frag) : Bool := match PySem.W.findCls K (.ref (He.ga K "CurveError")) (.type "type") "__init__" with
  | some (.val (.builtin i)) => decide (i = "ValueError.__init__")
  | _ => false
def exC (P : Program) (K : PySem.W.Frag) : Bool := exB K && ((faC.all fun f => f.ok K) && (isiB K (He.ga K "Machine") && (decide (PySem.W.kitOne K (.ref (He.ga K "Machine")) (.ref (He.ga K "Machine")) = some true) && (readB K (He.ga K "Machine") && (mostB K && (He.eqO (PySem.W.nsIn K cStatics "thirdparty.any") (some none) &&
  (papB K P "Right" "Paper" "Right.__init__" && (papB K P "Torn" "Denial" "Torn.__init__" && (errB K "BadNumber" && (errB K "BadPlace" && (readB K (He.ga K "CurveError") && veiB K)))))))))))
/-! ### the two __init__ with a cell -/
abbrev CloV : Type := Option (Str × Str × Arguments × FuncBody × Scope × Addr × List Str × Addr × Bool)
def cloV (K : PySem.W.Frag) (C : Str) : CloV := match K.lookup (He.ma K (He.ga K C) "__init__") with
  | some ⟨_, _, .func fd, _⟩ => some (fd.name, fd.qualname, fd.params, fd.body, fd.scope, fd.globals, fd.closure.map (·.1), fd.builtins, He.dflB K fd.defaults [])
  | _ => none
def cloW (q : Str) (st : Stmt) : CloV := some ("__init__", q, defArgs st, .stmts (defBody st), defScope st, mainGlobals, ["__class__"], builtinsNs, true)
def clos (K : PySem.W.Frag) : List CloV := [cloV K "Right", cloV K "Torn"]
def closW : List CloV := [cloW "Right.__init__" s_Right_init, cloW "Torn.__init__" s_Torn_init]
/-- a def that closes over __class__ -/
structure CloD (K : PySem.W.Frag) (C q : Str) (st : Stmt) (P : Program) : Prop where
  ex : ∃ (oc : Value) (od : Option Addr) (kV doc pm : Value) (an : Option Addr) (cda : Addr) (ct : Value) (osl : Array (Option Value)) (cc : Addr) (c1 : Value) (d1 : Option Addr) (s1 : Array (Option Value)) (c2 : Value) (d2 : Option Addr) (s2 : Array (Option Value)) (vs : Array Value) (ff : Str) (tf : Tok),
    K.lookup (He.ma K (He.ga K C) "__init__") = some ⟨oc, od, .func (PySem.W.fnX "__init__" q (defArgs st) (defBody st) (defScope st) [("__class__", cc)] .none kV doc pm an (.ref cda) ct), osl⟩ ∧ PySem.W.codeIn K (.ref cda) q = true ∧
    K.lookup cc = some ⟨c1, d1, .cell (some (.ref (He.ga K C))), s1⟩ ∧ K.lookup cda = some ⟨c2, d2, .fields vs, s2⟩ ∧ vs[2]? = some (.str ff tf) ∧ ((P.main.file : Str) == ff) = true
theorem cloD_of {K : PySem.W.Frag} {P : Program} {C q : Str} {st : Stmt} (e : cloV K C = cloW q st) (h1 : cellB K C = true) (h2 : initB K P C q = true) : CloD K C q st P := by
  unfold cloV at e
  unfold cellB cellOf at h1
  unfold initB at h2
  cases ho : K.lookup (He.ma K (He.ga K C) "__init__") with
  | none =>
    rw [ho] at e
    cases e
  | some o =>
    obtain ⟨oc, od, dt, osl⟩ := o
    rw [ho] at e h1 h2
    cases dt with
    | func fd =>
      obtain ⟨n1, n2, n3, n4, n5, n6, n7, n8, n9, n10, n11, n12, n13, n14, n15⟩ := fd
      have e2 : (some (n1, n2, n3, n4, n5, n6, n7.map (·.1), n15, He.dflB K n8 []) : CloV) = (some (("__init__" : Str), q, defArgs st, FuncBody.stmts (defBody st), defScope st, mainGlobals, [("__class__" : Str)], builtinsNs, true) : CloV) := e
      simp only [Option.some.injEq, Prod.mk.injEq] at e2
      obtain ⟨a1, a2, a3, a4, a5, a6, a7, a8, a9⟩ := e2
      subst a1 a2 a3 a4 a5 a6 a8
      obtain ⟨b1, b2⟩ := He.ba (show (PySem.W.codeIn K n13 n2 && fileB K P n13) = true from h2)
      have d0 : n8 = .none := by
        rcases He.dflB_ok a9 with ⟨_, z⟩ | ⟨z, _⟩
        · exact z
        · exact absurd rfl z
      subst d0
      match n7, a7, h1 with
      | [(x, cc)], a7, h1 =>
        have ex : x = "__class__" := by
          injection a7
        subst ex
        have h1' : (match K.lookup cc with
          | some ⟨_, _, .cell (some (.ref D)), _⟩ => decide (D = He.ga K C)
          | _ => false) = true := h1
        unfold fileB at b2
        cases n13 with
        | ref cda =>
          dsimp only at b2
          split at b2
          · rename_i c2 d2 vs s2 hc
            split at b2
            · rename_i ff tf hv
              split at h1'
              · rename_i c1 d1 D s1 hcell
                have eD : D = He.ga K C := of_decide_eq_true h1'
                subst eD
                exact ⟨oc, od, n9, n10, n11, n12, cda, n14, osl, cc, c1, d1, s1, c2, d2, s2, vs, ff, tf, ho, b1, hcell, hc, hv, b2⟩
              · cases h1'
            · cases b2
          · cases b2
        | _ => cases b2
    | _ => cases e
/-- what the top leaves, with the classes -/
structure TC (P : Program) (K : PySem.W.Frag) (mg : Str → Option Value) : Prop extends TB K mg where
  cls : exC P K = true
  clo : clos K = closW
structure Isi (K : PySem.W.Frag) (C : Addr) : Prop where
  ha : PySem.W.findIn K (.ref C) "__class__" = some (some (.builtin "object.__class__"))
  hn : PySem.W.specialIn K (.builtin "object.__class__") "__get__" = some (some (.builtin "getset_descriptor.__get__"))
  ht : PySem.W.takesIn K (.builtin "object.__class__") = some true
  hm : PySem.W.mroIn K C (.type "object") = some true
theorem isi_of {K : PySem.W.Frag} {C : Addr} (h : isiB K C = true) : Isi K C := by
  obtain ⟨h1, h⟩ := He.ba h
  obtain ⟨h2, h⟩ := He.ba h
  obtain ⟨h3, h4⟩ := He.ba h
  exact ⟨He.eqO_ok h1, He.eqO_ok h2, of_decide_eq_true h3, of_decide_eq_true h4⟩
theorem read_of {K : PySem.W.Frag} {C : Addr} (h : readB K C = true) : ClX.CRead K C (.type "type") := let ⟨h1, h2⟩ := He.ba h; ⟨h1, He.eqO_ok h2⟩
/-- a paper's class -/
structure Pap (P : Program) (K : PySem.W.Frag) (C B q : Str) (st : Stmt) : Prop where
  sup : PySem.W.ks_superIn K (He.ga K C) (He.ga K C) "__init__" = some (some (.ref (He.ma K (He.ga K "Paper") "__init__")))
  ty : PySem.W.typeIn K (.ref (He.ma K (He.ga K "Paper") "__init__")) = some (.type "function")
  mro : PySem.W.mroIn K (He.ga K C) (.ref (He.ga K C)) = some true
  cls : ∃ cd, PySem.W.clsIn K (He.ga K C) = some cd
  bool : PySem.W.findIn K (.ref (He.ga K C)) "__bool__" = some (some (.ref (He.ma K (He.ga K B) "__bool__")))
  tyb : PySem.W.typeIn K (.ref (He.ma K (He.ga K B) "__bool__")) = some (.type "function")
  fi : PySem.W.fnIn K (He.ma K (He.ga K "Paper") "__init__") = true
  clo : CloD K C q st P
theorem pap_of {P : Program} {K : PySem.W.Frag} {C B q : Str} {st : Stmt} (h : papB K P C B q = true) (e : cloV K C = cloW q st) : Pap P K C B q st := by
  obtain ⟨h1, h⟩ := He.ba h
  obtain ⟨h2, h⟩ := He.ba h
  obtain ⟨h3, h⟩ := He.ba h
  obtain ⟨h4, h⟩ := He.ba h
  obtain ⟨h5, h⟩ := He.ba h
  obtain ⟨h6, h⟩ := He.ba h
  obtain ⟨h7, h⟩ := He.ba h
  obtain ⟨h8, h9⟩ := He.ba h
  exact ⟨He.eqO_ok h1, of_decide_eq_true h2, of_decide_eq_true h3, Option.isSome_iff_exists.mp h4, He.eqO_ok h5, of_decide_eq_true h6, h7, cloD_of e h8 h9⟩
/-- an error's class -/
structure Err (K : PySem.W.Frag) (C : Str) : Prop where
  o : OexC K (He.ga K C)
  ini : PySem.W.findIn K (.ref (He.ga K C)) "__init__" = some (some (.ref (He.ma K (He.ga K C) "__init__")))
  tyi : PySem.W.typeIn K (.ref (He.ma K (He.ga K C) "__init__")) = some (.type "function")
  no : PySem.W.findIn K (.ref (He.ga K C)) "part" = some none
  xf : XfC K (He.ga K C)
  isi : Isi K (He.ga K C)
  exm : PySem.W.exmOne K (.ref (He.ga K C)) (.ref (He.ga K "CurveError")) = some true
  kit : PySem.W.kitOne K (.ref (He.ga K C)) (.ref (He.ga K C)) = some true
theorem err_of {K : PySem.W.Frag} {C : Str} (h : errB K C = true) : Err K C := by
  obtain ⟨h1, h⟩ := He.ba h
  obtain ⟨h2, h⟩ := He.ba h
  obtain ⟨h3, h⟩ := He.ba h
  obtain ⟨h4, h⟩ := He.ba h
  obtain ⟨h5, h⟩ := He.ba h
  obtain ⟨h6, h⟩ := He.ba h
  obtain ⟨h7, h⟩ := He.ba h
  obtain ⟨h8, h⟩ := He.ba h
  obtain ⟨h9, h⟩ := He.ba h
  obtain ⟨h10, h⟩ := He.ba h
  obtain ⟨h11, h12⟩ := He.ba h
  exact ⟨⟨oexB_ok h1, He.eqO_ok h2, of_decide_eq_true h3, of_decide_eq_true h4, h5⟩, He.eqO_ok h6, of_decide_eq_true h7, He.eqO_ok h8, xfB_ok h9, isi_of h10, of_decide_eq_true h11, of_decide_eq_true h12⟩
section
variable {P : Program} {K : PySem.W.Frag} {mg : Str → Option Value}
theorem TC.parts (T : TC P K mg) : (∀ f ∈ faC, f.ok K = true) ∧ Isi K (He.ga K "Machine") ∧ PySem.W.kitOne K (.ref (He.ga K "Machine")) (.ref (He.ga K "Machine")) = some true ∧ ClX.CRead K (He.ga K "Machine") (.type "type") ∧ mostB K = true ∧
    PySem.W.nsIn K cStatics "thirdparty.any" = some none ∧ Pap P K "Right" "Paper" "Right.__init__" s_Right_init ∧ Pap P K "Torn" "Denial" "Torn.__init__" s_Torn_init ∧ Err K "BadNumber" ∧ Err K "BadPlace" ∧ ClX.CRead K (He.ga K "CurveError") (.type "type") ∧ veiB K = true := by
  have c := T.clo
  have c1 : cloV K "Right" = cloW "Right.__init__" s_Right_init := by
    injection c
  have c2 : cloV K "Torn" = cloW "Torn.__init__" s_Torn_init := by
    injection c with _ c
    injection c
  obtain ⟨_, h⟩ := He.ba T.cls
  obtain ⟨h1, h⟩ := He.ba h
  obtain ⟨h2, h⟩ := He.ba h
  obtain ⟨h3, h⟩ := He.ba h
  obtain ⟨h4, h⟩ := He.ba h
  obtain ⟨h5, h⟩ := He.ba h
  obtain ⟨h6, h⟩ := He.ba h
  obtain ⟨h7, h⟩ := He.ba h
  obtain ⟨h8, h⟩ := He.ba h
  obtain ⟨h9, h⟩ := He.ba h
  obtain ⟨h10, h⟩ := He.ba h
  obtain ⟨h11, h12⟩ := He.ba h
  exact ⟨fun f hf => List.all_eq_true.mp h1 f hf, isi_of h2, of_decide_eq_true h3, read_of h4, h5, He.eqO_ok h6, pap_of h7 c1, pap_of h8 c2, err_of h9, err_of h10, read_of h11, h12⟩
theorem TC.fa_ (T : TC P K mg) (i : Nat) {f : He.Fa} (h : faC[i]? = some f) : f.ok K = true := T.parts.1 f (List.mem_of_getElem? h)
theorem TC.gloC (T : TC P K mg) (i : Nat) {x : Str} (h : faC[i]? = some (.glo x)) : mg x = some (.ref (He.ga K x)) := let ⟨_, X, G⟩ := T.ex; He.glo_ok X G (T.fa_ i h)
theorem TC.g_Machine (T : TC P K mg) : mg "Machine" = some (.ref (He.ga K "Machine")) := T.gloC 0 rfl
theorem TC.g_Right (T : TC P K mg) : mg "Right" = some (.ref (He.ga K "Right")) := T.gloC 1 rfl
theorem TC.g_Torn (T : TC P K mg) : mg "Torn" = some (.ref (He.ga K "Torn")) := T.gloC 2 rfl
theorem TC.g_BadNumber (T : TC P K mg) : mg "BadNumber" = some (.ref (He.ga K "BadNumber")) := T.gloC 3 rfl
theorem TC.g_BadPlace (T : TC P K mg) : mg "BadPlace" = some (.ref (He.ga K "BadPlace")) := T.gloC 4 rfl
theorem TC.g_CurveError (T : TC P K mg) : mg "CurveError" = some (.ref (He.ga K "CurveError")) := T.gloC 5 rfl
theorem TC.mk_Machine (T : TC P K mg) : Mk K (He.ga K "Machine") (He.ma K (He.ga K "Machine") "__init__") := He.mkr_ok (T.fa_ 6 rfl)
theorem TC.mk_Right (T : TC P K mg) : Mk K (He.ga K "Right") (He.ma K (He.ga K "Right") "__init__") := He.mkr_ok (T.fa_ 7 rfl)
theorem TC.mk_Torn (T : TC P K mg) : Mk K (He.ga K "Torn") (He.ma K (He.ga K "Torn") "__init__") := He.mkr_ok (T.fa_ 8 rfl)
theorem TC.cl_Machine (T : TC P K mg) : Cls K (He.ga K "Machine") := He.cls_ok (T.fa_ 9 rfl)
theorem TC.cl_Right (T : TC P K mg) : Cls K (He.ga K "Right") := He.cls_ok (T.fa_ 10 rfl)
theorem TC.cl_Torn (T : TC P K mg) : Cls K (He.ga K "Torn") := He.cls_ok (T.fa_ 11 rfl)
theorem TC.noat (T : TC P K mg) (i : Nat) {x f : Str} (h : faC[i]? = some (.noat x f)) : NoAttr K (He.ga K x) f := He.noat_ok (T.fa_ i h)
theorem TC.b_ValueError (T : TC P K mg) : mg "ValueError" = none := let ⟨_, X, G⟩ := T.ex; He.free_ok X G (T.fa_ 23 rfl)
theorem TC.most (T : TC P K mg) : ∃ u, ClX.CVal K (He.ga K "Machine") (.type "type") "MOST" (.int 4000) u := by
  have h := T.parts.2.2.2.2.1
  unfold mostB at h
  split at h
  · rename_i i t e
    have ei : i = 4000 := of_decide_eq_true h
    subst ei
    exact ⟨_, e, _, rfl⟩
  · cases h
theorem TC.vei (T : TC P K mg) : PySem.W.findCls K (.ref (He.ga K "CurveError")) (.type "type") "__init__" = some (.val (.builtin "ValueError.__init__")) := by
  have h := T.parts.2.2.2.2.2.2.2.2.2.2.2
  unfold veiB at h
  split at h
  · rename_i i e
    have ei : i = "ValueError.__init__" := of_decide_eq_true h
    rw [e, ei]
  · cases h
theorem TC.right (T : TC P K mg) : Pap P K "Right" "Paper" "Right.__init__" s_Right_init := T.parts.2.2.2.2.2.2.1
theorem TC.torn (T : TC P K mg) : Pap P K "Torn" "Denial" "Torn.__init__" s_Torn_init := T.parts.2.2.2.2.2.2.2.1
theorem TC.e_num (T : TC P K mg) : Err K "BadNumber" := T.parts.2.2.2.2.2.2.2.2.1
theorem TC.e_place (T : TC P K mg) : Err K "BadPlace" := T.parts.2.2.2.2.2.2.2.2.2.1
theorem TC.f_Machine_init (T : TC P K mg) : ∃ fd, FunD K "__init__" "Machine.__init__" (defArgs s_Machine_init) (defBody s_Machine_init) (defScope s_Machine_init) [] [] (He.ma K (He.ga K "Machine") "__init__") fd := T.def_ 33 (d := d_Machine_init) rfl
theorem TC.f_need_machine (T : TC P K mg) : ∃ fd, FunD K "need_machine" "need_machine" (defArgs s_need_machine) (defBody s_need_machine) (defScope s_need_machine) [.str "machine"] [] (He.ga K "need_machine") fd := T.def_ 34 (d := d_need_machine) rfl
theorem TC.f_Paper_init (T : TC P K mg) : ∃ fd, FunD K "__init__" "Paper.__init__" (defArgs s_Paper_init) (defBody s_Paper_init) (defScope s_Paper_init) [] [] (He.ma K (He.ga K "Paper") "__init__") fd := T.def_ 36 (d := d_Paper_init) rfl
theorem TC.f_Paper_bool (T : TC P K mg) : ∃ fd, FunD K "__bool__" "Paper.__bool__" (defArgs s_Paper_bool) (defBody s_Paper_bool) (defScope s_Paper_bool) [] [] (He.ma K (He.ga K "Paper") "__bool__") fd := T.def_ 37 (d := d_Paper_bool) rfl
theorem TC.f_Denial_bool (T : TC P K mg) : ∃ fd, FunD K "__bool__" "Denial.__bool__" (defArgs s_Denial_bool) (defBody s_Denial_bool) (defScope s_Denial_bool) [] [] (He.ma K (He.ga K "Denial") "__bool__") fd := T.def_ 38 (d := d_Denial_bool) rfl
theorem TC.f_BadNumber_init (T : TC P K mg) : ∃ fd, FunD K "__init__" "BadNumber.__init__" (defArgs s_BadNumber_init) (defBody s_BadNumber_init) (defScope s_BadNumber_init) [] [] (He.ma K (He.ga K "BadNumber") "__init__") fd := T.def_ 0 (d := d_BadNumber_init) rfl
theorem TC.f_BadPlace_init (T : TC P K mg) : ∃ fd, FunD K "__init__" "BadPlace.__init__" (defArgs s_BadPlace_init) (defBody s_BadPlace_init) (defScope s_BadPlace_init) [] [] (He.ma K (He.ga K "BadPlace") "__init__") fd := T.def_ 1 (d := d_BadPlace_init) rfl
theorem TC.g_need_machine (T : TC P K mg) : mg "need_machine" = some (.ref (He.ga K "need_machine")) := let ⟨_, X, G⟩ := T.ex; He.glo_ok X G (List.all_eq_true.mp (show (fa.all fun f => f.ok K) = true from List.all_eq_true.mpr fun f hf => T.says.facts hf) (.glo "need_machine") (List.mem_of_getElem? (i := 30) rfl))
end
end K31
end
section
set_option maxHeartbeats 0
set_option autoImplicit false
/-! The head: the top run in the kernel, what it leaves. -/
namespace K31
open PySem PySem.Spec PyProof.Rows L2
def names0 : List PySem.Str := ["_wall", "CurveError", "BadNumber", "BadPlace", "BadMachine", "BadText", "is_integer", "is_within", "is_list", "common", "is_number", "is_point", "kept", "kept_row", "need_integer", "BAR", "FIGURES", "MOST_FIGURES", "integer_in", "number_in", "Scan", "halves", "lowest", "added", "turned", "less_by", "product", "part_by", "sign_in"]
def names1 : List PySem.Str := ["total", "summed", "square", "root_in", "text_in", "MOST_JOINTS", "KINDS", "text_of", "take_joints", "take_line", "parts_read", "are_joints", "is_pin", "is_bar", "is_bead", "kept_pin", "kept_bar", "kept_bead", "joints_of", "kept_rows", "Machine", "need_machine", "fixed", "Paper", "Denial", "NONE", "is_place", "kept_place", "shifted", "grown"]
def names2 : List PySem.Str := ["way_from", "placed", "by_one_root", "are_kin_roots", "off_by", "gone", "Right", "Torn", "are_places", "tear_in", "other_side", "need_pose", "need_joint", "judged", "kin_of", "mirrored_aside", "turned_over", "_law_prow", "_law_mast", "_law_pick", "_law_lowest", "_law_halves", "_law_plus", "_law_times", "_law_whole_root", "_law_root", "_law_form", "_law_small", "_law_dot", "_law_way"]
def names3 : List PySem.Str := ["_law_kin", "_law_square", "_law_bead", "_law_over", "_law_posed", "_law_rows", "_law_tear", "_law_heard", "_law_other_side", "_law_joint_right"]
def names : List PySem.Str := names0 ++ names1 ++ names2 ++ names3
abbrev R : PySem.W.OpenRow := PySem.W.OpenLaw.row PySem.Challenge.rw_typedcurve_k31_whole_other_sides_togethe
abbrev qv : Program := PySem.W.view R.prog [0, 110]
/-! ### the looks -/
def tf : List He.Defn := [("law", none)]
/-- where things lie: looked at once, to be checked in the run -/
def as0 : List Addr := [3, 0, 6, 4, 620, 553, 59, 79, 98, 117, 136, 295, 548, 596, 617, 707, 728, 58, 78, 97, 116, 135, 294, 547, 595, 616, 706, 727, 692, 713, 76, 95, 114, 145, 152, 159, 166, 173, 178, 185]
def as1 : List Addr := [190, 197, 306, 313, 320, 327, 334, 341, 348, 355, 362, 367, 374, 381, 425, 432, 439, 446, 453, 460, 467, 474, 479, 493, 560, 565, 579, 586, 614, 625, 632, 639, 646, 653, 660, 667, 674, 681, 688, 735]
def as2 : List Addr := [742, 749, 754, 759, 766, 771, 776, 781, 786, 793, 800, 807, 814, 821, 828, 835, 842, 847, 854, 861, 866, 873, 878, 883, 888, 893, 898, 905, 912, 919, 924, 929, 704, 725, 75, 94, 113, 144, 151, 158]
def as3 : List Addr := [165, 172, 177, 184, 189, 196, 305, 312, 319, 326, 333, 340, 347, 354, 361, 366, 373, 380, 424, 431, 438, 445, 452, 459, 466, 473, 478, 492, 559, 564, 578, 585, 613, 624, 631, 638, 645, 652, 659, 666]
def as4 : List Addr := [673, 680, 687, 734, 741, 748, 753, 758, 765, 770, 775, 780, 785, 792, 799, 806, 813, 820, 827, 834, 841, 846, 853, 860, 865, 872, 877, 882, 887, 892, 897, 904, 911, 918, 923, 928, 703, 724]
def asY (_ : Addr → Option Obj) : List Addr := as0 ++ as1 ++ as2 ++ as3 ++ as4 ++ [cStatics]
def KY (g : Addr → Option Obj) : PySem.W.Frag := He.frT g (asY g)
abbrev AlY : Type := He.AlD × Bool × List CloV
def obsY (g : Addr → Option Obj) : AlY := (He.obsD fa fn (KY g), exC R.prog (KY g) && He.tabsB g tf (KY g), clos (KY g))
def valY : AlY := (He.valD fn, true, closW)
structure SaysG (fs : List He.Fa) (ds : List He.DefD) (ts : List He.Defn) (Q : Program) (g : Addr → Option Obj) (K : PySem.W.Frag) : Prop where
  t : He.SaysD fs ds K
  more : exC Q K = true
  clo : clos K = closW
  hd : ∀ p ∈ ts, PySem.W.codeHdIn K (He.cT K p).1 (He.cT K p).2 = true
  out : ∀ p ∈ ts, K.lookup (He.cT K p).2 = none
  empty : ∀ p ∈ ts, g (He.cT K p).2 = some { cls := .none, data := .fields #[] }
theorem saysG_of {fs : List He.Fa} {ds : List He.DefD} {ts : List He.Defn} {Q : Program} {g : Addr → Option Obj} {as : List Addr} (e : ((He.obsD fs ds (He.frT g as), exC Q (He.frT g as) && He.tabsB g ts (He.frT g as), clos (He.frT g as)) : AlY) = (He.valD ds, true, closW)) : SaysG fs ds ts Q g (He.frT g as) := by
  obtain ⟨e1, e2⟩ := Prod.mk.inj e
  obtain ⟨e2, e3⟩ := Prod.mk.inj e2
  obtain ⟨m1, m2⟩ := He.ba e2
  have tab : ∀ p ∈ ts, PySem.W.codeHdIn (He.frT g as) (He.cT (He.frT g as) p).1 (He.cT (He.frT g as) p).2 = true ∧ ∃ o, g (He.cT (He.frT g as) p).2 = some o ∧ He.emptyTab o = true := fun p hp => by
    obtain ⟨t1, t2⟩ := He.ba (List.all_eq_true.mp m2 p hp)
    refine ⟨t1, ?_⟩
    cases hg : g (He.cT (He.frT g as) p).2 with
    | none => rw [hg] at t2; cases t2
    | some o => rw [hg] at t2; exact ⟨o, rfl, t2⟩
  exact ⟨e1, m1, e3, fun p hp => (tab p hp).1, fun p hp => let ⟨_, _, hg, z⟩ := tab p hp; He.frT_none hg z, fun p hp => by
    obtain ⟨_, o, hg, z⟩ := tab p hp
    rw [hg, He.emptyTab_eq z]⟩
abbrev SaysY (h : Heap) (K : PySem.W.Frag) : Prop := SaysG fa fn tf R.prog h.get? K
theorem saysY_of {h : Heap} (e : obsY h.get? = valY) : SaysY h (KY h.get?) := saysG_of e
def hkY : PySem.W.Hook where
  α := AlY
  obs := fun s => obsY s.heap.get?
  val := fun _ => valY
  says := fun _ h => ∃ K : PySem.W.Frag, K.In h ∧ SaysY h K
  of := fun _ _ e => ⟨_, He.frT_in, saysY_of e⟩
  keeps := fun _ _ _ ⟨K, hK, c⟩ k => ⟨K, PySem.W.Frag.In.keeps hK k, ⟨c.t, c.more, c.clo, c.hd, c.out, fun p hp => k _ _ (c.empty p hp)⟩⟩
def obY (s : PySem.W.SharedT) : AlY := obsY (HandSHeadRun.getT s)
theorem obY_eq (s : PySem.W.SharedT) : obY s = hkY.obs s.abs := by
  have e : HandSHeadRun.getT s = s.abs.heap.get? := funext (HandSHeadRun.getT_eq s)
  show obsY (HandSHeadRun.getT s) = obsY s.abs.heap.get?
  rw [e]
/-- the whole run, looked at three times: so each run of the kernel stays small -/
noncomputable abbrev whole (w : World) : Option (Shared × PySem.W.SharedT) := HandSHeadRun.wholeF (fun p => HandSHeadRun.stepQ (HandSHeadRun.denQ HandSHeadRun.tabQ) p w) HandSHeadRun.fenceQ 12000 R.prog
def gA : List He.DefD := fn0 ++ fn1
def gB : List He.DefD := fn2 ++ fn3
def lookD (ds : List He.DefD) (K : PySem.W.Frag) : He.AlD := (ds.all fun d => d.ok K, ds.map fun d => He.fnW K d.at_)
def lookC (K : PySem.W.Frag) (g : Addr → Option Obj) : Bool × Bool × List CloV := (fa.all fun f => f.ok K, exC R.prog K && He.tabsB g tf K, clos K)
theorem runA (w : World) : (whole w).map (fun x => lookD gA (KY (HandSHeadRun.getT x.2))) = some (He.valD gA) := by
  kernel_rfl
theorem runB (w : World) : (whole w).map (fun x => lookD gB (KY (HandSHeadRun.getT x.2))) = some (He.valD gB) := by
  kernel_rfl
theorem runC (w : World) : (whole w).map (fun x => (HandSHeadRun.looksF R.prog x.1.heap x.2.abs, HandSHeadRun.seenQ qv names (importedModules R.prog.main.body) (fun s => PySem.W.xlAt qv [] s && PySem.W.recOk R.toRowW.records s) x.2.abs, lookC (KY (HandSHeadRun.getT x.2)) (HandSHeadRun.getT x.2))) = some (true, PySem.W.openGood qv names, (true, true, closW)) := by
  kernel_rfl
theorem join3 {α A B C U V Z : Type} {o : Option α} {f1 : α → A} {f2 : α → B} {f3 : α → C} {p : α → U} {q : α → V} {F : α → Z} {a : A} {b : B} {c : C} {u : U} {v : V} {z : Z} (h1 : o.map f1 = some a) (h2 : o.map f2 = some b) (h3 : o.map (fun x => (p x, q x, f3 x)) = some (u, v, c)) (hF : ∀ x, f1 x = a → f2 x = b → f3 x = c → F x = z) :
    o.map (fun x => (p x, q x, F x)) = some (u, v, z) := by
  cases o with
  | none => cases h1
  | some x =>
    obtain ⟨e1, e2⟩ := Prod.mk.inj (Option.some.inj h3)
    obtain ⟨e2, e3⟩ := Prod.mk.inj e2
    show some (p x, q x, F x) = _
    rw [e1, e2, hF x (Option.some.inj h1) (Option.some.inj h2) e3]
theorem fn_AB : fn = gA ++ gB := by
  unfold fn gA gB
  rw [List.append_assoc, List.append_assoc]
theorem look_all {K : PySem.W.Frag} (h1 : lookD gA K = He.valD gA) (h2 : lookD gB K = He.valD gB) (h3 : (fa.all fun f => f.ok K) = true) : He.obsD fa fn K = He.valD fn := by
  obtain ⟨a1, a2⟩ := Prod.mk.inj (show ((gA.all fun d => d.ok K), gA.map fun d => He.fnW K d.at_) = (true, gA.map He.DefD.val) from h1)
  obtain ⟨b1, b2⟩ := Prod.mk.inj (show ((gB.all fun d => d.ok K), gB.map fun d => He.fnW K d.at_) = (true, gB.map He.DefD.val) from h2)
  show (((fa.all fun f => f.ok K) && fn.all fun d => d.ok K), fn.map fun d => He.fnW K d.at_) = (true, fn.map He.DefD.val)
  rw [fn_AB, List.all_append, List.map_append, List.map_append, a1, a2, b1, b2, h3]
  rfl
theorem run (w : World) : HandSHeadRun.RunEqI R qv hkY obY 12000 names w := by
  have h := join3 (F := fun x : Shared × PySem.W.SharedT => obY x.2) (z := valY) (runA w) (runB w) (runC w) fun x e1 e2 e3 => by
    obtain ⟨c1, c2⟩ := Prod.mk.inj e3
    obtain ⟨c2, c3⟩ := Prod.mk.inj c2
    exact Prod.ext (look_all e1 e2 c1) (Prod.ext c2 c3)
  exact h
end K31
end
section
set_option maxHeartbeats 2000000
set_option autoImplicit false
/-! The forward layer: pure data D, what stands for it in the heap, and what evaluates to it. -/
namespace K31
open PySem PySem.Spec PyProof.Rows L2

/-- pure data: what a value stands for -/
inductive D where
  | non | bl (b : Bool) | int (i : Int) | str (x : Str)
  | lst (ds : List D) | tup (ds : List D)
  | obj (C : Addr) (ns : List Str) (ds : List D)
  | fn (f : Addr)
  /-- a tuple that is tracked itself; a dict by ints, by tuples of ints -/
  | tpx (ds : List D) | dK (ks : List Int) (ds : List D) | dT (ks : List (List Int)) (ds : List D)
  /-- an object at a of which it is told what is tracked -/
  | opq (a : Addr) (os : List (Addr × HO))

mutual
/-- v stands for the data -/
def Rp (K : PySem.W.Frag) (H : Hp) : D → V → Prop
  | .non, v => v = .non
  | .bl b, v => v = .bl b
  | .int i, v => v = .int i
  | .str x, v => v = .str x
  | .lst ds, v => ∃ a xs, v = .ref a ∧ SqL K H a xs ∧ RpL K H ds xs
  | .tup ds, v => ∃ a xs, v = .ref a ∧ SqT K H a xs ∧ RpL K H ds xs
  | .obj C ns ds, v => ∃ a dx xs, v = .ref a ∧ H a = some (.ins C dx (ns.zip xs)) ∧ RpL K H ds xs ∧ ns.length = ds.length
  | .fn f, v => v = .ref f
  | .tpx ds, v => ∃ a xs, v = .ref a ∧ H a = some (.tup xs) ∧ RpL K H ds xs
  | .dK ks ds, v => ∃ a xs, v = .ref a ∧ H a = some (.dK ((ks.map fun k => (Sum.inl k : Key)).zip xs)) ∧ RpL K H ds xs ∧ ks.length = ds.length
  | .dT ks ds, v => ∃ a xs, v = .ref a ∧ H a = some (.dT ((ks.map fun k => k.map fun i => (Sum.inl i : Key)).zip xs)) ∧ RpL K H ds xs ∧ ks.length = ds.length
  | .opq a os, v => v = .ref a ∧ ∀ p ∈ os, H p.1 = some p.2
def RpL (K : PySem.W.Frag) (H : Hp) : List D → List V → Prop
  | [], xs => xs = []
  | d :: ds, xs => ∃ x ys, xs = x :: ys ∧ Rp K H d x ∧ RpL K H ds ys
end

theorem Same.rd {H H' : Hp} {a : Addr} {u : HO} (e : Same H H') (h : Rd H a u) : Rd H' a u := by
  rcases h with h | ⟨o, h⟩
  · exact .inl (e _ _ h)
  · exact .inr ⟨o, e _ _ h⟩
theorem Same.sqT {K : PySem.W.Frag} {H H' : Hp} {a : Addr} {xs : List V} (e : Same H H') (h : SqT K H a xs) : SqT K H' a xs := by
  rcases h with h | h
  · exact .inl (Same.rd e h)
  · exact .inr h
theorem Same.new {H : Hp} {p : Addr} {o : HO} (h : H p = none) : Same H (upd H p o) := fun a u e => by
  rw [upd_ne (ne_of_none e h)]
  exact e
mutual
theorem Rp.mono {K : PySem.W.Frag} {H H' : Hp} (e : Same H H') : ∀ (d : D) (v : V), Rp K H d v → Rp K H' d v
  | .non, _, h => h
  | .bl _, _, h => h
  | .int _, _, h => h
  | .str _, _, h => h
  | .fn _, _, h => h
  | .lst ds, v, h => by
    obtain ⟨a, xs, h1, h2, h3⟩ := h
    exact ⟨a, xs, h1, e.seq h2, RpL.mono e ds xs h3⟩
  | .tup ds, v, h => by
    obtain ⟨a, xs, h1, h2, h3⟩ := h
    exact ⟨a, xs, h1, Same.sqT e h2, RpL.mono e ds xs h3⟩
  | .obj C ns ds, v, h => by
    obtain ⟨a, dx, xs, h1, h2, h3, h4⟩ := h
    exact ⟨a, dx, xs, h1, e _ _ h2, RpL.mono e ds xs h3, h4⟩
  | .tpx ds, v, h => by
    obtain ⟨a, xs, h1, h2, h3⟩ := h
    exact ⟨a, xs, h1, e _ _ h2, RpL.mono e ds xs h3⟩
  | .dK ks ds, v, h => by
    obtain ⟨a, xs, h1, h2, h3, h4⟩ := h
    exact ⟨a, xs, h1, e _ _ h2, RpL.mono e ds xs h3, h4⟩
  | .dT ks ds, v, h => by
    obtain ⟨a, xs, h1, h2, h3, h4⟩ := h
    exact ⟨a, xs, h1, e _ _ h2, RpL.mono e ds xs h3, h4⟩
  | .opq a os, v, h => ⟨h.1, fun p hp => e _ _ (h.2 p hp)⟩
theorem RpL.mono {K : PySem.W.Frag} {H H' : Hp} (e : Same H H') : ∀ (ds : List D) (xs : List V), RpL K H ds xs → RpL K H' ds xs
  | [], _, h => h
  | d :: ds, xs, h => by
    obtain ⟨x, ys, h1, h2, h3⟩ := h
    exact ⟨x, ys, h1, Rp.mono e d x h2, RpL.mono e ds ys h3⟩
end
section
variable {K : PySem.W.Frag} {H : Hp}
theorem RpL.length : ∀ {ds : List D} {xs : List V}, RpL K H ds xs → xs.length = ds.length
  | [], _, h => by cases h; rfl
  | d :: ds, xs, h => by
    obtain ⟨x, ys, rfl, _, h3⟩ := h
    simp [RpL.length h3]
theorem RpL.get : ∀ {ds : List D} {xs : List V} {i : Nat} {d : D}, RpL K H ds xs → ds[i]? = some d → ∃ x, xs[i]? = some x ∧ Rp K H d x
  | [], _, _, _, _, e => by simp at e
  | d :: ds, xs, 0, d', h, e => by
    obtain ⟨x, ys, rfl, h2, h3⟩ := h
    simp at e; subst e
    exact ⟨x, rfl, h2⟩
  | d :: ds, xs, i + 1, d', h, e => by
    obtain ⟨x, ys, rfl, h2, h3⟩ := h
    obtain ⟨z, a, b⟩ := RpL.get (i := i) h3 (by simpa using e)
    exact ⟨z, by simpa using a, b⟩
theorem RpL.nth : ∀ {ds : List D} {xs : List V} {i : Nat} {x : V}, RpL K H ds xs → xs[i]? = some x → ∃ d, ds[i]? = some d ∧ Rp K H d x
  | [], _, _, _, h, e => by cases h; simp at e
  | d :: ds, xs, 0, x', h, e => by
    obtain ⟨x, ys, rfl, h2, h3⟩ := h
    simp at e; subst e
    exact ⟨d, rfl, h2⟩
  | d :: ds, xs, i + 1, x', h, e => by
    obtain ⟨x, ys, rfl, h2, h3⟩ := h
    obtain ⟨z, a, b⟩ := RpL.nth (i := i) h3 (by simpa using e)
    exact ⟨z, by simpa using a, b⟩
theorem RpL.append : ∀ {ds es : List D} {xs ys : List V}, RpL K H ds xs → RpL K H es ys → RpL K H (ds ++ es) (xs ++ ys)
  | [], _, _, _, h, h' => by cases h; exact h'
  | d :: ds, es, xs, ys, h, h' => by
    obtain ⟨x, zs, rfl, h2, h3⟩ := h
    exact ⟨x, zs ++ ys, rfl, h2, RpL.append h3 h'⟩
theorem RpL.take : ∀ {ds : List D} {xs : List V} (n : Nat), RpL K H ds xs → RpL K H (ds.take n) (xs.take n)
  | _, _, 0, _ => by simp [RpL]
  | [], _, n + 1, h => by cases h; simp [RpL]
  | d :: ds, xs, n + 1, h => by
    obtain ⟨x, zs, rfl, h2, h3⟩ := h
    exact ⟨x, zs.take n, rfl, h2, RpL.take n h3⟩
theorem RpL.drop : ∀ {ds : List D} {xs : List V} (n : Nat), RpL K H ds xs → RpL K H (ds.drop n) (xs.drop n)
  | _, _, 0, h => h
  | [], _, n + 1, h => by cases h; simp [RpL]
  | d :: ds, xs, n + 1, h => by
    obtain ⟨x, zs, rfl, h2, h3⟩ := h
    exact RpL.drop n h3
end

/-! ### the slots -/
abbrev Rho := List (Option D)
structure EnvD (K : PySem.W.Frag) (H : Hp) (σ : L2.St) (ρ : Rho) : Prop where
  len : σ.length = ρ.length
  at_ : ∀ (i : Nat) (d : D), ρ[i]? = some (some d) → ∃ v, σ[i]? = some (some v) ∧ Rp K H d v
section
variable {K : PySem.W.Frag} {H H' : Hp} {σ : L2.St} {ρ : Rho}
theorem EnvD.mono (e : Same H H') (h : EnvD K H σ ρ) : EnvD K H' σ ρ := ⟨h.len, fun i d hd => let ⟨v, a, b⟩ := h.at_ i d hd; ⟨v, a, Rp.mono e d v b⟩⟩
theorem EnvD.set {i : Nat} {d : D} {v : V} (h : EnvD K H σ ρ) (r : Rp K H d v) : EnvD K H (σ.set i (some v)) (ρ.set i (some d)) := by
  refine ⟨by simp [h.len], fun j d' hj => ?_⟩
  by_cases e : i = j
  · subst e
    have hi : i < ρ.length := by
      have := (List.getElem?_eq_some_iff.mp hj).1
      simpa using this
    rw [List.getElem?_set_self hi] at hj
    cases hj
    exact ⟨v, List.getElem?_set_self (by rw [h.len]; exact hi), r⟩
  · rw [List.getElem?_set_ne e] at hj
    obtain ⟨w, a, b⟩ := h.at_ j d' hj
    exact ⟨w, by rw [List.getElem?_set_ne e]; exact a, b⟩
theorem EnvD.clear {i : Nat} (h : EnvD K H σ ρ) : EnvD K H (σ.set i none) (ρ.set i none) := by
  refine ⟨by simp [h.len], fun j d' hj => ?_⟩
  by_cases e : i = j
  · subst e
    have hi : i < ρ.length := by
      have := (List.getElem?_eq_some_iff.mp hj).1
      simpa using this
    rw [List.getElem?_set_self hi] at hj
    cases hj
  · rw [List.getElem?_set_ne e] at hj
    obtain ⟨w, a, b⟩ := h.at_ j d' hj
    exact ⟨w, by rw [List.getElem?_set_ne e]; exact a, b⟩
/-- the slots of names forgotten -/
def wipeD (ρ : Rho) : List Nat → Rho
  | [] => ρ
  | v :: vs => (wipeD ρ vs).set v none
theorem EnvD.wipe (h : EnvD K H σ ρ) : ∀ vs : List Nat, EnvD K H (L2.wipe σ vs) (wipeD ρ vs)
  | [] => h
  | v :: vs => (EnvD.wipe h vs).clear
/-- names' values forgotten -/
theorem EnvD.weak {ρ' : Rho} (h : EnvD K H σ ρ) (hl : ρ'.length = ρ.length) (hw : ∀ (i : Nat) (d : D), ρ'[i]? = some (some d) → ρ[i]? = some (some d)) : EnvD K H σ ρ' :=
  ⟨h.len.trans hl.symm, fun i d e => h.at_ i d (hw i d e)⟩
theorem EnvD.start {N : List Str} {ds : List D} {vs : List V} (r : RpL K H ds vs) (hN : ds.length ≤ N.length) : EnvD K H (L2.start N vs) (ds.map some ++ List.replicate (N.length - ds.length) none) := by
  have hl := r.length
  refine ⟨by unfold L2.start; simp [hl], fun i d e => ?_⟩
  by_cases hi : i < ds.length
  · rw [List.getElem?_append_left (by simpa using hi), List.getElem?_map] at e
    have e2 : ds[i]? = some d := by
      cases q : ds[i]? with
      | none => rw [q] at e; cases e
      | some z => rw [q] at e; cases e; rfl
    obtain ⟨x, a, b⟩ := r.get e2
    exact ⟨x, by unfold L2.start; rw [List.getElem?_append_left (by simp; omega), List.getElem?_map, a]; rfl, b⟩
  · rw [List.getElem?_append_right (by simpa using hi), List.getElem?_replicate] at e
    split at e <;> cases e
end


/-! ### a heap, and the part of it in which the data lives (what else is tracked may be changed) -/
structure Wd where
  s : Hp
  h : Hp
  sub : Same s h
structure Le (W W2 : Wd) : Prop where
  hh : Same W.h W2.h
  ss : Same W.s W2.s
  new : ∀ b, W.h b ≠ none → W.s b = none → W2.s b = none ∨ ∃ xs, W.h b = some (.tup xs)
theorem Le.newL {W W2 : Wd} {b : Addr} {o : HO} (e : Le W W2) (h : W.h b = some o) (ho : ∀ xs, o ≠ .tup xs) (hs : W.s b = none) : W2.s b = none := by
  rcases e.new b (by rw [h]; exact fun z => nomatch z) hs with q | ⟨xs, q⟩
  · exact q
  · rw [h] at q; cases q; exact absurd rfl (ho xs)
theorem Le.refl (W : Wd) : Le W W := ⟨Same.refl _, Same.refl _, fun _ _ h => .inl h⟩
theorem Le.trans {W W1 W2 : Wd} (a : Le W W1) (b : Le W1 W2) : Le W W2 := ⟨a.hh.trans b.hh, a.ss.trans b.ss, fun x h1 h2 => by
  cases ho : W.h x with
  | none => exact absurd ho h1
  | some o =>
    rcases a.new x h1 h2 with q | ⟨xs, q⟩
    · rcases b.new x (by rw [a.hh x o ho]; exact fun z => nomatch z) q with r | ⟨xs, r⟩
      · exact .inl r
      · rw [a.hh x o ho] at r; cases r; exact .inr ⟨xs, rfl⟩
    · rw [ho] at q; cases q; exact .inr ⟨xs, rfl⟩⟩
def Wd.new (W : Wd) (p : Addr) (o : HO) : Wd := ⟨upd W.s p o, upd W.h p o, fun a u e => by
  by_cases q : a = p
  · subst q; rw [upd_same] at e ⊢; exact e
  · rw [upd_ne q] at e ⊢; exact W.sub a u e⟩
theorem Wd.none {W : Wd} {p : Addr} (h : W.h p = Option.none) : W.s p = Option.none := by
  cases q : W.s p with
  | none => rfl
  | some o => rw [W.sub p o q] at h; cases h
theorem Le.new1 {W : Wd} {p : Addr} {o : HO} (h : W.h p = none) : Le W (W.new p o) := ⟨Same.new h, Same.new (Wd.none h), fun b h1 h2 => by
  refine .inl ?_
  show upd W.s p o b = none
  rw [upd_ne (fun e => h1 (by rw [e]; exact h))]; exact h2⟩
theorem Rp.le {K : PySem.W.Frag} {W W2 : Wd} {d : D} {v : V} (e : Le W W2) (h : Rp K W.s d v) : Rp K W2.s d v := Rp.mono e.ss d v h
theorem RpL.le {K : PySem.W.Frag} {W W2 : Wd} {d : List D} {v : List V} (e : Le W W2) (h : RpL K W.s d v) : RpL K W2.s d v := RpL.mono e.ss d v h
theorem EnvD.le {K : PySem.W.Frag} {W W2 : Wd} {σ : L2.St} {ρ : Rho} (e : Le W W2) (h : EnvD K W.s σ ρ) : EnvD K W2.s σ ρ := h.mono e.ss
theorem Rp.h {K : PySem.W.Frag} {W : Wd} {d : D} {v : V} (h : Rp K W.s d v) : Rp K W.h d v := Rp.mono W.sub d v h
theorem Wd.seq {K : PySem.W.Frag} {W : Wd} {a : Addr} {xs : List V} (h : SqL K W.s a xs) : SqL K W.h a xs := W.sub.seq h
theorem Wd.sqT {K : PySem.W.Frag} {W : Wd} {a : Addr} {xs : List V} (h : SqT K W.s a xs) : SqT K W.h a xs := Same.sqT W.sub h
theorem Wd.at_ {W : Wd} {p : Addr} {o : HO} : (W.new p o).s p = some o := upd_same

/-! ### what is wanted, told by the state alone -/
def wE (X : Cx) (e : Expr) : TE := fun σ H Q => ∀ pins s, Inv X pins σ H s → wpAny (model X.prog X.w) X.A (eval e X.env) (EP X pins σ Q) X.xe s
def wT (X : Cx) (e : Expr) : TT := fun σ H Q => ∀ pins s, Inv X pins σ H s → wpAny (model X.prog X.w) X.A (isTrue e X.env (eval e X.env)) (TP X pins σ Q) X.xe s
def wW (X : Cx) (e : Expr) : TT := fun σ H Q => ∀ whole pins s, Inv X pins σ H s → wpAny (model X.prog X.w) X.A (isTrue e X.env whole) (TP X pins σ Q) X.xe s
def wA (X : Cx) (es : List Expr) : TA := fun σ H Q => ∀ (pos : Pos) pins s, Inv X pins σ H s → wpAny (model X.prog X.w) X.A (spliced (backTo pos (starEach es X.env))) (AP X pins σ Q) X.xe s
def wS (X : Cx) (st : Stmt) : TS := fun D σ H => ∀ pins s, Inv X pins σ H s → wpAny (model X.prog X.w) X.A (exec st X.env) (SP X pins D) X.xe s
def wB (X : Cx) (ss : List Stmt) : TS := fun D σ H => ∀ pins s, Inv X pins σ H s → wpAny (model X.prog X.w) X.A (execs ss X.env) (SP X pins D) X.xe s
def wG (X : Cx) (tg : Expr) : TG := fun x σ H Q => ∀ pins s u, Inv X pins σ H s → RelV x u → wpAny (model X.prog X.w) X.A (assign tg X.env u) (fun _ s' => ∃ σ' H', Inv X pins σ' H' s' ∧ Q σ' H') X.xe s
section
variable {X : Cx}
theorem peW (e : Expr) : PE X e (wE X e) := ⟨fun pins s σ H Q I h => h pins s I⟩
theorem ptW (e : Expr) : PT X e (wT X e) := ⟨fun pins s σ H Q I h => h pins s I⟩
theorem pwW (e : Expr) : PW X e (wW X e) := ⟨fun whole pins s σ H Q I h => h whole pins s I⟩
theorem paW (es : List Expr) : PA X es (wA X es) := ⟨fun pos pins s σ H Q I h => h pos pins s I⟩
theorem psW (st : Stmt) : PS X st (wS X st) := ⟨fun pins s σ H D I h => h pins s I⟩
theorem pbW (ss : List Stmt) : PSs X ss (wB X ss) := ⟨fun pins s σ H D I h => h pins s I⟩
end

/-- e evaluates to d where the slots stand for ρ -/
def DE (X : Cx) (e : Expr) (ρ : Rho) (d : D) : Prop := ∀ σ (W : Wd), EnvD X.K W.s σ ρ → ∀ Q : VK, (∀ v W2, Le W W2 → Rp X.K W2.s d v → Q v W2.h) → wE X e σ W.h Q
def DT (X : Cx) (e : Expr) (ρ : Rho) (b : Bool) : Prop := ∀ σ (W : Wd), EnvD X.K W.s σ ρ → ∀ Q : Bool → Hp → Prop, (∀ W2, Le W W2 → Q b W2.h) → wT X e σ W.h Q
def DW (X : Cx) (e : Expr) (ρ : Rho) (b : Bool) : Prop := ∀ σ (W : Wd), EnvD X.K W.s σ ρ → ∀ Q : Bool → Hp → Prop, (∀ W2, Le W W2 → Q b W2.h) → wW X e σ W.h Q
def DA (X : Cx) (es : List Expr) (ρ : Rho) (ds : List D) : Prop := ∀ σ (W : Wd), EnvD X.K W.s σ ρ → ∀ Q : List V → Hp → Prop, (∀ vs W2, Le W W2 → RpL X.K W2.s ds vs → Q vs W2.h) → wA X es σ W.h Q
/-- how a statement, a block ends: by a value, or with the slots so -/
inductive Out where
  | rt (d : D)
  | nx (ρ : Rho)
def Out.ok (K : PySem.W.Frag) (W : Wd) (D : Ends) : Out → Prop
  | .rt d => ∀ v W2, Le W W2 → Rp K W2.s d v → D.rt v W2.h
  | .nx ρ => ∀ σ W2, Le W W2 → EnvD K W2.s σ ρ → D.nx σ W2.h
def DS (X : Cx) (st : Stmt) (ρ : Rho) (o : Out) : Prop := ∀ σ (W : Wd), EnvD X.K W.s σ ρ → ∀ D : Ends, o.ok X.K W D → wS X st D σ W.h
def DB (X : Cx) (ss : List Stmt) (ρ : Rho) (o : Out) : Prop := ∀ σ (W : Wd), EnvD X.K W.s σ ρ → ∀ D : Ends, o.ok X.K W D → wB X ss D σ W.h
theorem Out.ok.mono {K : PySem.W.Frag} {W W' : Wd} {D : Ends} : ∀ {o : Out}, o.ok K W D → Le W W' → o.ok K W' D
  | .rt d, h, e => fun v W2 e2 r => h v W2 (e.trans e2) r
  | .nx ρ, h, e => fun σ W2 e2 r => h σ W2 (e.trans e2) r
section
variable {X : Cx} {ρ ρ' ρ'' : Rho} {e e1 e2 a b c : Expr} {es : List Expr} {d d1 d2 : D} {ds : List D} {i : Nat} {x : Str} {pos : Pos} {o : Out}
/-- from a rule of the hand layer -/
theorem DE.of {t : TE} (h : PE X e t) (r : ∀ σ (W : Wd), EnvD X.K W.s σ ρ → ∀ Q : VK, (∀ v W2, Le W W2 → Rp X.K W2.s d v → Q v W2.h) → t σ W.h Q) : DE X e ρ d := fun σ W E Q q pins s I => h.run pins s σ W.h Q I (r σ W E Q q)
theorem DT.of {t : TT} {b : Bool} (h : PT X e t) (r : ∀ σ (W : Wd), EnvD X.K W.s σ ρ → ∀ Q : Bool → Hp → Prop, (∀ W2, Le W W2 → Q b W2.h) → t σ W.h Q) : DT X e ρ b := fun σ W E Q q pins s I => h.run pins s σ W.h Q I (r σ W E Q q)
theorem DW.of {t : TT} {b : Bool} (h : PW X e t) (r : ∀ σ (W : Wd), EnvD X.K W.s σ ρ → ∀ Q : Bool → Hp → Prop, (∀ W2, Le W W2 → Q b W2.h) → t σ W.h Q) : DW X e ρ b := fun σ W E Q q whole pins s I => h.run whole pins s σ W.h Q I (r σ W E Q q)
theorem DA.of {t : TA} (h : PA X es t) (r : ∀ σ (W : Wd), EnvD X.K W.s σ ρ → ∀ Q : List V → Hp → Prop, (∀ vs W2, Le W W2 → RpL X.K W2.s ds vs → Q vs W2.h) → t σ W.h Q) : DA X es ρ ds := fun σ W E Q q pos pins s I => h.run pos pins s σ W.h Q I (r σ W E Q q)
theorem DS.of {st : Stmt} {t : TS} (h : PS X st t) (r : ∀ σ (W : Wd), EnvD X.K W.s σ ρ → ∀ D : Ends, o.ok X.K W D → t D σ W.h) : DS X st ρ o := fun σ W E D q pins s I => h.run pins s σ W.h D I (r σ W E D q)
theorem DB.of {ss : List Stmt} {t : TS} (h : PSs X ss t) (r : ∀ σ (W : Wd), EnvD X.K W.s σ ρ → ∀ D : Ends, o.ok X.K W D → t D σ W.h) : DB X ss ρ o := fun σ W E D q pins s I => h.run pins s σ W.h D I (r σ W E D q)
theorem DE.is (h : DE X e ρ d1) (q : d1 = d2) : DE X e ρ d2 := q ▸ h
theorem DT.is {b1 b2 : Bool} (h : DT X e ρ b1) (q : b1 = b2) : DT X e ρ b2 := q ▸ h
theorem DB.is {ss : List Stmt} {o1 o2 : Out} (h : DB X ss ρ o1) (q : o1 = o2) : DB X ss ρ o2 := q ▸ h

/-! ### expressions -/
theorem dv (i : Nat) {x : Str} {pos : Pos} (hρ : ρ[i]? = some (some d)) (hN : X.N[i]? = some x := by rfl) (hv : Vis X.env.scope x := by first | exact Or.inl rfl | exact Or.inr (Or.inl rfl) | exact Or.inr (Or.inr rfl))
    (hd : (x == ("__debug__" : Str)) = false := by decide) (hcd : (x == ("__classdict__" : Str)) = false := by decide) : DE X (.Name x pos) ρ d :=
  .of (pe_var hN hv hd hcd) fun σ W E Q q => let ⟨v, a, r⟩ := E.at_ i d hρ; ⟨v, a, q v W (Le.refl W) r⟩
theorem dint {j : Int} {k pos} : DE X (.Constant (.int j) k pos) ρ (.int j) := .of pe_int fun σ W E Q q => q _ W (Le.refl W) rfl
theorem dbl {b : Bool} {k pos} : DE X (.Constant (.bool b) k pos) ρ (.bl b) := .of pe_bl fun σ W E Q q => q _ W (Le.refl W) rfl
theorem dnon {k pos} : DE X (.Constant .none k pos) ρ .non := .of pe_non fun σ W E Q q => q _ W (Le.refl W) rfl
theorem dstr {z : Str} {k pos} : DE X (.Constant (.str z) k pos) ρ (.str z) := .of pe_str fun σ W E Q q => q _ W (Le.refl W) rfl
theorem danil : DA X [] ρ [] := .of pa_nil fun σ W E Q q => q [] W (Le.refl W) rfl
theorem dacons (ha : DE X e ρ d) (hr : DA X es ρ ds) (hs : starEach (e :: es) X.env = (false, eval e X.env) :: starEach es X.env := by rfl) : DA X (e :: es) ρ (d :: ds) :=
  .of (pa_cons (peW e) (paW es) hs) fun σ W E Q q => ha σ W E _ fun v W1 e1 r1 => hr σ W1 (E.le e1) _ fun vs W2 e2 r2 => q (v :: vs) W2 (e1.trans e2) ⟨v, vs, rfl, Rp.le e2 r1, r2⟩
theorem sz_le {n : Nat} (h : n ≤ 1000) : n ≤ sizeLine := Nat.le_of_lt (small1000 h)
theorem dtup {k} (h : DA X es ρ ds) (hl : ds.length ≤ 1000 := by first | decide | (simp; done)) : DE X (.Tuple es k pos) ρ (.tup ds) :=
  .of (pe_tup (paW es)) fun σ W E Q q => h σ W E _ fun vs W1 e1 r1 => ⟨by rw [r1.length]; exact sz_le hl, fun p hp => q _ _ (e1.trans (Le.new1 hp)) ⟨p, vs, rfl, SqT_of upd_same, RpL.le (Le.new1 hp) r1⟩⟩
where SqT_of {K : PySem.W.Frag} {H : Hp} {a : Addr} {xs : List V} (h : H a = some (.tup xs)) : SqT K H a xs := .inl (.inl h)
theorem dlst (h : DA X es ρ ds) (hl : ds.length ≤ 1000 := by first | decide | (simp; done)) : DE X (.List es pos) ρ (.lst ds) :=
  .of (pe_lst (paW es)) fun σ W E Q q => h σ W E _ fun vs W1 e1 r1 => ⟨by rw [r1.length]; exact sz_le hl, fun p hp => q _ _ (e1.trans (Le.new1 hp)) ⟨p, vs, rfl, .inl (.inl upd_same), RpL.le (Le.new1 hp) r1⟩⟩
/-- two operands -/
theorem DE.bin {op : Operator} {r : R2} (ho : OpR X (binaryOp op) r) (ha : DE X a ρ d1) (hb : DE X b ρ d2) (hr : ∀ x y (W : Wd), Rp X.K W.s d1 x → Rp X.K W.s d2 y → ∀ Q : VK, (∀ v W2, Le W W2 → Rp X.K W2.s d v → Q v W2.h) → r x y W.h Q) : DE X (.BinOp a op b pos) ρ d :=
  .of (pe_op ho (peW a) (peW b)) fun σ W E Q q => ha σ W E _ fun v W1 e1 r1 => hb σ W1 (E.le e1) _ fun w W2 e2 r2 => hr v w W2 (Rp.le e2 r1) r2 Q fun z W3 e3 r3 => q z W3 ((e1.trans e2).trans e3) r3
theorem rp_int {K : PySem.W.Frag} {H : Hp} {i : Int} {v : V} (h : Rp K H (.int i) v) : v = .int i := h
section
variable {i j : Int}
theorem dadd (ha : DE X a ρ (.int i)) (hb : DE X b ρ (.int j)) : DE X (.BinOp a .Add b pos) ρ (.int (i + j)) := .bin op_add ha hb fun x y W hx hy Q q => ⟨i, j, hx, hy, q _ W (Le.refl W) rfl⟩
theorem dsub (ha : DE X a ρ (.int i)) (hb : DE X b ρ (.int j)) : DE X (.BinOp a .Sub b pos) ρ (.int (i - j)) := .bin op_sub ha hb fun x y W hx hy Q q => ⟨i, j, hx, hy, q _ W (Le.refl W) rfl⟩
theorem dmul (ha : DE X a ρ (.int i)) (hb : DE X b ρ (.int j)) (hc : CMulW i j) : DE X (.BinOp a .Mult b pos) ρ (.int (i * j)) := .bin op_mulW ha hb fun x y W hx hy Q q => ⟨i, j, hx, hy, hc, q _ W (Le.refl W) rfl⟩
theorem dmod (ha : DE X a ρ (.int i)) (hb : DE X b ρ (.int j)) (hc : j ≠ 0) : DE X (.BinOp a .Mod b pos) ρ (.int (i.fmod j)) := .bin op_modN ha hb fun x y W hx hy Q q => ⟨i, j, hx, hy, hc, q _ W (Le.refl W) rfl⟩
theorem dpow (ha : DE X a ρ (.int i)) (hb : DE X b ρ (.int j)) (hc : CPow i j) : DE X (.BinOp a .Pow b pos) ρ (.int (i ^ j.toNat)) := .bin op_pow ha hb fun x y W hx hy Q q => ⟨i, j, hx, hy, hc, q _ W (Le.refl W) rfl⟩
/-- a // b: no detour by long division -/
def CDivG (i j : Int) : Prop := j ≠ 0 ∧ Builtin.divisionGoesByPylong i j = false
theorem op_fdivG : OpR X (binaryOp .FloorDiv) (rI CDivG fun i j => .int (i.fdiv j)) := opI fun i j _ _ _ _ _ hc q => floordiv_int hc.1 q (.inl hc.2)
theorem dfdiv (ha : DE X a ρ (.int i)) (hb : DE X b ρ (.int j)) (hc : CDivG i j) : DE X (.BinOp a .FloorDiv b pos) ρ (.int (i.fdiv j)) := .bin op_fdivG ha hb fun x y W hx hy Q q => ⟨i, j, hx, hy, hc, q _ W (Le.refl W) rfl⟩
theorem dneg (ha : DE X a ρ (.int i)) : DE X (.UnaryOp .USub a pos) ρ (.int (-i)) := .of (pe_un un_neg (peW a)) fun σ W E Q q => ha σ W E _ fun v W1 e1 r1 => ⟨i, r1, q _ W1 e1 rfl⟩
end
/-- a comparison as a value, as a test -/
theorem DE.cmp {op : CmpOp} {r : R2} {z : Bool} (ho : OpR X (compareOp op) r) (ha : DE X a ρ d1) (hb : DE X b ρ d2) (hm : behindInMarks op b = false) (hr : ∀ x y (W : Wd), Rp X.K W.s d1 x → Rp X.K W.s d2 y → ∀ Q : VK, Q (.bl z) W.h → r x y W.h Q) : DE X (.Compare a [op] [b] pos) ρ (.bl z) :=
  .of (pe_cmpR ho (peW a) (peW b) hm) fun σ W E Q q => ha σ W E _ fun v W1 e1 r1 => hb σ W1 (E.le e1) _ fun w W2 e2 r2 => hr v w W2 (Rp.le e2 r1) r2 Q (q _ W2 (e1.trans e2) rfl)
theorem DT.cmp {op : CmpOp} {r : R2} {z : Bool} (ho : OpR X (compareOp op) r) (ha : DE X a ρ d1) (hb : DE X b ρ d2) (hm : behindInMarks op b = false) (hr : ∀ x y (W : Wd), Rp X.K W.s d1 x → Rp X.K W.s d2 y → ∀ Q : VK, Q (.bl z) W.h → r x y W.h Q) : DT X (.Compare a [op] [b] pos) ρ z :=
  .of (pt_cmpR ho (peW a) (peW b) hm) fun σ W E Q q => ha σ W E _ fun v W1 e1 r1 => hb σ W1 (E.le e1) _ fun w W2 e2 r2 => hr v w W2 (Rp.le e2 r1) r2 _ ⟨z, rfl, q W2 (e1.trans e2)⟩
/-- a relation of two operands by values, its answer -/
structure CmpD (X : Cx) (op : CmpOp) (d1 d2 : D) (z : Bool) : Prop where
  ex : ∃ r : R2, OpR X (compareOp op) r ∧ ∀ (x y : V) (W : Wd), Rp X.K W.s d1 x → Rp X.K W.s d2 y → ∀ Q : VK, Q (.bl z) W.h → r x y W.h Q
theorem de_cmp {op : CmpOp} {z : Bool} (hc : CmpD X op d1 d2 z) (ha : DE X a ρ d1) (hb : DE X b ρ d2) (hm : behindInMarks op b = false := by exact nomark _) : DE X (.Compare a [op] [b] pos) ρ (.bl z) := let ⟨_, ho, hr⟩ := hc.ex; .cmp ho ha hb hm hr
theorem dt_cmp {op : CmpOp} {z : Bool} (hc : CmpD X op d1 d2 z) (ha : DE X a ρ d1) (hb : DE X b ρ d2) (hm : behindInMarks op b = false := by exact nomark _) : DT X (.Compare a [op] [b] pos) ρ z := let ⟨_, ho, hr⟩ := hc.ex; .cmp ho ha hb hm hr
section
variable {i j : Int}
theorem clt : CmpD X .Lt (.int i) (.int j) (decide (i < j)) := ⟨_, op_lt, fun x y W hx hy Q q => ⟨i, j, hx, hy, q⟩⟩
theorem cle : CmpD X .LtE (.int i) (.int j) (decide (i ≤ j)) := ⟨_, op_le, fun x y W hx hy Q q => ⟨i, j, hx, hy, q⟩⟩
theorem cgt : CmpD X .Gt (.int i) (.int j) (decide (j < i)) := ⟨_, op_gt, fun x y W hx hy Q q => ⟨i, j, hx, hy, q⟩⟩
theorem cge : CmpD X .GtE (.int i) (.int j) (decide (j ≤ i)) := ⟨_, op_ge, fun x y W hx hy Q q => ⟨i, j, hx, hy, q⟩⟩
end
def D.isNon : D → Bool
  | .non => true
  | _ => false
theorem Rp.non_iff {K : PySem.W.Frag} {H : Hp} {d : D} {v : V} (h : Rp K H d v) : decide (v = .non) = d.isNon := by
  cases d with
  | non => cases h; rfl
  | bl => cases h; rfl
  | int => cases h; rfl
  | str => cases h; rfl
  | fn => cases h; rfl
  | lst => obtain ⟨a, xs, rfl, _⟩ := h; rfl
  | tup => obtain ⟨a, xs, rfl, _⟩ := h; rfl
  | obj => obtain ⟨a, dx, xs, rfl, _⟩ := h; rfl
  | tpx => obtain ⟨a, xs, rfl, _⟩ := h; rfl
  | dK => obtain ⟨a, xs, rfl, _⟩ := h; rfl
  | dT => obtain ⟨a, xs, rfl, _⟩ := h; rfl
  | opq a os => obtain ⟨rfl, _⟩ := h; rfl
theorem cisN : CmpD X .Is d .non d.isNon := ⟨_, op_isN, fun x y W hx hy Q q => ⟨hy, by rw [Rp.non_iff hx]; exact q⟩⟩
theorem cnotN : CmpD X .IsNot d .non (!d.isNon) := ⟨_, op_notN, fun x y W hx hy Q q => ⟨hy, by rw [Rp.non_iff hx]; exact q⟩⟩

/-! ### and, or, not, if -/
theorem dt_val {z : Bool} (h : DE X e ρ (.bl z)) (he : ∀ whole, isTrue e X.env whole = (do let v ← whole; standAt e.pos; holding [v] (truthy v)) := by intro _; rfl) : DT X e ρ z :=
  .of (pt_val (peW e) he) fun σ W E Q q => h σ W E _ fun v W1 e1 r1 => ⟨z, r1, q W1 e1⟩
theorem dw_val {z : Bool} (h : DW X e ρ z) : DT X e ρ z := fun σ W E Q q pins s I => h σ W E Q q _ pins s I
theorem dw_and1 {z : Bool} (h : DT X a ρ z) : DW X (.BoolOp .And [a] pos) ρ z := .of (pw_and1 (ptW a)) fun σ W E Q q => h σ W E Q q
theorem dw_or1 {z : Bool} (h : DT X a ρ z) : DW X (.BoolOp .Or [a] pos) ρ z := .of (pw_or1 (ptW a)) fun σ W E Q q => h σ W E Q q
theorem dw_and {y z : Bool} (ha : DT X a ρ y) (hb : y = true → DW X (.BoolOp .And (b :: es) pos) ρ z) : DW X (.BoolOp .And (a :: b :: es) pos) ρ (y && z) :=
  .of (pw_and (ptW a) (pwW _)) fun σ W E Q q => ha σ W E _ fun W1 e1 => by
    cases y with
    | true => exact iteT (hb rfl σ W1 (E.le e1) Q fun W2 e2 => q W2 (e1.trans e2))
    | false => exact iteF (q W1 e1)
theorem dw_or {y z : Bool} (ha : DT X a ρ y) (hb : y = false → DW X (.BoolOp .Or (b :: es) pos) ρ z) : DW X (.BoolOp .Or (a :: b :: es) pos) ρ (y || z) :=
  .of (pw_or (ptW a) (pwW _)) fun σ W E Q q => ha σ W E _ fun W1 e1 => by
    cases y with
    | true => exact iteT (q W1 e1)
    | false => exact iteF (hb rfl σ W1 (E.le e1) Q fun W2 e2 => q W2 (e1.trans e2))
theorem dt_not {z : Bool} (h : DT X a ρ z) : DT X (.UnaryOp .Not a pos) ρ (!z) := .of (pt_not (ptW a)) fun σ W E Q q => h σ W E _ q
theorem de_one {op} (h : DE X a ρ d) : DE X (.BoolOp op [a] pos) ρ d := .of (pe_one (peW a)) fun σ W E Q q => h σ W E Q q
theorem de_and {y z : Bool} (ha : DE X a ρ (.bl y)) (hb : y = true → DE X (.BoolOp .And (b :: es) pos) ρ (.bl z)) : DE X (.BoolOp .And (a :: b :: es) pos) ρ (.bl (y && z)) :=
  .of (pe_and (peW a) (peW _)) fun σ W E Q q => ha σ W E _ fun v W1 e1 r1 => ⟨y, r1, by
    cases y with
    | true => exact iteT (hb rfl σ W1 (E.le e1) Q fun v2 W2 e2 r2 => q v2 W2 (e1.trans e2) r2)
    | false => exact iteF (q _ W1 e1 rfl)⟩
theorem de_or {y z : Bool} (ha : DE X a ρ (.bl y)) (hb : y = false → DE X (.BoolOp .Or (b :: es) pos) ρ (.bl z)) : DE X (.BoolOp .Or (a :: b :: es) pos) ρ (.bl (y || z)) :=
  .of (pe_or (peW a) (peW _)) fun σ W E Q q => ha σ W E _ fun v W1 e1 r1 => ⟨y, r1, by
    cases y with
    | true => exact iteT (q _ W1 e1 rfl)
    | false => exact iteF (hb rfl σ W1 (E.le e1) Q fun v2 W2 e2 r2 => q v2 W2 (e1.trans e2) r2)⟩
theorem de_not {z : Bool} (h : DE X a ρ (.bl z)) : DE X (.UnaryOp .Not a pos) ρ (.bl (!z)) := .of (pe_not (peW a)) fun σ W E Q q => h σ W E _ fun v W1 e1 r1 => ⟨z, r1, q _ W1 e1 rfl⟩
theorem de_if {z : Bool} (hc : DT X c ρ z) (ha : z = true → DE X a ρ d) (hb : z = false → DE X b ρ d) : DE X (.IfExp c a b pos) ρ d :=
  .of (pe_ifExp (ptW c) (peW a) (peW b)) fun σ W E Q q => hc σ W E _ fun W1 e1 => by
    cases z with
    | true => exact iteT (ha rfl σ W1 (E.le e1) Q fun v W2 e2 r => q v W2 (e1.trans e2) r)
    | false => exact iteF (hb rfl σ W1 (E.le e1) Q fun v W2 e2 r => q v W2 (e1.trans e2) r)
theorem de_ifB {z : Bool} (hc : DT X c ρ z) (ha : z = true → DE X a ρ d1) (hb : z = false → DE X b ρ d2) : DE X (.IfExp c a b pos) ρ (bif z then d1 else d2) := by
  refine de_if hc (fun h => ?_) fun h => ?_
  · rw [h]; exact ha h
  · rw [h]; exact hb h
end
end K31
end
section
set_option maxHeartbeats 2000000
set_option autoImplicit false
/-! The forward layer, on: ==, subscripts, slices, calls, built-ins, comprehensions, statements, defs. -/
namespace K31
open PySem PySem.Spec PyProof.Rows L2

/-! ### data without objects, functions and bools, of small depth: == is equality -/
mutual
def Good : D → Nat → Prop
  | .non, _ => True
  | .int _, _ => True
  | .str x, _ => PyData.strOk x = true
  | .lst ds, n + 1 => GoodL ds n
  | .tup ds, n + 1 => GoodL ds n
  | _, _ => False
def GoodL : List D → Nat → Prop
  | [], _ => True
  | d :: ds, n => Good d n ∧ GoodL ds n
end
mutual
def toPy : D → PyData
  | .non => .none
  | .bl b => .bool b
  | .int i => .int i
  | .str x => .str x
  | .lst ds => .list (toPyL ds)
  | .tup ds => .tuple (toPyL ds)
  | .obj _ _ _ => .none
  | .fn _ => .none
  | .tpx _ => .none
  | .dK _ _ => .none
  | .dT _ _ => .none
  | .opq _ _ => .none
def toPyL : List D → List PyData
  | [] => []
  | d :: ds => toPy d :: toPyL ds
end
mutual
theorem Good.up : ∀ (d : D) (n m : Nat), n ≤ m → Good d n → Good d m
  | .non, _, _, _, _ => trivial
  | .int _, _, _, _, _ => trivial
  | .str x, _, _, _, h => h
  | .lst ds, 0, _, _, h => by simp [Good] at h
  | .tup ds, 0, _, _, h => by simp [Good] at h
  | .lst ds, n + 1, 0, hl, h => by omega
  | .tup ds, n + 1, 0, hl, h => by omega
  | .lst ds, n + 1, m + 1, hl, h => GoodL.up ds n m (by omega) h
  | .tup ds, n + 1, m + 1, hl, h => GoodL.up ds n m (by omega) h
  | .bl _, _, _, _, h => by simp [Good] at h
  | .obj _ _ _, _, _, _, h => by simp [Good] at h
  | .fn _, _, _, _, h => by simp [Good] at h
  | .tpx _, _, _, _, h => by simp [Good] at h
  | .dK _ _, _, _, _, h => by simp [Good] at h
  | .dT _ _, _, _, _, h => by simp [Good] at h
  | .opq _ _, _, _, _, h => by simp [Good] at h
theorem GoodL.up : ∀ (ds : List D) (n m : Nat), n ≤ m → GoodL ds n → GoodL ds m
  | [], _, _, _, _ => trivial
  | d :: ds, n, m, hl, h => ⟨Good.up d n m hl h.1, GoodL.up ds n m hl h.2⟩
end
theorem GoodL.mem {n : Nat} : ∀ {ds : List D} {d : D}, GoodL ds n → d ∈ ds → Good d n
  | [], _, _, h => by cases h
  | e :: ds, d, h, hm => by
    rcases List.mem_cons.mp hm with q | q
    · exact q ▸ h.1
    · exact GoodL.mem h.2 q
theorem GoodL.of {n : Nat} : ∀ {ds : List D}, (∀ d ∈ ds, Good d n) → GoodL ds n
  | [], _ => trivial
  | d :: ds, h => ⟨h d (List.mem_cons_self ..), GoodL.of fun e he => h e (List.mem_cons_of_mem _ he)⟩
mutual
theorem Good.lay : ∀ (d : D) (n : Nat), Good d n → (toPy d).canLay0 = true ∧ (toPy d).depth ≤ n
  | .non, _, _ => by simp [toPy, PyData.canLay0, PyData.depth]
  | .int _, _, _ => by simp [toPy, PyData.canLay0, PyData.depth]
  | .str x, _, h => by simp only [Good] at h; simp [toPy, PyData.canLay0, PyData.depth, h]
  | .lst ds, 0, h => by simp [Good] at h
  | .tup ds, 0, h => by simp [Good] at h
  | .lst ds, n + 1, h => by
    obtain ⟨h1, h2⟩ := GoodL.lay ds n h
    simp only [toPy, PyData.canLay0, PyData.depth, h1, true_and]
    omega
  | .tup ds, n + 1, h => by
    obtain ⟨h1, h2⟩ := GoodL.lay ds n h
    simp only [toPy, PyData.canLay0, PyData.depth, h1, true_and]
    omega
  | .bl _, _, h => by simp [Good] at h
  | .obj _ _ _, _, h => by simp [Good] at h
  | .fn _, _, h => by simp [Good] at h
  | .tpx _, _, h => by simp [Good] at h
  | .dK _ _, _, h => by simp [Good] at h
  | .dT _ _, _, h => by simp [Good] at h
  | .opq _ _, _, h => by simp [Good] at h
theorem GoodL.lay : ∀ (ds : List D) (n : Nat), GoodL ds n → PyData.canLayAll0 (toPyL ds) = true ∧ PyData.depthAll (toPyL ds) ≤ n
  | [], _, _ => by simp [toPyL, PyData.canLayAll0, PyData.depthAll]
  | d :: ds, n, h => by
    obtain ⟨h1, h2⟩ := Good.lay d n h.1
    obtain ⟨h3, h4⟩ := GoodL.lay ds n h.2
    simp only [toPyL, PyData.canLayAll0, PyData.depthAll, h1, h3, Bool.and_self, true_and]
    omega
end
mutual
theorem Good.eqv : ∀ (d e : D) (n m : Nat), Good d n → Good e m → (PyData.eqv (toPy d) (toPy e) = true ↔ d = e)
  | .non, .non, _, _, _, _ => by simp [toPy, PyData.eqv]
  | .non, .int _, _, _, _, _ => by simp [toPy, PyData.eqv]
  | .non, .str _, _, _, _, _ => by simp [toPy, PyData.eqv]
  | .non, .lst _, _, _, _, _ => by simp [toPy, PyData.eqv]
  | .non, .tup _, _, _, _, _ => by simp [toPy, PyData.eqv]
  | .int _, .non, _, _, _, _ => by simp [toPy, PyData.eqv]
  | .int i, .int j, _, _, _, _ => by simp [toPy, PyData.eqv]
  | .int _, .str _, _, _, _, _ => by simp [toPy, PyData.eqv]
  | .int _, .lst _, _, _, _, _ => by simp [toPy, PyData.eqv]
  | .int _, .tup _, _, _, _, _ => by simp [toPy, PyData.eqv]
  | .str _, .non, _, _, _, _ => by simp [toPy, PyData.eqv]
  | .str _, .int _, _, _, _, _ => by simp [toPy, PyData.eqv]
  | .str x, .str y, _, _, _, _ => by simp [toPy, PyData.eqv]
  | .str _, .lst _, _, _, _, _ => by simp [toPy, PyData.eqv]
  | .str _, .tup _, _, _, _, _ => by simp [toPy, PyData.eqv]
  | .lst _, .non, _, _, _, _ => by simp [toPy, PyData.eqv]
  | .lst _, .int _, _, _, _, _ => by simp [toPy, PyData.eqv]
  | .lst _, .str _, _, _, _, _ => by simp [toPy, PyData.eqv]
  | .lst _, .tup _, _, _, _, _ => by simp [toPy, PyData.eqv]
  | .tup _, .non, _, _, _, _ => by simp [toPy, PyData.eqv]
  | .tup _, .int _, _, _, _, _ => by simp [toPy, PyData.eqv]
  | .tup _, .str _, _, _, _, _ => by simp [toPy, PyData.eqv]
  | .tup _, .lst _, _, _, _, _ => by simp [toPy, PyData.eqv]
  | .lst ds, .lst es, n + 1, m + 1, h, h' => by simpa [toPy, PyData.eqv] using GoodL.eqv ds es n m h h'
  | .tup ds, .tup es, n + 1, m + 1, h, h' => by simpa [toPy, PyData.eqv] using GoodL.eqv ds es n m h h'
  | .lst _, .lst _, 0, _, h, _ => by simp [Good] at h
  | .tup _, .tup _, 0, _, h, _ => by simp [Good] at h
  | .lst _, .lst _, _ + 1, 0, _, h => by simp [Good] at h
  | .tup _, .tup _, _ + 1, 0, _, h => by simp [Good] at h
  | .bl _, _, _, _, h, _ => by simp [Good] at h
  | .obj _ _ _, _, _, _, h, _ => by simp [Good] at h
  | .fn _, _, _, _, h, _ => by simp [Good] at h
  | .tpx _, _, _, _, h, _ => by simp [Good] at h
  | .dK _ _, _, _, _, h, _ => by simp [Good] at h
  | .dT _ _, _, _, _, h, _ => by simp [Good] at h
  | .opq _ _, _, _, _, h, _ => by simp [Good] at h
  | _, .bl _, _, _, _, h => by simp [Good] at h
  | _, .obj _ _ _, _, _, _, h => by simp [Good] at h
  | _, .fn _, _, _, _, h => by simp [Good] at h
  | _, .tpx _, _, _, _, h => by simp [Good] at h
  | _, .dK _ _, _, _, _, h => by simp [Good] at h
  | _, .dT _ _, _, _, _, h => by simp [Good] at h
  | _, .opq _ _, _, _, _, h => by simp [Good] at h
theorem GoodL.eqv : ∀ (ds es : List D) (n m : Nat), GoodL ds n → GoodL es m → (PyData.eqvAll (toPyL ds) (toPyL es) = true ↔ ds = es)
  | [], [], _, _, _, _ => by simp [toPyL, PyData.eqvAll]
  | [], _ :: _, _, _, _, _ => by simp [toPyL, PyData.eqvAll]
  | _ :: _, [], _, _, _, _ => by simp [toPyL, PyData.eqvAll]
  | d :: ds, e :: es, n, m, h, h' => by
    have h1 := Good.eqv d e n m h.1 h'.1
    have h2 := GoodL.eqv ds es n m h.2 h'.2
    simp only [toPyL, PyData.eqvAll, Bool.and_eq_true, h1, h2, List.cons.injEq]
end
mutual
theorem Rp.dp {K : PySem.W.Frag} {H : Hp} : ∀ (d : D) (n : Nat) (v : V), Good d n → Rp K H d v → Dp K H v (toPy d)
  | .non, _, _, _, h => by cases h; exact .non
  | .int i, _, _, _, h => by cases h; exact .int i
  | .str x, _, _, _, h => by cases h; exact .str x
  | .lst ds, 0, _, g, _ => by simp [Good] at g
  | .tup ds, 0, _, g, _ => by simp [Good] at g
  | .lst ds, n + 1, v, g, h => by
    obtain ⟨a, xs, rfl, h2, h3⟩ := h
    exact .lst h2 (RpL.dp ds n xs g h3)
  | .tup ds, n + 1, v, g, h => by
    obtain ⟨a, xs, rfl, h2, h3⟩ := h
    exact .tup h2 (RpL.dp ds n xs g h3)
  | .bl _, _, _, g, _ => by simp [Good] at g
  | .obj _ _ _, _, _, g, _ => by simp [Good] at g
  | .fn _, _, _, g, _ => by simp [Good] at g
  | .tpx _, _, _, g, _ => by simp [Good] at g
  | .dK _ _, _, _, g, _ => by simp [Good] at g
  | .dT _ _, _, _, g, _ => by simp [Good] at g
  | .opq _ _, _, _, g, _ => by simp [Good] at g
theorem RpL.dp {K : PySem.W.Frag} {H : Hp} : ∀ (ds : List D) (n : Nat) (vs : List V), GoodL ds n → RpL K H ds vs → DpAll K H vs (toPyL ds)
  | [], _, _, _, h => by cases h; exact .nil
  | d :: ds, n, vs, g, h => by
    obtain ⟨x, ys, rfl, h2, h3⟩ := h
    exact .cons (Rp.dp d n x g.1 h2) (RpL.dp ds n ys g.2 h3)
end
theorem Good.shaped {d : D} {n : Nat} (h : Good d n) (hn : n ≤ 64) : SeqAt.shaped (toPy d) = true := by
  obtain ⟨h1, h2⟩ := Good.lay d n h
  unfold SeqAt.shaped
  rw [h1, Bool.true_and]
  exact decide_eq_true (by omega)
section
variable {X : Cx} {ρ ρ' ρ'' : Rho} {e e1 e2 a b c : Expr} {es : List Expr} {d d1 d2 : D} {ds : List D} {x : Str} {pos : Pos} {o : Out}
theorem ceq {z : Bool} (hu : X.A.units + 64 < cLine) (g1 : Good d1 9) (g2 : Good d2 9) (hz : z = true ↔ d1 = d2) : CmpD X .Eq d1 d2 z := ⟨_, op_eqD hu, fun x y W hx hy Q q => ⟨_, _, Rp.dp d1 9 x g1 (Rp.h hx), Rp.dp d2 9 y g2 (Rp.h hy), g1.shaped (by decide), g2.shaped (by decide), by
  have e : PyData.eqv (toPy d1) (toPy d2) = z := Bool.eq_iff_iff.mpr ((Good.eqv d1 d2 9 9 g1 g2).trans hz.symm)
  rw [e]; exact q⟩⟩
theorem cne {z : Bool} (hu : X.A.units + 64 < cLine) (g1 : Good d1 9) (g2 : Good d2 9) (hz : z = true ↔ d1 = d2) : CmpD X .NotEq d1 d2 (!z) := ⟨_, op_neD hu, fun x y W hx hy Q q => ⟨_, _, Rp.dp d1 9 x g1 (Rp.h hx), Rp.dp d2 9 y g2 (Rp.h hy), g1.shaped (by decide), g2.shaped (by decide), by
  have e : PyData.eqv (toPy d1) (toPy d2) = z := Bool.eq_iff_iff.mpr ((Good.eqv d1 d2 9 9 g1 g2).trans hz.symm)
  rw [e]; exact q⟩⟩
/-- ints -/
theorem ceqI {i j : Int} : CmpD X .Eq (.int i) (.int j) (decide (i = j)) := ⟨_, op_eq, fun x y W hx hy Q q => by cases hx; cases hy; exact ⟨rfl, by
  have e : decide (V.int i = V.int j) = decide (i = j) := decide_eq_decide.mpr ⟨fun h => V.int.inj h, fun h => h ▸ rfl⟩
  rw [e]; exact q⟩⟩
theorem cneI {i j : Int} : CmpD X .NotEq (.int i) (.int j) (!decide (i = j)) := ⟨_, op_ne, fun x y W hx hy Q q => by cases hx; cases hy; exact ⟨rfl, by
  have e : decide (V.int i = V.int j) = decide (i = j) := decide_eq_decide.mpr ⟨fun h => V.int.inj h, fun h => h ▸ rfl⟩
  rw [e]; exact q⟩⟩

/-! ### subscripts, slices -/
theorem atI_rp {K : PySem.W.Frag} {H : Hp} {ds : List D} {xs : List V} {i : Int} {d : D} (r : RpL K H ds xs) (h : atI ds i = some d) : ∃ v, atI xs i = some v ∧ Rp K H d v := by
  unfold atI at h ⊢
  rw [r.length]
  cases e : ixN ds.length i with
  | none => rw [e] at h; cases h
  | some j =>
    rw [e] at h
    exact r.get h
theorem dixT {i : Int} (ha : DE X a ρ (.tup ds)) (hb : DE X b ρ (.int i)) (h : atI ds i = some d) (hp : PlainIx b := by exact fun _ _ => rfl) : DE X (.Subscript a b pos) ρ d :=
  .of (pe_ix ix_tup (peW a) (peW b) hp) fun σ W E Q q => ha σ W E _ fun v W1 e1 r1 => hb σ W1 (E.le e1) _ fun w W2 e2 r2 => by
    obtain ⟨p, xs, rfl, h2, h3⟩ := Rp.le e2 r1
    obtain ⟨z, hz, rz⟩ := atI_rp h3 h
    exact ⟨p, xs, i, z, rfl, r2, Wd.sqT h2, hz, q z W2 (e1.trans e2) rz⟩
theorem dixL {i : Int} (ha : DE X a ρ (.lst ds)) (hb : DE X b ρ (.int i)) (h : atI ds i = some d) (hp : PlainIx b := by exact fun _ _ => rfl) : DE X (.Subscript a b pos) ρ d :=
  .of (pe_ix ix_list (peW a) (peW b) hp) fun σ W E Q q => ha σ W E _ fun v W1 e1 r1 => hb σ W1 (E.le e1) _ fun w W2 e2 r2 => by
    obtain ⟨p, xs, rfl, h2, h3⟩ := Rp.le e2 r1
    obtain ⟨z, hz, rz⟩ := atI_rp h3 h
    exact ⟨p, xs, i, z, rfl, r2, Wd.seq h2, hz, q z W2 (e1.trans e2) rz⟩
/-- a slice's part: left out, a written int -/
inductive Part (X : Cx) (ρ : Rho) : Option Expr → Option Int → Prop where
  | no : Part X ρ none none
  | int {e : Expr} {i : Int} (h : DE X e ρ (.int i)) : Part X ρ (some e) (some i)
def cutD (ds : List D) (lo hi : Option Int) : List D := (ds.drop (HT.sIx ds.length 0 lo)).take (HT.sIx ds.length ds.length hi - HT.sIx ds.length 0 lo)
theorem cut_rp {K : PySem.W.Frag} {H : Hp} {xs : List V} (r : RpL K H ds xs) (lo hi : Option Int) : RpL K H (cutD ds lo hi) (cutV xs lo hi) := by
  unfold cutD cutV
  rw [r.length]
  exact (r.drop _).take _
theorem Part.po {lo : Option Expr} {i : Option Int} (h : Part X ρ lo i) : ∃ t, PO X lo t ∧ ∀ σ (W : Wd), EnvD X.K W.s σ ρ → ∀ Q : Option Int → Hp → Prop, (∀ W2, Le W W2 → Q i W2.h) → t σ W.h Q := by
  cases h with
  | no => exact ⟨_, po_none, fun σ W E Q q => q W (Le.refl W)⟩
  | int h => exact ⟨_, po_some (peW _), fun σ W E Q q => h σ W E _ fun v W1 e1 r1 => ⟨_, r1, q W1 e1⟩⟩
theorem dslT {lo hi : Option Expr} {i j : Option Int} {p2 : Pos} (ha : DE X a ρ (.tup ds)) (hl : Part X ρ lo i) (hh : Part X ρ hi j) (hw : ¬ (HT.sIx ds.length 0 i = 0 ∧ HT.sIx ds.length ds.length j = ds.length)) : DE X (.Subscript a (.Slice lo hi none p2) pos) ρ (.tup (cutD ds i j)) := by
  obtain ⟨tl, pl, ql⟩ := hl.po
  obtain ⟨th, ph, qh⟩ := hh.po
  exact .of (pe_slice sl_tup (peW a) pl ph) fun σ W E Q q => ha σ W E _ fun v W1 e1 r1 => ql σ W1 (E.le e1) _ fun W2 e2 => qh σ W2 (E.le (e1.trans e2)) _ fun W3 e3 => by
    obtain ⟨p, xs, rfl, h2, h3⟩ := Rp.le (e2.trans e3) r1
    exact ⟨p, xs, rfl, Wd.sqT h2, by rw [h3.length]; exact hw, fun p' hp => q _ _ (((e1.trans e2).trans e3).trans (Le.new1 hp)) ⟨p', _, rfl, .inl (.inl upd_same), RpL.le (Le.new1 hp) (cut_rp h3 i j)⟩⟩
theorem dslL {lo hi : Option Expr} {i j : Option Int} {p2 : Pos} (ha : DE X a ρ (.lst ds)) (hl : Part X ρ lo i) (hh : Part X ρ hi j) : DE X (.Subscript a (.Slice lo hi none p2) pos) ρ (.lst (cutD ds i j)) := by
  obtain ⟨tl, pl, ql⟩ := hl.po
  obtain ⟨th, ph, qh⟩ := hh.po
  exact .of (pe_slice sl_list (peW a) pl ph) fun σ W E Q q => ha σ W E _ fun v W1 e1 r1 => ql σ W1 (E.le e1) _ fun W2 e2 => qh σ W2 (E.le (e1.trans e2)) _ fun W3 e3 => by
    obtain ⟨p, xs, rfl, h2, h3⟩ := Rp.le (e2.trans e3) r1
    exact ⟨p, xs, rfl, Wd.seq h2, fun p' hp => q _ _ (((e1.trans e2).trans e3).trans (Le.new1 hp)) ⟨p', _, rfl, .inl (.inl upd_same), RpL.le (Le.new1 hp) (cut_rp h3 i j)⟩⟩

/-! ### calls -/
/-- the promise of a def over data: S tells its answers -/
def spD (K : PySem.W.Frag) (S : List D → D → Prop) (n : Nat) : Sp := fun vs H Q _ => ∃ (W : Wd) (ds : List D) (d : D), W.h = H ∧ ds.length = n ∧ RpL K W.s ds vs ∧ S ds d ∧ ∀ v W2, Le W W2 → Rp K W2.s d v → Q v W2.h
/-- the global x is a def of n parameters that keeps S -/
structure Ok (P : Program) (w : World) (K : PySem.W.Frag) (mg : Str → Option Value) (base : Heap) (k : Nat) (x : Str) (n : Nat) (S : List D → D → Prop) : Prop where
  ex : ∃ (f : Addr) (fd : FuncData) (ps : List Str), mg x = some (.ref f) ∧ PySem.W.keepIn K (.ref f) = true ∧ L2.Binds K fd ps [] ∧ ps.length = n ∧ FnOk P w K mg base CX0 k f fd ps (spD K S n)
theorem dcall {k n : Nat} {S : List D → D → Prop} {p : Pos} (F : Ok X.prog X.w X.K X.mg X.base k x n S) (hr : Room k X.A) (ha : DA X (e :: es) ρ ds) (hS : S ds d) (hn : ds.length = n := by rfl) (hg : Gl X x := by rfl)
    (hdb : (x == ("__debug__" : Str)) = false := by decide) (he : starEach (e :: es) X.env = (false, eval e X.env) :: starEach es X.env := by rfl) (hpl : (backTo pos (starEach es X.env)).any (·.1) = false := by rfl) : DE X (.Call (.Name x p) (e :: es) [] pos) ρ d := by
  obtain ⟨f, fd, ps, hm, hk, hb, hl, ok⟩ := F.ex
  exact .of (pe_call ok hr hg hm hk hb .nil (pass0 (X := X)) (paW (e :: es)) hdb he hpl) fun σ W E Q q => ha σ W E _ fun vs W1 e1 r1 => ⟨W1, ds, d, rfl, hn, by rw [List.append_nil]; exact r1, hS, fun v W2 e2 r2 => q v W2 (e1.trans e2) r2⟩

/-! ### built-ins -/
def D.len : D → Option Nat
  | .lst ds => some ds.length
  | .tup ds => some ds.length
  | _ => none
theorem dlen {n : Nat} {p : Pos} (hm : X.mg "len" = none) (ha : DE X a ρ d) (hn : d.len = some n) (hg : Gl X "len" := by rfl) (hs : starEach [a] X.env = (false, eval a X.env) :: starEach [] X.env := by rfl) : DE X (.Call (.Name "len" p) [a] [] pos) ρ (.int n) :=
  .of (pe_callB call_len hg hm boot_len (pa_cons (peW a) pa_nil hs) (he := hs)) fun σ W E Q q => ha σ W E _ fun v W1 e1 r1 => by
    cases d with
    | lst ds =>
      cases hn
      obtain ⟨p, xs, rfl, h2, h3⟩ := r1
      exact ⟨_, _, rfl, .inl ⟨xs, Wd.seq h2, h3.length.symm⟩, q _ W1 e1 rfl⟩
    | tup ds =>
      cases hn
      obtain ⟨p, xs, rfl, h2, h3⟩ := r1
      exact ⟨_, _, rfl, .inr ⟨xs, Wd.sqT h2, h3.length.symm⟩, q _ W1 e1 rfl⟩
    | _ => cases hn
theorem dabs {i : Int} {p : Pos} (hm : X.mg "abs" = none) (ha : DE X a ρ (.int i)) (hg : Gl X "abs" := by rfl) (hs : starEach [a] X.env = (false, eval a X.env) :: starEach [] X.env := by rfl) : DE X (.Call (.Name "abs" p) [a] [] pos) ρ (.int (if i < 0 then -i else i)) :=
  .of (pe_callB call_abs hg hm boot_abs (pa_cons (peW a) pa_nil hs) (he := hs)) fun σ W E Q q => ha σ W E _ fun v W1 e1 r1 => ⟨i, by rw [r1], q _ W1 e1 rfl⟩
theorem dmax {i j : Int} {p : Pos} (hc : X.calm = true) (hm : X.mg "max" = none) (ha : DE X a ρ (.int i)) (hb : DE X b ρ (.int j)) (hg : Gl X "max" := by rfl) (hs : starEach [a, b] X.env = (false, eval a X.env) :: starEach [b] X.env := by rfl) (hs2 : starEach [b] X.env = (false, eval b X.env) :: starEach [] X.env := by rfl)
    (hpl : (backTo pos (starEach [b] X.env)).any (·.1) = false := by rfl) : DE X (.Call (.Name "max" p) [a, b] [] pos) ρ (.int (if j > i then j else i)) :=
  .of (pe_callB (call_max2 hc) hg hm boot_max (pa_cons (peW a) (pa_cons (peW b) pa_nil hs2) hs) (he := hs) (hpl := hpl)) fun σ W E Q q => ha σ W E _ fun v W1 e1 r1 => hb σ W1 (E.le e1) _ fun w W2 e2 r2 => ⟨i, j, by rw [r1, r2], q _ W2 (e1.trans e2) rfl⟩
theorem dmin {i j : Int} {p : Pos} (hc : X.calm = true) (hm : X.mg "min" = none) (ha : DE X a ρ (.int i)) (hb : DE X b ρ (.int j)) (hg : Gl X "min" := by rfl) (hs : starEach [a, b] X.env = (false, eval a X.env) :: starEach [b] X.env := by rfl) (hs2 : starEach [b] X.env = (false, eval b X.env) :: starEach [] X.env := by rfl)
    (hpl : (backTo pos (starEach [b] X.env)).any (·.1) = false := by rfl) : DE X (.Call (.Name "min" p) [a, b] [] pos) ρ (.int (if j < i then j else i)) :=
  .of (pe_callB (call_min2 hc) hg hm boot_min (pa_cons (peW a) (pa_cons (peW b) pa_nil hs2) hs) (he := hs) (hpl := hpl)) fun σ W E Q q => ha σ W E _ fun v W1 e1 r1 => hb σ W1 (E.le e1) _ fun w W2 e2 r2 => ⟨i, j, by rw [r1, r2], q _ W2 (e1.trans e2) rfl⟩
theorem dintI {i : Int} {p : Pos} (hm : X.mg "int" = none) (ha : DE X a ρ (.int i)) (hg : Gl X "int" := by rfl) (hs : starEach [a] X.env = (false, eval a X.env) :: starEach [] X.env := by rfl) : DE X (.Call (.Name "int" p) [a] [] pos) ρ (.int i) :=
  .of (pe_callTy call_int1 hg hm boot_int (pa_cons (peW a) pa_nil hs) (he := hs)) fun σ W E Q q => ha σ W E _ fun v W1 e1 r1 => .inl ⟨i, by rw [r1], q _ W1 e1 rfl⟩
theorem dintB {z : Bool} {p : Pos} (hm : X.mg "int" = none) (ha : DE X a ρ (.bl z)) (hg : Gl X "int" := by rfl) (hs : starEach [a] X.env = (false, eval a X.env) :: starEach [] X.env := by rfl) : DE X (.Call (.Name "int" p) [a] [] pos) ρ (.int (if z then 1 else 0)) :=
  .of (pe_callTy call_int1 hg hm boot_int (pa_cons (peW a) pa_nil hs) (he := hs)) fun σ W E Q q => ha σ W E _ fun v W1 e1 r1 => .inr ⟨z, by rw [r1], q _ W1 e1 rfl⟩
/-- tuple(x) -/
def D.items : D → Option (List D)
  | .lst ds => some ds
  | .tup ds => some ds
  | _ => none
theorem dtupleOf {p : Pos} (hm : X.mg "tuple" = none) (ha : DE X a ρ d) (hd : d.items = some ds) (hg : Gl X "tuple" := by rfl) (na : starEach [a] X.env = (false, eval a X.env) :: starEach [] X.env := by rfl) : DE X (.Call (.Name "tuple" p) [a] [] pos) ρ (.tup ds) :=
  .of (pe_tupleOf hg hm (peW a) na) fun σ W E Q q => ha σ W E _ fun v W1 e1 r1 => by
    cases d with
    | lst ds =>
      cases hd
      obtain ⟨p, xs, rfl, h2, h3⟩ := r1
      exact .inl ⟨p, xs, rfl, Wd.seq h2, fun p' hp => q _ _ (e1.trans (Le.new1 hp)) ⟨p', xs, rfl, .inl (.inl upd_same), RpL.le (Le.new1 hp) h3⟩⟩
    | tup ds =>
      cases hd
      obtain ⟨p, xs, rfl, h2, h3⟩ := r1
      exact .inr ⟨p, xs, rfl, Wd.sqT h2, q _ W1 e1 ⟨p, xs, rfl, h2, h3⟩⟩
    | _ => cases hd
/-- all, any of a list of truth values -/
theorem rp_bls {K : PySem.W.Frag} {H : Hp} : ∀ {bs : List Bool} {xs : List V}, RpL K H (bs.map D.bl) xs → xs = bs.map V.bl
  | [], _, h => by cases h; rfl
  | b :: bs, xs, h => by
    obtain ⟨x, ys, rfl, h2, h3⟩ := h
    cases h2
    rw [rp_bls h3]; rfl
theorem dall {bs : List Bool} {p : Pos} (hc : X.calm = true) (hm : X.mg "all" = none) (ha : DE X a ρ (.lst (bs.map D.bl))) (hg : Gl X "all" := by rfl) (hs : starEach [a] X.env = (false, eval a X.env) :: starEach [] X.env := by rfl) : DE X (.Call (.Name "all" p) [a] [] pos) ρ (.bl (bs.all id)) :=
  .of (pe_callB (cr_all hc) hg hm boot_all (pa_cons (peW a) pa_nil hs) (he := hs)) fun σ W E Q q => ha σ W E _ fun v W1 e1 r1 => by
    obtain ⟨p, xs, rfl, h2, h3⟩ := r1
    exact ⟨p, bs, rfl, rp_bls h3 ▸ Wd.seq h2, q _ W1 e1 rfl⟩
theorem dany {bs : List Bool} {p : Pos} (hc : X.calm = true) (hm : X.mg "any" = none) (ha : DE X a ρ (.lst (bs.map D.bl))) (hg : Gl X "any" := by rfl) (hs : starEach [a] X.env = (false, eval a X.env) :: starEach [] X.env := by rfl) : DE X (.Call (.Name "any" p) [a] [] pos) ρ (.bl (bs.any id)) :=
  .of (pe_callB (cr_any hc) hg hm boot_any (pa_cons (peW a) pa_nil hs) (he := hs)) fun σ W E Q q => ha σ W E _ fun v W1 e1 r1 => by
    obtain ⟨p, xs, rfl, h2, h3⟩ := r1
    exact ⟨p, bs, rfl, rp_bls h3 ▸ Wd.seq h2, q _ W1 e1 rfl⟩
/-- isinstance with built-in classes -/
def D.ty : D → Option String
  | .non => some "NoneType"
  | .bl _ => some "bool"
  | .int _ => some "int"
  | .str _ => some "str"
  | .lst _ => some "list"
  | .tup _ => some "tuple"
  | _ => none
theorem Rp.tyX {K : PySem.W.Frag} {H : Hp} {d : D} {v : V} {t : String} (h : Rp K H d v) (ht : d.ty = some t) : TyX K H v (.type t) := by
  cases d with
  | non => cases ht; cases h; exact .base .non
  | bl => cases ht; cases h; exact .base (.bl _)
  | int => cases ht; cases h; exact .base (.int _)
  | str => cases ht; cases h; exact .base (.str _)
  | lst ds =>
    cases ht
    obtain ⟨a, xs, rfl, h2, _⟩ := h
    rcases h2 with (h2 | ⟨o, h2⟩) | ⟨o, its, n, h2, h3, _⟩
    · exact .base (.lst h2)
    · exact .base (.frz h2)
    · exact .kList h2 h3
  | tup ds =>
    cases ht
    obtain ⟨a, xs, rfl, h2, _⟩ := h
    rcases h2 with (h2 | ⟨o, h2⟩) | ⟨o, its, n, h2, h3, _⟩
    · exact .base (.tup h2)
    · exact .fTuple h2
    · exact .kTuple h2 h3
  | _ => cases ht
theorem disi {t T : String} {y : Str} {z : Bool} {p p2 : Pos} (hm : X.mg "isinstance" = none) (hm2 : X.mg y = none) (hb2 : bootBuiltins y = some (.type T)) (ha : DE X a ρ d) (ht : d.ty = some t) (hz : kitB t T = some z := by decide +kernel) (hg : Gl X "isinstance" := by rfl) (hg2 : Gl X y := by rfl)
    (hs : starEach [a, .Name y p2] X.env = (false, eval a X.env) :: starEach [.Name y p2] X.env := by rfl) (hn : y ≠ "__name__" := by decide) (hd : (y == ("__debug__" : Str)) = false := by decide) : DE X (.Call (.Name "isinstance" p) [a, .Name y p2] [] pos) ρ (.bl z) :=
  .of (pe_callB call_isi hg hm boot_isinstance (pa_cons (peW a) (pa_cons (pe_bltn (v := .ty T) hg2 hm2 hb2 rfl hn hd) pa_nil) hs) (he := hs)) fun σ W E Q q => ha σ W E _ fun v W1 e1 r1 =>
    ⟨v, .ty T, .type t, .type T, z, rfl, .ty T, Rp.tyX (Rp.h r1) ht, kit_ty hz, q _ W1 e1 rfl⟩
def isSeq : D → Bool
  | .lst _ => true
  | .tup _ => true
  | _ => false
/-- isinstance(x, (list, tuple)) -/
theorem disiLT {t : String} {p p2 p3 p4 : Pos} {k : Nat} (hm : X.mg "isinstance" = none) (hm2 : X.mg "list" = none) (hm3 : X.mg "tuple" = none) (ha : DE X a ρ d) (ht : d.ty = some t) (hg : Gl X "isinstance" := by rfl) (hg2 : Gl X "list" := by rfl) (hg3 : Gl X "tuple" := by rfl)
    (hs : starEach [a, .Tuple [.Name "list" p2, .Name "tuple" p3] k p4] X.env = (false, eval a X.env) :: starEach [.Tuple [.Name "list" p2, .Name "tuple" p3] k p4] X.env := by rfl) : DE X (.Call (.Name "isinstance" p) [a, .Tuple [.Name "list" p2, .Name "tuple" p3] k p4] [] pos) ρ (.bl (isSeq d)) :=
  .of (pe_callB call_isiT hg hm boot_isinstance (pa_cons (peW a) (pa_cons (pe_tup (pa_cons (pe_bltn (v := .ty "list") hg2 hm2 (by decide +kernel) rfl) (pa_cons (pe_bltn (v := .ty "tuple") hg3 hm3 (by decide +kernel) rfl) pa_nil))) pa_nil) hs) (he := hs)) fun σ W E Q q => ha σ W E _ fun v W1 e1 r1 =>
    ⟨by show 2 ≤ sizeLine; decide, fun tp htp => ⟨v, tp, [.ty "list", .ty "tuple"], .type t, [.type "list", .type "tuple"], isSeq d, rfl, upd_same, .cons (.ty _) (.cons (.ty _) .nil), Rp.tyX (Rp.h (Rp.le (Le.new1 htp) r1)) ht, by
      cases d <;> cases ht <;> first
        | exact kitAny_cons (b := true) (kit_ty (by decide +kernel)) (fun q => nomatch q) fun _ => rfl
        | exact kitAny_cons (b := false) (kit_ty (by decide +kernel)) (fun _ => kitAny_cons (b := true) (kit_ty (by decide +kernel)) (fun q => nomatch q) fun _ => rfl) (fun q => nomatch q)
        | exact kitAny_cons (b := false) (kit_ty (by decide +kernel)) (fun _ => kitAny_cons (b := false) (kit_ty (by decide +kernel)) (fun _ => kitAny_nil) (fun q => nomatch q)) (fun q => nomatch q), q _ _ (e1.trans (Le.new1 htp)) rfl⟩⟩
end
end K31
end
section
set_option maxHeartbeats 2000000
set_option autoImplicit false
/-! The forward layer, on: what is walked, comprehensions, statements, defs. -/
namespace K31
open PySem PySem.Spec PyProof.Rows L2

/-! ### what is walked: items, one behind another -/
structure DI (X : Cx) (tg iter : Expr) (ρ : Rho) (items : List D) : Prop where
  ex : ∃ wi, PI X tg iter wi ∧ ∀ σ (W : Wd), EnvD X.K W.s σ ρ → ∀ R : It → Hp → Prop,
    (∀ (J : It) (W1 : Wd) (G : Hp → Prop) (Y : Nat → Hp → V → Hp → Prop), Le W W1 → Walk J items.length G Y → (∀ H', Same W1.h H' → G H') →
      (∀ (i : Nat) (W2 : Wd) (v : V) (Hb : Hp), Le W1 W2 → Y i W2.h v Hb → ∃ (W3 : Wd) (d : D), W3.h = Hb ∧ Le W2 W3 ∧ items[i]? = some d ∧ Rp X.K W3.s d v) → R J W1.h) → wi σ W.h R
section
variable {X : Cx} {ρ ρ' ρ'' : Rho} {e e1 e2 a b c tg iter elt : Expr} {es : List Expr} {d d1 d2 : D} {ds ds2 items : List D} {x : Str} {pos : Pos} {o : Out}
theorem RpL.at_ {K : PySem.W.Frag} {W : Wd} {xs : List V} {i : Nat} {v : V} (r : RpL K W.s ds xs) (h : xs[i]? = some v) : ∃ d, ds[i]? = some d ∧ Rp K W.s d v := r.nth h
theorem diL (h : DE X iter ρ (.lst items)) : DI X tg iter ρ items := ⟨_, pi_list (peW iter), fun σ W E R q => h σ W E _ fun v W1 e1 r1 => by
  obtain ⟨p, xs, rfl, h2, h3⟩ := r1
  refine ⟨p, rfl, ⟨xs, Wd.seq h2⟩, q _ W1 _ _ e1 (h3.length ▸ walk_list (xs := xs)) (fun H' s => s.seq (Wd.seq h2)) fun i W2 v Hb e2 y => ?_⟩
  obtain ⟨rfl, hy⟩ := y
  obtain ⟨d, hd, rd⟩ := (RpL.le e2 h3).nth hy
  exact ⟨W2, d, rfl, Le.refl _, hd, rd⟩⟩
theorem diT (h : DE X iter ρ (.tup items)) : DI X tg iter ρ items := ⟨_, pi_tup (peW iter), fun σ W E R q => h σ W E _ fun v W1 e1 r1 => by
  obtain ⟨p, xs, rfl, h2, h3⟩ := r1
  refine ⟨p, rfl, ⟨xs, Wd.sqT h2⟩, q _ W1 _ _ e1 (h3.length ▸ walk_tup (xs := xs)) (fun H' s => Same.sqT s (Wd.sqT h2)) fun i W2 v Hb e2 y => ?_⟩
  obtain ⟨rfl, hy⟩ := y
  obtain ⟨d, hd, rd⟩ := (RpL.le e2 h3).nth hy
  exact ⟨W2, d, rfl, Le.refl _, hd, rd⟩⟩
/-- range(n) -/
theorem diR {n : Nat} {p pos : Pos} (hm : X.mg "range" = none) (h : DE X a ρ (.int (n : Int))) (hn : n ≤ 1000000) (hg : Gl X "range" := by rfl) (hs : starEach [a] X.env = [(false, eval a X.env)] := by rfl) :
    DI X tg (.Call (.Name "range" p) [a] [] pos) ρ ((List.range n).map fun (i : Nat) => D.int (i : Int)) := ⟨_, pi_range1 hg hm (pa_cons (peW a) pa_nil hs) hs, fun σ W E R q => h σ W E _ fun v W1 e1 r1 => by
  have w : Walk (Itr 0 (n : Int).toNat) ((List.range n).map fun (i : Nat) => D.int (i : Int)).length (fun _ => True) (fun i H x H' => (H' = H ∧ x = .int (0 + (i : Int))) ∧ i < n) := by
    rw [List.length_map, List.length_range, Int.toNat_natCast]
    exact (walk_range (lo := 0) (n := n)).mono (fun _ _ => trivial) fun i H x H' hi _ y => ⟨y, hi⟩
  refine ⟨n, by rw [r1], by omega, by omega, q _ W1 _ _ e1 w (fun _ _ => trivial) fun i W2 v Hb e2 y => ?_⟩
  obtain ⟨⟨rfl, rfl⟩, hi⟩ := y
  exact ⟨W2, .int (i : Int), rfl, Le.refl _, by rw [List.getElem?_map, List.getElem?_range hi]; rfl, by show V.int (0 + (i : Int)) = V.int i; rw [Int.zero_add]⟩⟩
/-- a new pair of data -/
theorem pair_rp {K : PySem.W.Frag} {W2 : Wd} {T : Addr} {x y : V} (hT : W2.h T = none) (r1 : Rp K W2.s d1 x) (r2 : Rp K W2.s d2 y) : Rp K (W2.new T (.tup [x, y])).s (.tup [d1, d2]) (.ref T) :=
  ⟨T, [x, y], rfl, .inl (.inl Wd.at_), x, [y], rfl, Rp.le (Le.new1 hT) r1, y, [], rfl, Rp.le (Le.new1 hT) r2, rfl⟩
def zipD (ds ds2 : List D) : List D := (ds.zip ds2).map fun p => .tup [p.1, p.2]
theorem zipD_get {i : Nat} (h1 : ds[i]? = some d1) (h2 : ds2[i]? = some d2) : (zipD ds ds2)[i]? = some (.tup [d1, d2]) := by
  unfold zipD
  have h : (ds.zip ds2)[i]? = some (d1, d2) := List.getElem?_zip_eq_some.mpr ⟨h1, h2⟩
  rw [List.getElem?_map, h]; rfl
theorem zipD_length : (zipD ds ds2).length = min ds.length ds2.length := by unfold zipD; simp
/-- what a walk over pairs gives -/
theorem pairs_give {K : PySem.W.Frag} {W1 W2 : Wd} {xs ys : List V} {i : Nat} {v : V} {Hb : Hp} (h1 : RpL K W1.s ds xs) (h2 : RpL K W1.s ds2 ys) (e2 : Le W1 W2) (y : YPair (fun i => xs[i]?) (fun i => ys[i]?) i W2.h v Hb) :
    ∃ (W3 : Wd) (d : D), W3.h = Hb ∧ Le W2 W3 ∧ (zipD ds ds2)[i]? = some d ∧ Rp K W3.s d v := by
  obtain ⟨T, x, z, rfl, hT, rfl, hx, hz⟩ := y
  obtain ⟨d1, g1, r1⟩ := (RpL.le e2 h1).nth hx
  obtain ⟨d2, g2, r2⟩ := (RpL.le e2 h2).nth hz
  exact ⟨W2.new T _, _, rfl, Le.new1 hT, zipD_get g1 g2, pair_rp hT r1 r2⟩
/-- zip of two lists -/
theorem diZL {p pos tpos : Pos} {elts : List Expr} {kk : Nat} (hm : X.mg "zip" = none) (h1 : DE X a ρ (.lst ds)) (h2 : DE X b ρ (.lst ds2)) (hg : Gl X "zip" := by rfl)
    (hs : starEach [a, b] X.env = (false, eval a X.env) :: starEach [b] X.env := by rfl) (hs2 : starEach [b] X.env = (false, eval b X.env) :: starEach [] X.env := by rfl) (hpl : (backTo pos (starEach [b] X.env)).any (·.1) = false := by rfl) :
    DI X (.Tuple elts kk tpos) (.Call (.Name "zip" p) [a, b] [] pos) ρ (zipD ds ds2) := ⟨_, pi_zip hg hm (pa_cons (peW a) (pa_cons (peW b) pa_nil hs2) hs) hs hpl, fun σ W E R q => h1 σ W E _ fun v W1 e1 r1 => h2 σ W1 (E.le e1) _ fun u W2 e2 r2 => by
  obtain ⟨p1, xs, rfl, a2, a3⟩ := Rp.le e2 r1
  obtain ⟨p2, ys, rfl, b2, b3⟩ := r2
  refine ⟨p1, p2, xs, ys, rfl, Wd.seq a2, Wd.seq b2, q _ W2 _ _ (e1.trans e2) (walk_zip (by rw [zipD_length, a3.length, b3.length])) (fun H' s => ⟨s.seq (Wd.seq a2), s.seq (Wd.seq b2)⟩) fun i W3 v Hb e3 y => pairs_give a3 b3 e3 y⟩⟩
theorem walk_zipT {K : PySem.W.Frag} {a b : Addr} {xs ys : List V} {n : Nat} (hn : n = min xs.length ys.length) : Walk (RZ.ItzT K a b) n (fun H => SqT K H a xs ∧ SqT K H b ys) (YPair (fun i => xs[i]?) (fun i => ys[i]?)) := by
  subst hn
  refine ⟨fun i _ hi q => ?_, fun _ q => ⟨xs, ys, q.1, q.2, by omega⟩, fun i H v H' _ q y => ?_⟩
  · have h1 : i < xs.length := by omega
    have h2 : i < ys.length := by omega
    exact ⟨xs, ys, xs[i], ys[i], q.1, q.2, by simp [h1], by simp [h2]⟩
  · obtain ⟨T, x, z, h1, h2, h3, h4, h5⟩ := y
    exact ⟨T, x, z, h1, h2, h3, h4 xs q.1, h5 ys q.2⟩
/-- zip of two tuples -/
theorem diZT {p pos tpos : Pos} {elts : List Expr} {kk : Nat} (hm : X.mg "zip" = none) (h1 : DE X a ρ (.tup ds)) (h2 : DE X b ρ (.tup ds2)) (hg : Gl X "zip" := by rfl)
    (hs : starEach [a, b] X.env = (false, eval a X.env) :: starEach [b] X.env := by rfl) (hs2 : starEach [b] X.env = (false, eval b X.env) :: starEach [] X.env := by rfl) (hpl : (backTo pos (starEach [b] X.env)).any (·.1) = false := by rfl) :
    DI X (.Tuple elts kk tpos) (.Call (.Name "zip" p) [a, b] [] pos) ρ (zipD ds ds2) := ⟨_, RZ.pi_zipA hg hm (pa_cons (peW a) (pa_cons (peW b) pa_nil hs2) hs) hs hpl, fun σ W E R q => h1 σ W E _ fun v W1 e1 r1 => h2 σ W1 (E.le e1) _ fun u W2 e2 r2 => by
  obtain ⟨p1, xs, rfl, a2, a3⟩ := Rp.le e2 r1
  obtain ⟨p2, ys, rfl, b2, b3⟩ := r2
  refine ⟨p1, p2, xs, ys, rfl, .inr ⟨Wd.sqT a2, Wd.sqT b2, q _ W2 _ _ (e1.trans e2) (walk_zipT (by rw [zipD_length, a3.length, b3.length])) (fun H' s => ⟨Same.sqT s (Wd.sqT a2), Same.sqT s (Wd.sqT b2)⟩) fun i W3 v Hb e3 y => pairs_give a3 b3 e3 y⟩⟩⟩
/-- enumerate(list) -/
def enumD (ds : List D) : List D := zipD ((List.range ds.length).map fun (i : Nat) => D.int (i : Int)) ds
theorem enum_give {K : PySem.W.Frag} {W1 W2 : Wd} {xs : List V} {i : Nat} {v : V} {Hb : Hp} (h2 : RpL K W1.s ds xs) (e2 : Le W1 W2) (y : YPair (fun i => some (.int (i : Nat))) (fun i => xs[i]?) i W2.h v Hb) :
    ∃ (W3 : Wd) (d : D), W3.h = Hb ∧ Le W2 W3 ∧ (enumD ds)[i]? = some d ∧ Rp K W3.s d v := by
  obtain ⟨T, x, z, rfl, hT, rfl, hx, hz⟩ := y
  obtain ⟨d2, g2, r2⟩ := (RpL.le e2 h2).nth hz
  have hi : i < ds.length := (List.getElem?_eq_some_iff.mp g2).1
  cases hx
  exact ⟨W2.new T _, _, rfl, Le.new1 hT, zipD_get (by rw [List.getElem?_map, List.getElem?_range hi]; rfl) g2, pair_rp (d1 := .int (i : Int)) hT rfl r2⟩
theorem enumD_length : (enumD ds).length = ds.length := by unfold enumD; rw [zipD_length]; simp
theorem diEL {p pos tpos : Pos} {elts : List Expr} {kk : Nat} (hm : X.mg "enumerate" = none) (h : DE X a ρ (.lst ds)) (hg : Gl X "enumerate" := by rfl) (hs : starEach [a] X.env = [(false, eval a X.env)] := by rfl) :
    DI X (.Tuple elts kk tpos) (.Call (.Name "enumerate" p) [a] [] pos) ρ (enumD ds) := ⟨_, pi_enum hg hm (pa_cons (peW a) pa_nil hs) hs, fun σ W E R q => h σ W E _ fun v W1 e1 r1 => by
  obtain ⟨p1, xs, rfl, a2, a3⟩ := r1
  exact ⟨p1, xs, rfl, Wd.seq a2, q _ W1 _ _ e1 (by rw [enumD_length, ← a3.length]; exact walk_enum (xs := xs)) (fun H' s => s.seq (Wd.seq a2)) fun i W3 v Hb e3 y => enum_give a3 e3 y⟩⟩
end

/-! ### comprehensions -/
/-- a target takes data d: from ρ to ρ2; vs: the comprehension's own slots -/
def BindC (K : PySem.W.Frag) (g : TG) (vs : List Nat) (ρ : Rho) (d : D) (ρ2 : Rho) : Prop := ∀ (σ0 : L2.St) (W : Wd) (v : V), EnvD K W.s (wipe σ0 vs) ρ → Rp K W.s d v → ∀ Q : L2.St → Hp → Prop,
  (∀ σ2, EnvD K W.s σ2 ρ2 → wipe σ2 vs = wipe σ0 vs → Q σ2 W.h) → g v (wipe σ0 vs) W.h Q
section
variable {K : PySem.W.Frag} {ρ : Rho} {d d1 d2 : D} {i j : Nat}
theorem bcN : BindC K (gName i) [i] ρ d (ρ.set i (some d)) := fun σ0 W v E r Q q => q _ (E.set r) (by simp [wipe])
theorem bcP (hij : i ≠ j) : BindC K (gTup K 2 (gCons (gName i) (gCons (gName j) gNil))) [i, j] ρ (.tup [d1, d2]) ((ρ.set i (some d1)).set j (some d2)) := fun σ0 W v E r Q q => by
  obtain ⟨a, xs, rfl, h2, x, ys, rfl, r1, y, zs, rfl, r2, hz⟩ := r
  cases hz
  refine ⟨a, [x, y], rfl, Wd.sqT h2, rfl, x, [y], rfl, y, [], rfl, rfl, q _ ((E.set r1).set r2) ?_⟩
  refine List.ext_getElem? fun k => ?_
  simp only [wipe, List.getElem?_set, List.length_set]
  by_cases h1 : i = k <;> by_cases h2 : j = k <;> simp_all
end
section
variable {X : Cx} {ρ ρ' ρ'' : Rho} {e e1 e2 a b c tg iter elt : Expr} {es : List Expr} {d d1 d2 : D} {ds ds2 items : List D} {x : Str} {pos : Pos} {o : Out}
theorem getElem?_take_succ {α : Type} {l : List α} {i : Nat} {x : α} (h : l[i]? = some x) : l.take (i + 1) = l.take i ++ [x] := by
  rw [List.take_add_one, h]; rfl
/-- the reading of a comprehension -/
theorem lc_read {wi : TI} {g : TG} {tt : TT} {te : TE} {vs : List Nat} (f : D → Option D) (hl : items.length ≤ 1000)
    (hi : ∀ σ (W : Wd), EnvD X.K W.s σ ρ → ∀ R : It → Hp → Prop,
    (∀ (J : It) (W1 : Wd) (G : Hp → Prop) (Y : Nat → Hp → V → Hp → Prop), Le W W1 → Walk J items.length G Y → (∀ H', Same W1.h H' → G H') →
      (∀ (i : Nat) (W2 : Wd) (v : V) (Hb : Hp), Le W1 W2 → Y i W2.h v Hb → ∃ (W3 : Wd) (d : D), W3.h = Hb ∧ Le W2 W3 ∧ items[i]? = some d ∧ Rp X.K W3.s d v) → R J W1.h) → wi σ W.h R)
    (hs : ∀ d ∈ items, ∃ ρ2 b, BindC X.K g vs (wipeD ρ vs) d ρ2 ∧ (∀ σ (W : Wd), EnvD X.K W.s σ ρ2 → ∀ Q : Bool → Hp → Prop, (∀ W2, Le W W2 → Q b W2.h) → tt σ W.h Q) ∧
      (b = false → f d = none) ∧ (b = true → ∃ z, f d = some z ∧ ∀ σ (W : Wd), EnvD X.K W.s σ ρ2 → ∀ Q : VK, (∀ v W2, Le W W2 → Rp X.K W2.s z v → Q v W2.h) → te σ W.h Q)) :
    ∀ σ (W : Wd), EnvD X.K W.s σ ρ → ∀ Q : VK, (∀ v W2, Le W W2 → Rp X.K W2.s (.lst (items.filterMap f)) v → Q v W2.h) → tLc wi g tt te vs σ W.h Q := by
  intro σ W E Q q
  refine hi σ W E _ fun J W1 G Y e1 w hG hY D hD => ?_
  have hDs := Wd.none hD
  refine lc_it w (fun i H => ∃ (W2 : Wd) (acc : List V), W2.h = H ∧ Le W1 ⟨W2.s, W2.h, W2.sub⟩ ∧ W2.s D = none ∧ H D = some (.lst acc) ∧ RpL X.K W2.s ((items.take i).filterMap f) acc) ⟨⟨W1.s, upd W1.h D (.lst []), fun a u h => by
      rw [upd_ne (ne_of_none h hDs)]; exact W1.sub a u h⟩, [], rfl, ⟨Same.new hD, Same.refl _, fun _ _ h => .inl h⟩, hDs, upd_same, by simp [RpL]⟩ (fun i H hi ⟨W2, acc, hh, le, _⟩ => hG H (hh ▸ le.hh)) (fun i v H H' hi ⟨W2, acc, hh, le, hDn, hacc, rl⟩ y => ?_) fun H ⟨W2, acc, hh, le, hDn, hacc, rl⟩ => ?_
  · subst hh
    obtain ⟨W3, d, rfl, le3, hd, rd⟩ := hY i W2 v _ le y
    obtain ⟨ρ2, b, hb, ht, hf, hz⟩ := hs d (List.mem_of_getElem? hd)
    have E3 : EnvD X.K W3.s (wipe σ vs) (wipeD ρ vs) := (((E.wipe vs).le e1).le le).le le3
    have hD3 : W3.h D ≠ none := fun h => by
      have := le3.hh D _ hacc
      rw [h] at this; cases this
    have hs3 : W3.s D = none := le3.newL hacc (fun _ z => nomatch z) hDn
    have tk : (items.take (i + 1)).filterMap f = (items.take i).filterMap f ++ (f d).toList := by
      rw [getElem?_take_succ hd, List.filterMap_append]
      congr 1
    refine hb σ W3 v E3 rd _ fun σ2 E4 hw => ⟨hw, ht σ2 W3 E4 _ fun W4 le4 => ?_⟩
    have hs4 : W4.s D = none := le4.newL (le3.hh D _ hacc) (fun _ z => nomatch z) hs3
    have hacc4 : W4.h D = some (.lst acc) := le4.hh D _ (le3.hh D _ hacc)
    cases b with
    | false =>
      refine iteF ⟨W4, acc, rfl, (le.trans le3).trans le4, hs4, hacc4, ?_⟩
      rw [tk, hf rfl]
      simpa using RpL.le (le3.trans le4) rl
    | true =>
      obtain ⟨z, hz1, hz2⟩ := hz rfl
      refine iteT (hz2 σ2 W4 (E4.le le4) _ fun y W5 le5 ry => ?_)
      have hs5 : W5.s D = none := le5.newL hacc4 (fun _ z => nomatch z) hs4
      have hacc5 : W5.h D = some (.lst acc) := le5.hh D _ hacc4
      have le15 : Le W1 W5 := ((le.trans le3).trans le4).trans le5
      refine ⟨acc, hacc5, ?_, ⟨W5.s, upd W5.h D (.lst (acc ++ [y])), fun a u h => by rw [upd_ne (ne_of_none h hs5)]; exact W5.sub a u h⟩, acc ++ [y], rfl, ⟨fun a u h => ?_, le15.ss, le15.new⟩, hs5, upd_same, ?_⟩
      · rw [rl.length]
        refine small1000 (Nat.le_trans (List.length_filterMap_le _ _) ?_)
        rw [List.length_take]; omega
      · show upd W5.h D (.lst (acc ++ [y])) a = some u
        rw [upd_ne (ne_of_none h hD)]; exact le15.hh a u h
      · rw [tk, hz1]
        exact RpL.append (RpL.mono ((le3.ss.trans le4.ss).trans le5.ss) _ _ rl) ⟨y, [], rfl, ry, rfl⟩
  · subst hh
    have hsub : Same (upd W2.s D (.lst acc)) W2.h := fun a u h => by
      by_cases q : a = D
      · subst q; rw [upd_same] at h; cases h; exact hacc
      · rw [upd_ne q] at h; exact W2.sub a u h
    have leF : Le W ⟨upd W2.s D (.lst acc), W2.h, hsub⟩ := ⟨(e1.trans le).hh, (e1.trans le).ss.trans (Same.new hDn), fun b h1 h2 => by
      have hb : b ≠ D := fun e => by
        subst e
        cases qq : W.h b with
        | none => exact h1 qq
        | some o => rw [e1.hh b o qq] at hD; cases hD
      rcases (e1.trans le).new b h1 h2 with q | q
      · refine .inl ?_
        show upd W2.s D (.lst acc) b = none
        rw [upd_ne hb]; exact q
      · exact .inr q⟩
    rw [List.take_length] at rl
    exact q (.ref D) ⟨upd W2.s D (.lst acc), W2.h, hsub⟩ leF ⟨D, acc, rfl, .inl (.inl upd_same), RpL.mono (Same.new hDn) _ _ rl⟩
/-- for each block of a comprehension -/
def Blk (X : Cx) (scope : Scope) (φ : Cx → Prop) : Prop := ∀ (s : Shared) (H : Hp) (C : Addr) (cl : List (Str × Addr)) (fp : List Addr), φ (X.blk s H scope (compEnvC scope cl C X.env) fp)
def tElt (X : Cx) (scope : Scope) (elt : Expr) : TE := fun σ H Q => ∀ (s : Shared) (H0 : Hp) (C : Addr) (cl : List (Str × Addr)) (fp : List Addr), wE (X.blk s H0 scope (compEnvC scope cl C X.env) fp) elt σ H Q
def tIf1 (X : Cx) (scope : Scope) (c : Expr) : TT := fun σ H Q => ∀ (s : Shared) (H0 : Hp) (C : Addr) (cl : List (Str × Addr)) (fp : List Addr), wT (X.blk s H0 scope (compEnvC scope cl C X.env) fp) c σ H Q
variable {scope : Scope} {own : List (Str × Nat)} {g : TG}
/-- [elt for tg in iter] -/
theorem dlc (f : D → D) (hc : X.calm = true) (nd : X.N.Nodup) (hi : DI X tg iter ρ items) (ok : BlkOk X.N X.env.scope scope own) (hg : Blk X scope fun X' => PG X' tg g) (hl : items.length ≤ 1000)
    (hs : ∀ d ∈ items, ∃ ρ2, BindC X.K g (own.map (·.2)) (wipeD ρ (own.map (·.2))) d ρ2 ∧ Blk X scope fun X' => DE X' elt ρ2 (f d)) (hfs : ∀ x, foldedSetIterable iter X.env x = pure x := by intro _; rfl) : DE X (.ListComp elt [⟨tg, iter, [], 0⟩] scope pos) ρ (.lst (items.map f)) := by
  obtain ⟨wi, pi, hw⟩ := hi.ex
  refine .of (pe_lc (te := tElt X scope elt) hc nd pi ok hg (fun _ _ _ _ _ => pts_nil) (fun s H C cl fp => ⟨fun pins s' σ H' Q I h => h s H C cl fp pins s' I⟩) hfs) ?_
  have h := lc_read (X := X) (ρ := ρ) (tt := tYes) (te := tElt X scope elt) (g := g) (vs := own.map (·.2)) (fun d => some (f d)) hl hw fun d hd => by
    obtain ⟨ρ2, hb, he⟩ := hs d hd
    exact ⟨ρ2, true, hb, fun σ W E Q q => q W (Le.refl W), (fun q => nomatch q), fun _ => ⟨f d, rfl, fun σ W E Q q s H C cl fp => he s H C cl fp σ W E Q q⟩⟩
  have e : items.filterMap (fun d => some (f d)) = items.map f := by rw [List.filterMap_eq_map']
  rw [e] at h
  exact h
/-- [elt for tg in iter if c] -/
theorem dlcIf {c : Expr} (f : D → Option D) (hc : X.calm = true) (nd : X.N.Nodup) (hi : DI X tg iter ρ items) (ok : BlkOk X.N X.env.scope scope own) (hg : Blk X scope fun X' => PG X' tg g) (hl : items.length ≤ 1000)
    (hs : ∀ d ∈ items, ∃ ρ2 b, BindC X.K g (own.map (·.2)) (wipeD ρ (own.map (·.2))) d ρ2 ∧ (Blk X scope fun X' => DT X' c ρ2 b) ∧ (b = false → f d = none) ∧ (b = true → ∃ z, f d = some z ∧ Blk X scope fun X' => DE X' elt ρ2 z)) (hfs : ∀ x, foldedSetIterable iter X.env x = pure x := by intro _; rfl) :
    DE X (.ListComp elt [⟨tg, iter, [c], 0⟩] scope pos) ρ (.lst (items.filterMap f)) := by
  obtain ⟨wi, pi, hw⟩ := hi.ex
  refine .of (pe_lc (te := tElt X scope elt) hc nd pi ok hg (fun s H C cl fp => pts_one (t := tIf1 X scope c) ⟨fun pins s' σ H' Q I h => h s H C cl fp pins s' I⟩) (fun s H C cl fp => ⟨fun pins s' σ H' Q I h => h s H C cl fp pins s' I⟩) hfs) ?_
  exact lc_read (X := X) (ρ := ρ) (tt := tIf1 X scope c) (te := tElt X scope elt) (g := g) (vs := own.map (·.2)) f hl hw fun d hd => by
    obtain ⟨ρ2, b, hb, ht, h1, h2⟩ := hs d hd
    exact ⟨ρ2, b, hb, fun σ W E Q q s H C cl fp => ht s H C cl fp σ W E Q q, h1, fun hb => by
      obtain ⟨z, hz, he⟩ := h2 hb
      exact ⟨z, hz, fun σ W E Q q s H C cl fp => he s H C cl fp σ W E Q q⟩⟩

/-! ### statements -/
theorem dset {i : Nat} {x : Str} {py : Pos} (nd : X.N.Nodup) (hi : X.N[i]? = some x) (he : DE X e ρ d) (hs : swapsWith e (some (.Name x py)) pos.line X.env = pure false := by rfl) (hx : Loc X.env.scope x := by first | exact Or.inl rfl | exact Or.inr rfl) (hf : X.fn x = true ∨ X.env.scope.names.lookup x = some .local := by exact Or.inl rfl) : DS X (.Assign [.Name x py] e pos) ρ (.nx (ρ.set i (some d))) :=
  .of (ps_set nd hi hx (peW e) hs hf) fun σ W E D q => he σ W E _ fun v W1 e1 r1 => q _ W1 e1 ((E.le e1).set r1)
/-- name = [..] -/
theorem dsetLc {i : Nat} {y : Str} {py spos : Pos} (f : D → D) (hc : X.calm = true) (nd : X.N.Nodup) (hy : X.N[i]? = some y) (hyl : X.env.scope.names.lookup y = some .local) (hsw : swapsWith (.ListComp elt [⟨tg, iter, [], 0⟩] scope pos) (some (.Name y py)) spos.line X.env = pure true)
    (hi : DI X tg iter ρ items) (ok : BlkOk X.N X.env.scope scope own) (hg : Blk X scope fun X' => PG X' tg g) (hl : items.length ≤ 1000)
    (hs : ∀ d ∈ items, ∃ ρ2, BindC X.K g (own.map (·.2)) (wipeD ρ (own.map (·.2))) d ρ2 ∧ Blk X scope fun X' => DE X' elt ρ2 (f d)) (hfs : ∀ x, foldedSetIterable iter X.env x = pure x := by intro _; rfl) :
    DS X (.Assign [.Name y py] (.ListComp elt [⟨tg, iter, [], 0⟩] scope pos) spos) ρ (.nx (ρ.set i (some (.lst (items.map f))))) := by
  obtain ⟨wi, pi, hw⟩ := hi.ex
  refine .of (ps_setLc (te := tElt X scope elt) hc nd hy hyl hsw pi ok hg (fun _ _ _ _ _ => pts_nil) (fun s H C cl fp => ⟨fun pins s' σ H' Q I h => h s H C cl fp pins s' I⟩) hfs) fun σ W E D q => ?_
  have h := lc_read (X := X) (ρ := ρ) (tt := tYes) (te := tElt X scope elt) (g := g) (vs := own.map (·.2)) (fun d => some (f d)) hl hw fun d hd => by
    obtain ⟨ρ2, hb, he⟩ := hs d hd
    exact ⟨ρ2, true, hb, fun σ W E Q q => q W (Le.refl W), (fun q => nomatch q), fun _ => ⟨f d, rfl, fun σ W E Q q s H C cl fp => he s H C cl fp σ W E Q q⟩⟩
  have e : items.filterMap (fun d => some (f d)) = items.map f := by rw [List.filterMap_eq_map']
  rw [e] at h
  exact h σ W E _ fun v W1 e1 r1 => q _ W1 e1 ((E.le e1).set r1)
theorem dsetLcIf {i : Nat} {y : Str} {py spos : Pos} {c : Expr} (f : D → Option D) (hc : X.calm = true) (nd : X.N.Nodup) (hy : X.N[i]? = some y) (hyl : X.env.scope.names.lookup y = some .local) (hsw : swapsWith (.ListComp elt [⟨tg, iter, [c], 0⟩] scope pos) (some (.Name y py)) spos.line X.env = pure true)
    (hi : DI X tg iter ρ items) (ok : BlkOk X.N X.env.scope scope own) (hg : Blk X scope fun X' => PG X' tg g) (hl : items.length ≤ 1000)
    (hs : ∀ d ∈ items, ∃ ρ2 b, BindC X.K g (own.map (·.2)) (wipeD ρ (own.map (·.2))) d ρ2 ∧ (Blk X scope fun X' => DT X' c ρ2 b) ∧ (b = false → f d = none) ∧ (b = true → ∃ z, f d = some z ∧ Blk X scope fun X' => DE X' elt ρ2 z)) (hfs : ∀ x, foldedSetIterable iter X.env x = pure x := by intro _; rfl) :
    DS X (.Assign [.Name y py] (.ListComp elt [⟨tg, iter, [c], 0⟩] scope pos) spos) ρ (.nx (ρ.set i (some (.lst (items.filterMap f))))) := by
  obtain ⟨wi, pi, hw⟩ := hi.ex
  refine .of (ps_setLc (te := tElt X scope elt) hc nd hy hyl hsw pi ok hg (fun s H C cl fp => pts_one (t := tIf1 X scope c) ⟨fun pins s' σ H' Q I h => h s H C cl fp pins s' I⟩) (fun s H C cl fp => ⟨fun pins s' σ H' Q I h => h s H C cl fp pins s' I⟩) hfs) fun σ W E D q => ?_
  have h := lc_read (X := X) (ρ := ρ) (tt := tIf1 X scope c) (te := tElt X scope elt) (g := g) (vs := own.map (·.2)) f hl hw fun d hd => by
    obtain ⟨ρ2, b, hb, ht, h1, h2⟩ := hs d hd
    exact ⟨ρ2, b, hb, fun σ W E Q q s H C cl fp => ht s H C cl fp σ W E Q q, h1, fun hb => by
      obtain ⟨z, hz, he⟩ := h2 hb
      exact ⟨z, hz, fun σ W E Q q s H C cl fp => he s H C cl fp σ W E Q q⟩⟩
  exact h σ W E _ fun v W1 e1 r1 => q _ W1 e1 ((E.le e1).set r1)
/-- targets: a name; a tuple of targets -/
def DG (X : Cx) (tg : Expr) (ρ : Rho) (d : D) (ρ' : Rho) : Prop := ∃ g, PG X tg g ∧ ∀ σ (W : Wd) v, EnvD X.K W.s σ ρ → Rp X.K W.s d v → ∀ Q : L2.St → Hp → Prop, (∀ σ', EnvD X.K W.s σ' ρ' → Q σ' W.h) → g v σ W.h Q
def DGs (X : Cx) (tgs : List Expr) (ρ : Rho) (ds : List D) (ρ' : Rho) : Prop := ∃ g, PGs X tgs g ∧ ∀ σ (W : Wd) vs, EnvD X.K W.s σ ρ → RpL X.K W.s ds vs → ∀ Q : L2.St → Hp → Prop, (∀ σ', EnvD X.K W.s σ' ρ' → Q σ' W.h) → g vs σ W.h Q
theorem dgN {i : Nat} {x : Str} {py : Pos} (nd : X.N.Nodup) (hi : X.N[i]? = some x) (hx : Loc X.env.scope x := by first | exact Or.inl rfl | exact Or.inr rfl) (hf : X.fn x = true ∨ X.env.scope.names.lookup x = some .local := by exact Or.inl rfl) : DG X (.Name x py) ρ d (ρ.set i (some d)) :=
  ⟨_, pg_name nd hi hx hf, fun σ W v E r Q q => q _ (E.set r)⟩
theorem dgs0 : DGs X [] ρ [] ρ := ⟨_, pgs_nil, fun σ W vs E r Q q => by cases r; exact ⟨rfl, q σ E⟩⟩
theorem dgs1 {tgs : List Expr} (h : DG X tg ρ d ρ') (hr : DGs X tgs ρ' ds ρ'') (hs : (assignEach (tg :: tgs) X.env).map (·.2) = assign tg X.env :: (assignEach tgs X.env).map (·.2) := by rfl) : DGs X (tg :: tgs) ρ (d :: ds) ρ'' := by
  obtain ⟨g1, p1, q1⟩ := h
  obtain ⟨g2, p2, q2⟩ := hr
  refine ⟨_, pgs_cons p1 p2 hs, fun σ W vs E r Q q => ?_⟩
  obtain ⟨x, ys, rfl, r1, r2⟩ := r
  exact ⟨x, ys, rfl, q1 σ W x E r1 _ fun σ' E' => q2 σ' W ys E' r2 Q q⟩
theorem dgT {tgs : List Expr} {k n : Nat} {tpos : Pos} (hc : X.calm = true) (h : DGs X tgs ρ ds ρ') (hl : ds.length = n := by rfl) (hn : (assignEach tgs X.env).length = n := by rfl) (hst : (assignEach tgs X.env).findIdx? (·.1) = none := by rfl) : DG X (.Tuple tgs k tpos) ρ (.tup ds) ρ' := by
  obtain ⟨g, p, q⟩ := h
  refine ⟨_, pg_tup hc p hn hst, fun σ W v E r Q qq => ?_⟩
  obtain ⟨a, xs, rfl, h2, h3⟩ := r
  exact ⟨a, xs, rfl, Wd.sqT h2, by rw [h3.length]; exact hl, q σ W xs E h3 Q qq⟩
theorem dasg (he : DE X e ρ d) (hg : DG X tg ρ d ρ') (hs : swapsWithSole [tg] e pos.line X.env = pure false := by rfl) (hw : swappedStores [tg] e X.env = pure none := by rfl) (h1 : (assignEach [tg] X.env).map (·.2) = [assign tg X.env] := by rfl) : DS X (.Assign [tg] e pos) ρ (.nx ρ') := by
  obtain ⟨g, p, q⟩ := hg
  exact .of (ps_asg (peW e) p hs hw h1) fun σ W E D qq => he σ W E _ fun v W1 e1 r1 => q σ W1 v (E.le e1) r1 _ fun σ' E' => qq σ' W1 e1 E'
theorem dpar {i j : Nat} {x y : Str} {px py pt : Pos} {kt k2 : Nat} {pt2 : Pos} (hc : X.calm = true) (nd : X.N.Nodup) (hi : X.N[i]? = some x) (hj : X.N[j]? = some y) (hij : i ≠ j) (hx : X.env.scope.names.lookup x = some .local) (hy : X.env.scope.names.lookup y = some .local) (ha : DA X [a, b] ρ [d1, d2])
    (hw : swappedStores [.Tuple [.Name x px, .Name y py] kt pt] (.Tuple [a, b] k2 pt2) X.env = pure (some [x, y]) := by rfl) (hs : swapsWithSole [.Tuple [.Name x px, .Name y py] kt pt] (.Tuple [a, b] k2 pt2) pos.line X.env = pure false := by rfl) :
    DS X (.Assign [.Tuple [.Name x px, .Name y py] kt pt] (.Tuple [a, b] k2 pt2) pos) ρ (.nx ((ρ.set i (some d1)).set j (some d2))) :=
  .of (ps_par hc nd hi hj hij hx hy (paW _) hw hs) fun σ W E D q => ha σ W E _ fun vs W1 e1 r1 => by
    obtain ⟨v, ys, rfl, r1, w, zs, rfl, r2, hz⟩ := r1
    cases hz
    exact ⟨v, w, rfl, q _ W1 e1 (((E.le e1).set r1).set r2)⟩
theorem dpar3 {i j l : Nat} {x y z : Str} {d3 : D} {px py pz pt : Pos} {kt k2 : Nat} {pt2 : Pos} (hc : X.calm = true) (nd : X.N.Nodup) (hi : X.N[i]? = some x) (hj : X.N[j]? = some y) (hl : X.N[l]? = some z) (hij : i ≠ j) (hil : i ≠ l) (hjl : j ≠ l) (hx : X.env.scope.names.lookup x = some .local) (hy : X.env.scope.names.lookup y = some .local)
    (hz : X.env.scope.names.lookup z = some .local) (ha : DA X [a, b, c] ρ [d1, d2, d3])
    (hw : swappedStores [.Tuple [.Name x px, .Name y py, .Name z pz] kt pt] (.Tuple [a, b, c] k2 pt2) X.env = pure (some [x, y, z]) := by rfl) (hs : swapsWithSole [.Tuple [.Name x px, .Name y py, .Name z pz] kt pt] (.Tuple [a, b, c] k2 pt2) pos.line X.env = pure false := by rfl) :
    DS X (.Assign [.Tuple [.Name x px, .Name y py, .Name z pz] kt pt] (.Tuple [a, b, c] k2 pt2) pos) ρ (.nx (((ρ.set i (some d1)).set j (some d2)).set l (some d3))) :=
  .of (ps_par3 hc nd hi hj hl hij hil hjl hx hy hz (paW _) hw hs) fun σ W E D q => ha σ W E _ fun vs W1 e1 r1 => by
    obtain ⟨v, ys, rfl, r1, w, zs, rfl, r2, u, us, rfl, r3, hz⟩ := r1
    cases hz
    exact ⟨v, w, u, rfl, q _ W1 e1 ((((E.le e1).set r1).set r2).set r3)⟩
theorem dret (he : DE X e ρ d) : DS X (.Return (some e) pos) ρ (.rt d) := .of (ps_ret (peW e)) fun σ W E D q => he σ W E _ fun v W1 e1 r1 => q v W1 e1 r1
theorem dif {c : Expr} {ss es : List Stmt} {z : Bool} (hc : DT X c ρ z) (ha : z = true → DB X ss ρ o) (hb : z = false → DB X es ρ o) : DS X (.If c ss es pos) ρ o :=
  .of (ps_if (ptW c) (pbW ss) (pbW es)) fun σ W E D q => hc σ W E _ fun W1 e1 => by
    cases z with
    | true => exact iteT (ha rfl σ W1 (E.le e1) D (q.mono e1))
    | false => exact iteF (hb rfl σ W1 (E.le e1) D (q.mono e1))
theorem dexpr (he : DE X e ρ d) (hs : swapsWith e none pos.line X.env = pure false := by rfl) : DS X (.Expr e pos) ρ (.nx ρ) := .of (ps_expr (peW e) hs) fun σ W E D q => he σ W E _ fun v W1 e1 r1 => q σ W1 e1 (E.le e1)
theorem db0 : DB X [] ρ (.nx ρ) := .of pss_nil fun σ W E D q => q σ W (Le.refl W) E
theorem db1 {st : Stmt} {ss : List Stmt} (h1 : DS X st ρ (.nx ρ')) (h2 : DB X ss ρ' o) : DB X (st :: ss) ρ o := .of (pss_cons (psW st) (pbW ss)) fun σ W E D q => h1 σ W E _ fun σ' W1 e1 E1 => h2 σ' W1 E1 D (q.mono e1)
/-- a statement that returns: what is behind it isn't reached -/
theorem dbR {st : Stmt} {ss : List Stmt} (h1 : DS X st ρ (.rt d)) : DB X (st :: ss) ρ (.rt d) := .of (pss_cons (psW st) (pbW ss)) fun σ W E D q => h1 σ W E _ q
theorem dbW {ρ1 : Rho} {ss : List Stmt} (h : DB X ss ρ1 o) (hl : ρ.length = ρ1.length) (hw : ∀ (i : Nat) (d : D), ρ1[i]? = some (some d) → ρ[i]? = some (some d)) : DB X ss ρ o := fun σ W E D q => h σ W (E.weak hl.symm hw) D q
/-- a loop: the turn i begins with the slots so (ρs i); it may return -/
theorem dfor {body : List Stmt} (ρs : Nat → Rho) (rets : Nat → Option D) (hp : PassesOwn (model X.prog X.w) X.A X.env X.xe) (hc : X.calm = true) (hi : DI X tg iter ρ items) (h0 : ρs 0 = ρ)
    (hs : ∀ i d, items[i]? = some d → (∀ j, j < i → rets j = none) → ∃ ρ2, DG X tg (ρs i) d ρ2 ∧ ((rets i = none → DB X body ρ2 (.nx (ρs (i + 1)))) ∧ (∀ r, rets i = some r → DB X body ρ2 (.rt r))))
    (ho : (∃ r i, i < items.length ∧ o = .rt r ∧ rets i = some r ∧ ∀ j, j < i → rets j = none) ∨ (o = .nx (ρs items.length) ∧ ∀ j, j < items.length → rets j = none)) (hfs : ∀ x, foldedSetIterable iter X.env x = pure x := by intro _; rfl) : DS X (.For tg iter body [] pos) ρ o := by
  obtain ⟨wi, pi, hw⟩ := hi.ex
  refine .of (ps_for (g := wG X tg) hp hc pi ⟨fun pins s σ H v u Q I r h => h pins s u I r⟩ (pbW body) hfs) fun σ W E D q => hw σ W E _ fun J W1 G Y e1 w hG hY => ?_
  refine for_it w (fun i σ H => ∃ W2 : Wd, W2.h = H ∧ Le W1 W2 ∧ EnvD X.K W2.s σ (ρs i) ∧ ∀ j, j < i → rets j = none) ⟨W1, rfl, Le.refl _, h0 ▸ E.le e1, fun j hj => absurd hj (Nat.not_lt_zero j)⟩ (fun i σ H _ ⟨W2, hh, le, _⟩ => hG H (hh ▸ le.hh)) (fun i v σ H H' hi ⟨W2, hh, le, E2, hr⟩ y => ?_) fun σ H ⟨W2, hh, le, E2, hr⟩ => ?_
  · subst hh
    obtain ⟨W3, d, rfl, le3, hd, rd⟩ := hY i W2 v _ le y
    obtain ⟨ρ2, ⟨g, pg, hg⟩, hn, hy⟩ := hs i d hd hr
    intro pins s u I ru
    refine pg.run pins s σ W3.h v u _ I ru (hg σ W3 v (E2.le le3) rd _ fun σ' E' => ?_)
    cases hri : rets i with
    | none =>
      refine hn hri σ' W3 E' _ fun σ4 W4 e4 E4 => ⟨W4, rfl, (le.trans le3).trans e4, E4, fun j hj => ?_⟩
      rcases Nat.lt_succ_iff_lt_or_eq.mp hj with z | z
      · exact hr j z
      · exact z ▸ hri
    | some r =>
      refine hy r hri σ' W3 E' _ fun v4 W4 e4 r4 => ?_
      rcases ho with ⟨r', i', hi', rfl, e', hmin⟩ | ⟨_, hall⟩
      · have ei : i = i' := by
          rcases Nat.lt_trichotomy i i' with z | z | z
          · rw [hmin i z] at hri; cases hri
          · exact z
          · rw [hr i' z] at e'; cases e'
        subst ei
        rw [hri] at e'
        cases e'
        exact q v4 W4 (((e1.trans le).trans le3).trans e4) r4
      · rw [hall i hi] at hri; cases hri
  · subst hh
    rcases ho with ⟨r', i', hi', rfl, e', hmin⟩ | ⟨rfl, _⟩
    · rw [hr i' hi'] at e'; cases e'
    · exact q σ W2 (e1.trans le) E2
/-- a loop by a state: it goes on while test; all states at the end have the slots ρ1 -/
theorem dwhile {α : Type} {c : Expr} {body : List Stmt} {ρ1 : Rho} (ρs : α → Rho) (test : α → Bool) (step : α → α) (m : α → Nat) (inv : α → Prop) (s0 : α) (hp : PassesOwn (model X.prog X.w) X.A X.env X.xe) (hc : ∀ s, inv s → DT X c (ρs s) (test s)) (hb : ∀ s, inv s → test s = true → DB X body (ρs s) (.nx (ρs (step s))) ∧ m (step s) < m s ∧ inv (step s))
    (h0 : ρs s0 = ρ) (hi : inv s0) (h1 : ∀ s, inv s → test s = false → ρs s = ρ1) : DS X (.While c body [] pos) ρ (.nx ρ1) := by
  refine .of (ps_while hp (ptW c) (pbW body)) fun σ W E D q => ?_
  refine ⟨fun k σ H => ∃ (W2 : Wd) (s : α), W2.h = H ∧ Le W W2 ∧ EnvD X.K W2.s σ (ρs s) ∧ inv s ∧ k = m s, ⟨m s0, W, s0, rfl, Le.refl _, h0 ▸ E, hi, rfl⟩, ?_⟩
  rintro k σ H ⟨W2, s, rfl, le, E2, is, rfl⟩
  refine hc s is σ W2 E2 _ fun W3 e3 => ?_
  cases ht : test s with
  | true =>
    refine iteT ?_
    obtain ⟨h2, h3, h4⟩ := hb s is ht
    exact ⟨fun σ' H' => ∃ (W2 : Wd), W2.h = H' ∧ Le W W2 ∧ EnvD X.K W2.s σ' (ρs (step s)), fun σ' H' ⟨W4, hh, le4, E4⟩ => ⟨m (step s), h3, W4, step s, hh, le4, E4, h4, rfl⟩, h2 σ W3 (E2.le e3) _ fun σ4 W4 e4 E4 => ⟨W4, rfl, (le.trans e3).trans e4, E4⟩⟩
  | false =>
    refine iteF ?_
    rw [h1 s is ht] at E2
    exact q σ W3 (le.trans e3) (E2.le e3)
end
/-! ### defs -/
theorem ok_of {P : Program} {w : World} {K : PySem.W.Frag} {mg : Str → Option Value} {base : Heap} {x qual : Str} {params : Arguments} {body : List Stmt} {scope : Scope} {f : Addr} {fd : FuncData} {N ps : List Str} {k n : Nat} {S : List D → D → Prop}
    (F : FunD K x qual params body scope [] [] f fd) (hm : mg x = some (.ref f)) (Sc : FnScope N ps scope) (hn : ps.length = n)
    (hbind : ∀ (kV doc pm : Value) (an : Option Addr) (cdv ct : Value) (us : List Value), us.length = ps.length → bindArgs (PySem.W.fnOf x qual params body scope .none kV doc pm an cdv ct) ⟨us, []⟩ = pure (ps.zip us))
    (hbody : ∀ (cdv : Value) (A : Around) (outer : List Env) (s : Shared) (H : Hp) (ds : List D) (d : D) (E : XK), Room k (A.deeper (envOfC qual scope s.heap.objs.size f cdv)) → ds.length = n → S ds d →
      ∃ o, DB (cxOf CX0 P w K mg base N qual scope f cdv A outer s H E).nox body (ds.map some ++ List.replicate (N.length - ds.length) none) o ∧ (o = .rt d ∨ (d = .non ∧ ∃ ρ, o = .nx ρ))) : Ok P w K mg base (k + 1) x n S := by
  have hbnd : L2.Binds K fd ps [] := by
    obtain ⟨oc, od, dV, kV, doc, pm, an, cdv, ct, osl, rfl, lk, hcd, hD, hK⟩ := F.ex
    rcases hD with ⟨_, rfl⟩ | ⟨h, _⟩
    · exact .all (hbind kV doc pm an cdv ct)
    · exact absurd rfl h
  refine ⟨f, fd, ps, hm, F.kp, hbnd, hn, F.ok Sc (fun vs H Q E h => ?_) fun cdv A outer s H vs Q E hr h => ?_⟩
  · obtain ⟨W, ds, d, _, hl, r, _⟩ := h
    rw [r.length, hl, hn]
  · obtain ⟨W, ds, d, rfl, hl, r, hS, q⟩ := h
    obtain ⟨o, hb, ho⟩ := hbody cdv A outer s W.h ds d E hr hl hS
    have hN : ds.length ≤ N.length := by
      have h1 := congrArg List.length Sc.pre
      rw [List.length_take] at h1
      omega
    refine ⟨wB (cxOf CX0 P w K mg base N qual scope f cdv A outer s W.h E).nox body, (pbW body).nox, ?_⟩
    refine hb _ W (EnvD.start r hN) _ ?_
    rcases ho with rfl | ⟨rfl, ρ, rfl⟩
    · exact fun v W2 e2 r2 => q v W2 e2 r2
    · exact fun σ W2 e2 E2 => q .non W2 e2 rfl
section
variable {X : Cx} {ρ : Rho} {a b c : Expr} {es : List Expr} {d : D} {pos : Pos} {o : Out}
theorem de_and_f (ha : DE X a ρ (.bl false)) : DE X (.BoolOp .And (a :: b :: es) pos) ρ (.bl false) := de_and (z := false) ha fun h => (nomatch h)
theorem de_and_t (ha : DE X a ρ (.bl true)) (hb : DE X (.BoolOp .And (b :: es) pos) ρ d) : DE X (.BoolOp .And (a :: b :: es) pos) ρ d :=
  .of (pe_and (peW a) (peW _)) fun σ W E Q q => ha σ W E _ fun v W1 e1 r1 => ⟨true, r1, iteT (hb σ W1 (E.le e1) Q fun v2 W2 e2 r2 => q v2 W2 (e1.trans e2) r2)⟩
theorem de_or_t (ha : DE X a ρ (.bl true)) : DE X (.BoolOp .Or (a :: b :: es) pos) ρ (.bl true) := de_or (z := true) ha fun h => (nomatch h)
theorem de_or_f (ha : DE X a ρ (.bl false)) (hb : DE X (.BoolOp .Or (b :: es) pos) ρ d) : DE X (.BoolOp .Or (a :: b :: es) pos) ρ d :=
  .of (pe_or (peW a) (peW _)) fun σ W E Q q => ha σ W E _ fun v W1 e1 r1 => ⟨false, r1, iteF (hb σ W1 (E.le e1) Q fun v2 W2 e2 r2 => q v2 W2 (e1.trans e2) r2)⟩
theorem dw_and_f (ha : DT X a ρ false) : DW X (.BoolOp .And (a :: b :: es) pos) ρ false := dw_and (z := false) ha fun h => (nomatch h)
theorem dw_and_t {z : Bool} (ha : DT X a ρ true) (hb : DW X (.BoolOp .And (b :: es) pos) ρ z) : DW X (.BoolOp .And (a :: b :: es) pos) ρ z := dw_and (y := true) ha fun _ => hb
theorem dw_or_t (ha : DT X a ρ true) : DW X (.BoolOp .Or (a :: b :: es) pos) ρ true := dw_or (z := true) ha fun h => (nomatch h)
theorem dw_or_f {z : Bool} (ha : DT X a ρ false) (hb : DW X (.BoolOp .Or (b :: es) pos) ρ z) : DW X (.BoolOp .Or (a :: b :: es) pos) ρ z := dw_or (y := false) ha fun _ => hb
theorem dif_t {ss es : List Stmt} (hc : DT X c ρ true) (ha : DB X ss ρ o) : DS X (.If c ss es pos) ρ o := dif hc (fun _ => ha) fun h => (nomatch h)
theorem dif_f {ss es : List Stmt} (hc : DT X c ρ false) (hb : DB X es ρ o) : DS X (.If c ss es pos) ρ o := dif hc (fun h => (nomatch h)) fun _ => hb
theorem de_if_t (hc : DT X c ρ true) (ha : DE X a ρ d) : DE X (.IfExp c a b pos) ρ d := de_if hc (fun _ => ha) fun h => (nomatch h)
theorem de_if_f (hc : DT X c ρ false) (hb : DE X b ρ d) : DE X (.IfExp c a b pos) ρ d := de_if hc (fun h => (nomatch h)) fun _ => hb
end
section
variable {X : Cx} {scope : Scope} {i j : Nat} {x y : Str} {p p2 tp : Pos} {k : Nat}
theorem pgN (nd : X.N.Nodup) (hi : X.N[i]? = some x) (hx : (relS scope X.env.scope).names.lookup x = some .local := by rfl) : Blk X scope fun X' => PG X' (.Name x p) (gName i) := fun s H C cl fp => pg_name (X := X.blk s H scope (compEnvC scope cl C X.env) fp) nd hi (.inl hx) (.inr hx)
theorem pgP (hc : X.calm = true) (nd : X.N.Nodup) (hi : X.N[i]? = some x) (hj : X.N[j]? = some y) (hx : (relS scope X.env.scope).names.lookup x = some .local := by rfl) (hy : (relS scope X.env.scope).names.lookup y = some .local := by rfl) :
    Blk X scope fun X' => PG X' (.Tuple [.Name x p, .Name y p2] k tp) (gTup X.K 2 (gCons (gName i) (gCons (gName j) gNil))) := fun s H C cl fp =>
  pg_tup (X := X.blk s H scope (compEnvC scope cl C X.env) fp) hc (pgs_cons (pg_name nd hi (.inl hx) (.inr hx)) (pgs_cons (pg_name nd hj (.inl hy) (.inr hy)) pgs_nil))
end
end K31
end
section
set_option maxHeartbeats 2000000
set_option autoImplicit false
/-! enumerate of a tuple; a list unpacked. -/
namespace K31
open PySem PySem.Spec PyProof.Rows L2
section
variable {prog : Program} {w : World} {A : Around} {E : Value → Shared → Prop} {s : Shared}
theorem drawsT (hh : A.handled = none) (it l : Addr) (hne : l ≠ it) (items : Array Value) :
    Draws prog w A it [it, l] items.size (fun i v => items[i]? = some v) (fun i h => h.IsTupleIter it l i ∧ h.IsTuple l items) where
  live := fun _ _ st => let ⟨o, ho, _⟩ := st.1; ⟨o, ho⟩
  frame := fun _ _ _ st hk => ⟨st.1.at fun o e => hk it (by simp) o e, let ⟨o, ho, r⟩ := st.2; ⟨o, hk l (by simp) o ho, r⟩⟩
  item := fun i s Q E hi st hQ => by
    refine RZ.nextOf_tuple_item st.1 st.2 (x := items[i]) (by simp [hi]) fun h' hit' hs' => ?_
    refine hQ _ h' s.toks (by simp [hi]) ⟨hit', ?_⟩ hs'
    obtain ⟨o, ho, r⟩ := st.2
    exact ⟨o, (hs'.2 l hne).trans ho, r⟩
  done := fun s Q E st hE => RZ.nextOf_tuple_end hh st.1 st.2 (by simp) hE
theorem meets_enumT (l : Addr) (items : Array Value) :
    Meets (Builtin.«enumerate.__new__» ⟨[.type "enumerate", .ref l], []⟩) (fun _ R s => s.heap.IsTuple l items ∧
      R (.ok (.ret (.ref (s.heap.push { cls := .type "tuple_iterator", data := .fields #[.ref l, .int 0 0] }).objs.size)))
        { s with heap := (s.heap.push { cls := .type "tuple_iterator", data := .fields #[.ref l, .int 0 0] }).push { cls := .type "enumerate", data := .fields #[.none, .bool false, .ref s.heap.objs.size, rawInt 0, .none, .none] } }) :=
  .of_wp fun prog w A R s h => by
    obtain ⟨hp, g, d, tk, os⟩ := s; obtain ⟨hl, h⟩ := h
    have hsub := sub_enumerate
    have hL : Heap.IsTuple (Shared.heap ⟨hp, g, d, tk, os⟩) l items := hl
    obtain ⟨ol, hol, hcl, nl, hdl⟩ := id hL
    wp_walk using wpAny_pyIter_tuple hL, AutoSeq1.wpAny_loadPart' hol
    refine wpAny_stack_any fun st => wpAny_pure ?_
    split
    · rename_i c _ _ _ _ _
      cases (c == Value.type "enumerate")
      · wp_walk using wpAny_pyIter_tuple hL, AutoSeq1.wpAny_loadPart' hol
        exact ⟨_, rfl, h⟩
      · wp_walk using wpAny_pyIter_tuple hL, AutoSeq1.wpAny_loadPart' hol
        exact ⟨_, rfl, h⟩
    · wp_walk using wpAny_pyIter_tuple hL, AutoSeq1.wpAny_loadPart' hol
      exact ⟨_, rfl, h⟩
theorem call_enumT {l : Addr} {items : Array Value} {Q : Value → Shared → Prop} (hL : s.heap.IsTuple l items)
    (h : ∀ h', IsEnum h' (s.heap.objs.size + 1) s.heap.objs.size 0 .none → h'.IsTupleIter s.heap.objs.size l 0 → h'.objs.size = s.heap.objs.size + 2 →
      (∀ b o, s.heap.get? b = some o → h'.get? b = some o) → Q (.ref (s.heap.objs.size + 1)) { s with heap := h' }) :
    wpAny (model prog w) A (call (.type "enumerate") [.ref l]) Q E s := by
  refine callType_new F.called_enumerate (by decide) (F.typeCall_enumerate_1 _) (F.newCall_enumerate_1 _) (fun obj => F.args_object_init_2 obj _) F.entry_enumerate_new
    (meets_enumT l items) ⟨hL, ?_⟩
  have hz : (s.heap.push { cls := .type "tuple_iterator", data := .fields #[.ref l, .int 0 0] }).objs.size = s.heap.objs.size + 1 := Heap.size_push ..
  show _ ∧ _
  rw [hz]
  have he : IsEnum ((s.heap.push { cls := .type "tuple_iterator", data := .fields #[.ref l, .int 0 0] }).push
      { cls := .type "enumerate", data := .fields #[.none, .bool false, .ref s.heap.objs.size, rawInt 0, .none, .none] }) (s.heap.objs.size + 1) s.heap.objs.size 0 .none := by
    have := Heap.get?_push_size (s.heap.push { cls := .type "tuple_iterator", data := .fields #[.ref l, .int 0 0] })
      (o := { cls := .type "enumerate", data := .fields #[.none, .bool false, .ref s.heap.objs.size, rawInt 0, .none, .none] }) rfl
    rw [hz] at this; exact this
  refine ⟨⟨_, he, rfl⟩, h _ he ⟨_, Heap.get?_push_of_some _ (Heap.get?_push_size _ rfl), rfl, rfl⟩ (by rw [Heap.size_push, hz]) fun b o x => Heap.get?_push_of_some _ (Heap.get?_push_of_some _ x)⟩
end
/-- the tuple at a, each item in a new pair -/
def IteT (K : PySem.W.Frag) (a : Addr) : It :=
  ⟨fun i H => ∃ (xs : List V) (x : V), SqT K H a xs ∧ xs[i]? = some x, fun i H v H' => ∃ T x, v = .ref T ∧ H T = none ∧ H' = upd H T (.tup [.int (i : Nat), x]) ∧ ∀ xs, SqT K H a xs → xs[i]? = some x, fun i H => ∃ xs : List V, SqT K H a xs ∧ xs.length = i⟩
theorem turn_enumT {P : Program} {w : World} {K : PySem.W.Frag} {elts : List Expr} {kk : Nat} {tpos : Pos} (a e it : Addr) (hai : a ≠ it) (hae : a ≠ e) :
    Turn P w K (.Tuple elts kk tpos) (IteT K a) [e, it] e (fun i h => (∃ old, IsEnum h e it ((i : Nat) : Int) old) ∧ h.IsTupleIter it a i ∧ e ≠ it) where
  mem := by simp
  obj := fun i h st b hb => by
    obtain ⟨⟨old, he⟩, ⟨o, ho, hc, hd⟩, _⟩ := st
    have e' : b = e ∨ b = it := by simpa using hb
    rcases e' with z | z
    · rw [z]; exact ⟨_, he, fun v q => nomatch q⟩
    · rw [z]; exact ⟨o, ho, fun v q => by rw [hd] at q; cases q⟩
  keep := fun i h h' st k => let ⟨⟨old, he⟩, hi, hne⟩ := st; ⟨⟨old, k e (by simp) _ he⟩, hi.at fun o q => k it (by simp) o q, hne⟩
  item := by
    intro X hP hw hK hc i pins s σ H E I hf st hg
    subst hP hw hK
    obtain ⟨⟨old, he⟩, hit, hne⟩ := st
    obtain ⟨xs, x, hq, hx⟩ := hg
    obtain ⟨its, rv, p, hz⟩ := I.tuple hq
    obtain ⟨u, hu, ru⟩ := rv.get hx
    have hel : e < s.heap.objs.size := Heap.lt_size he
    have hil : it < s.heap.objs.size := by obtain ⟨_, q, _⟩ := hit; exact Heap.lt_size q
    have hlt : i < its.toArray.size := by
      have := (List.getElem?_eq_some_iff.mp hu).1
      simpa using this
    have D : Draws X.prog X.w X.A.in1 it [it, a] its.toArray.size (fun i v => its.toArray[i]? = some v) (fun i h => h.IsTupleIter it a i ∧ h.IsTuple a its.toArray) := drawsT (A := X.A.in1) (I.ok.hd hc) it a hai its.toArray
    refine wpAny_pyNext_enum_itemD D he ⟨hit, p⟩ hlt hne (by simp; exact ⟨hne, Ne.symm hae⟩) fun x' h' tk hx' ho hst' hT hsz hk => ?_
    have ex : x' = u := by
      have h2 : its.toArray[i]? = some u := by simpa using hu
      rw [h2] at hx'; cases hx'; rfl
    subst ex
    obtain ⟨hit', _⟩ := hst'
    refine ⟨_, rfl, wpAny_letOwnedTupleGo_enum (s := { s with heap := h', toks := tk + 1 }) ho fun h'' he' sb => ?_⟩
    have hT2 : h''.get? s.heap.objs.size = some { cls := .type "tuple", data := .seq #[.int i tk, x'] } := (sb.2 _ (Nat.ne_of_gt hel)).trans hT
    have new : ObjOk X.prog X.w (upd H s.heap.objs.size (.tup [.int (i : Nat), x])) h'' s.heap.objs.size (.tup [.int (i : Nat), x]) :=
      ⟨by show 2 ≤ sizeLine; decide, [.int i tk, x'], .cons ⟨_, rfl⟩ (.cons ru .nil), ⟨_, hT2, rfl, _, rfl⟩⟩
    have I1 : Inv X pins σ (upd H s.heap.objs.size (.tup [.int (i : Nat), x])) { s with heap := h'', toks := tk + 1 } :=
      I.turnedNew (ch := [e, it]) (fun b ob hb q => (sb.2 b (fun z => hb (by simp [z]))).trans (hk b ob (fun z => hb (by simp [z])) (fun z => hb (by simp [z])) q)) hf (Nat.le_refl _) new
    refine ⟨.ref s.heap.objs.size, _, I1, rfl, ⟨_, x, rfl, I.hok.fresh (Nat.le_refl _), rfl, fun ys hy => by rw [I.tuple_inj hy hq]; exact hx⟩, ⟨⟨x', ?_⟩, hit'.at fun o q => (sb.2 it (Ne.symm hne)).trans q, hne⟩, fun b hb => ?_⟩
    · have e1 : ((i + 1 : Nat) : Int) = (i : Int) + 1 := by omega
      rw [e1]; exact he'
    · have hb' : b < s.heap.objs.size := by
        have e' : b = e ∨ b = it := by simpa using hb
        rcases e' with z | z
        · rw [z]; exact hel
        · rw [z]; exact hil
      rw [upd_ne (Nat.ne_of_lt hb')]
      exact (hf b hb).1
  done := by
    intro X hP hw hK hc i pins s σ H E I hf st hg
    subst hP hw hK
    obtain ⟨⟨old, he⟩, hit, hne⟩ := st
    obtain ⟨xs, hq, hx⟩ := hg
    obtain ⟨its, rv, p, hz⟩ := I.tuple hq
    obtain ⟨f0, f1, f2, f3, f4, f5⟩ := hf it (by simp)
    have hl := rv.length
    have D : Draws X.prog X.w X.A.in1 it [it, a] its.toArray.size (fun i v => its.toArray[i]? = some v) (fun i h => h.IsTupleIter it a i ∧ h.IsTuple a its.toArray) := drawsT (A := X.A.in1) (I.ok.hd hc) it a hai its.toArray
    have ei : i = its.toArray.size := by simp; omega
    exact wpAny_pyNext_enum_endD D he (by rw [← ei]; exact ⟨hit, p⟩) fun h' eb => ⟨rfl, I.turned (t' := s.toks) (fun b o hb q => eb b o hb q) f0 f1 f3 f4 f5⟩
  self := fun A i s Q E st h => let ⟨⟨_, he⟩, _⟩ := st; wpAny_pyIter_enum he h
def iEnumT (K : PySem.W.Frag) (ta : TA) : TI := fun σ H R => ta σ H fun vs H1 => ∃ a xs, vs = [.ref a] ∧ SqT K H1 a xs ∧ R (IteT K a) H1
theorem pi_enumT {X : Cx} {e : Expr} {ta : TA} {p pos tpos : Pos} {elts : List Expr} {kk : Nat} (hg : Gl X "enumerate") (hm : X.mg "enumerate" = none) (ha : PA X [e] ta) (hs : starEach [e] X.env = [(false, eval e X.env)] := by rfl) :
    PI X (.Tuple elts kk tpos) (.Call (.Name "enumerate" p) [e] [] pos) (iEnumT X.K ta) := by
  refine ⟨fun pins s σ H R I h => ?_⟩
  refine Call_ (ld_blt I hg hm boot_enumerate (PyProof.Rows.callWith_type1 (thn (ha.run pos pins s σ H _ I h) fun us s1 ⟨vs, H1, I1, r1, q1⟩ => ?_) hs rfl))
  obtain ⟨a, xs, ex, hq, q⟩ := q1
  subst ex
  cases r1 with
  | cons r rr =>
    cases rr
    cases r
    obtain ⟨its, rv, p', hz⟩ := I1.tuple hq
    obtain ⟨oa, hoa, _⟩ := id p'
    have hla : a < s1.heap.objs.size := Heap.lt_size hoa
    refine call_enumT (show s1.heap.IsTuple a its.toArray from p') fun h' he hit hsz hk => wpAny_pyIter_enum he ?_
    have I2 : Inv X pins σ H1 { s1 with heap := h' } := I1.kept (t' := s1.toks) hk
    refine ⟨s1.heap.objs.size + 1, [s1.heap.objs.size + 1, s1.heap.objs.size], _, _, H1, rfl, I2, turn_enumT a (s1.heap.objs.size + 1) s1.heap.objs.size (Nat.ne_of_lt hla) (Nat.ne_of_lt (Nat.lt_succ_of_lt hla)), ⟨⟨.none, he⟩, hit, Nat.succ_ne_self _⟩, fun b hb => ?_, q⟩
    have e' : b = s1.heap.objs.size + 1 ∨ b = s1.heap.objs.size := by simpa using hb
    have hle : s1.heap.objs.size ≤ b := by
      rcases e' with z | z
      · rw [z]; exact Nat.le_add_right _ _
      · rw [z]; exact Nat.le_refl _
    exact I1.fpOk hle (I1.hok.fresh hle)
theorem walk_enumT {K : PySem.W.Frag} {a : Addr} {xs : List V} : Walk (IteT K a) xs.length (fun H => SqT K H a xs) (YPair (fun i => some (.int (i : Nat))) (fun i => xs[i]?)) := by
  refine ⟨fun i _ hi q => ?_, fun _ q => ⟨xs, q, rfl⟩, fun i H v H' _ q y => ?_⟩
  · exact ⟨xs, xs[i], q, by simp [hi]⟩
  · obtain ⟨T, x, h1, h2, h3, h4⟩ := y
    exact ⟨T, .int (i : Nat), x, h1, h2, h3, rfl, h4 xs q⟩
section
variable {X : Cx} {ρ ρ' : Rho} {a : Expr} {ds : List D} {d : D} {pos : Pos}
theorem diET {p pos tpos : Pos} {elts : List Expr} {kk : Nat} (hm : X.mg "enumerate" = none) (h : DE X a ρ (.tup ds)) (hg : Gl X "enumerate" := by rfl) (hs : starEach [a] X.env = [(false, eval a X.env)] := by rfl) :
    DI X (.Tuple elts kk tpos) (.Call (.Name "enumerate" p) [a] [] pos) ρ (enumD ds) := ⟨_, pi_enumT hg hm (pa_cons (peW a) pa_nil hs) hs, fun σ W E R q => h σ W E _ fun v W1 e1 r1 => by
  obtain ⟨p1, xs, rfl, a2, a3⟩ := r1
  exact ⟨p1, xs, rfl, Wd.sqT a2, q _ W1 _ _ e1 (by rw [enumD_length, ← a3.length]; exact walk_enumT (xs := xs)) (fun H' s => Same.sqT s (Wd.sqT a2)) fun i W3 v Hb e3 y => enum_give a3 e3 y⟩⟩
theorem dgL {tgs : List Expr} {k n : Nat} {tpos : Pos} (hc : X.calm = true) (h : DGs X tgs ρ ds ρ') (hl : ds.length = n := by rfl) (hn : (assignEach tgs X.env).length = n := by rfl) (hst : (assignEach tgs X.env).findIdx? (·.1) = none := by rfl) : DG X (.Tuple tgs k tpos) ρ (.lst ds) ρ' := by
  obtain ⟨g, p, q⟩ := h
  refine ⟨_, pg_lst hc p hn hst, fun σ W v E r Q qq => ?_⟩
  obtain ⟨a, xs, rfl, h2, h3⟩ := r
  exact ⟨a, xs, rfl, Wd.seq h2, by rw [h3.length]; exact hl, q σ W xs E h3 Q qq⟩
theorem dgS {tgs : List Expr} {k n : Nat} {tpos : Pos} (hc : X.calm = true) (hd : d.items = some ds) (h : DGs X tgs ρ ds ρ') (hl : ds.length = n := by rfl) (hn : (assignEach tgs X.env).length = n := by rfl) (hst : (assignEach tgs X.env).findIdx? (·.1) = none := by rfl) : DG X (.Tuple tgs k tpos) ρ d ρ' := by
  cases d with
  | lst es => cases hd; exact dgL hc h hl hn hst
  | tup es => cases hd; exact dgT hc h hl hn hst
  | _ => cases hd
/-- walked: a list or a tuple -/
theorem diS {tg : Expr} (h : DE X a ρ d) (hd : d.items = some ds) : DI X tg a ρ ds := by
  cases d with
  | lst es => cases hd; exact diL h
  | tup es => cases hd; exact diT h
  | _ => cases hd
theorem diES {p pos tpos : Pos} {elts : List Expr} {kk : Nat} (hm : X.mg "enumerate" = none) (h : DE X a ρ d) (hd : d.items = some ds) (hg : Gl X "enumerate" := by rfl) (hs : starEach [a] X.env = [(false, eval a X.env)] := by rfl) :
    DI X (.Tuple elts kk tpos) (.Call (.Name "enumerate" p) [a] [] pos) ρ (enumD ds) := by
  cases d with
  | lst es => cases hd; exact diEL hm h hg hs
  | tup es => cases hd; exact diET hm h hg hs
  | _ => cases hd
end
end K31
end
section
set_option maxHeartbeats 2000000
set_option autoImplicit false
/-! The forward layer with objects that change: what they hold is told beside the slots. -/
namespace K31
open PySem PySem.Spec PyProof.Rows L2
/-- what an object that changes holds -/
inductive MO where
  | lst (ds : List D) | dK (ks : List Int) (ds : List D) | dT (ks : List (List Int)) (ds : List D) | ins (C dx : Addr) (ns : List Str) (ds : List D)
abbrev Mu := List (Addr × MO)
def kI (k : Int) : Key := Sum.inl k
def kT (k : List Int) : List Key := k.map fun i => (Sum.inl i : Key)
def MO.At (K : PySem.W.Frag) (W : Wd) (a : Addr) : MO → Prop
  | .lst ds => ∃ xs, W.h a = some (.lst xs) ∧ RpL K W.s ds xs
  | .dK ks ds => ∃ xs, W.h a = some (.dK ((ks.map fun k => (Sum.inl k : Key)).zip xs)) ∧ RpL K W.s ds xs ∧ ks.length = ds.length
  | .dT ks ds => ∃ xs, W.h a = some (.dT ((ks.map fun k => k.map fun i => (Sum.inl i : Key)).zip xs)) ∧ RpL K W.s ds xs ∧ ks.length = ds.length
  | .ins C dx ns ds => ∃ xs, W.h a = some (.ins C dx (ns.zip xs)) ∧ RpL K W.s ds xs ∧ ns.length = ds.length
structure MOk (K : PySem.W.Frag) (W : Wd) (m : Mu) : Prop where
  at_ : ∀ p ∈ m, W.s p.1 = none ∧ p.2.At K W p.1
  nd : (m.map (·.1)).Nodup
/-- from a world on: what is in m may be changed, m' is there behind it -/
structure LeM (m m' : Mu) (W W' : Wd) : Prop where
  hh : ∀ b o, (∀ p ∈ m, p.1 ≠ b) → W.h b = some o → W'.h b = some o
  th : ∀ b, W.h b ≠ none → W'.h b ≠ none
  ss : Same W.s W'.s
  new : ∀ b, (∀ p ∈ m, p.1 ≠ b) → W.h b ≠ none → W.s b = none → W'.s b = none ∨ ∃ xs, W.h b = some (.tup xs)
  gr : ∀ p ∈ m', (∃ q ∈ m, q.1 = p.1) ∨ W.h p.1 = none
theorem MO.At.ne {K : PySem.W.Frag} {W : Wd} {a : Addr} {o : MO} (h : o.At K W a) : W.h a ≠ none := by
  cases o with
  | lst ds => obtain ⟨xs, e, _⟩ := h; rw [e]; exact fun z => nomatch z
  | dK ks ds => obtain ⟨xs, e, _⟩ := h; rw [e]; exact fun z => nomatch z
  | dT ks ds => obtain ⟨xs, e, _⟩ := h; rw [e]; exact fun z => nomatch z
  | ins C dx ns ds => obtain ⟨xs, e, _⟩ := h; rw [e]; exact fun z => nomatch z
theorem MO.At.nt {K : PySem.W.Frag} {W : Wd} {a : Addr} {o : MO} (h : o.At K W a) (xs : List V) : W.h a ≠ some (.tup xs) := by
  cases o with
  | lst ds => obtain ⟨ys, e, _⟩ := h; rw [e]; exact fun z => nomatch z
  | dK ks ds => obtain ⟨ys, e, _⟩ := h; rw [e]; exact fun z => nomatch z
  | dT ks ds => obtain ⟨ys, e, _⟩ := h; rw [e]; exact fun z => nomatch z
  | ins C dx ns ds => obtain ⟨ys, e, _⟩ := h; rw [e]; exact fun z => nomatch z
theorem MO.At.to {K : PySem.W.Frag} {W W' : Wd} {a : Addr} {o : MO} (h : o.At K W a) (hh : W'.h a = W.h a) (ss : Same W.s W'.s) : o.At K W' a := by
  cases o with
  | lst ds => obtain ⟨xs, e, r⟩ := h; exact ⟨xs, hh.trans e, RpL.mono ss _ _ r⟩
  | dK ks ds => obtain ⟨xs, e, r, l⟩ := h; exact ⟨xs, hh.trans e, RpL.mono ss _ _ r, l⟩
  | dT ks ds => obtain ⟨xs, e, r, l⟩ := h; exact ⟨xs, hh.trans e, RpL.mono ss _ _ r, l⟩
  | ins C dx ns ds => obtain ⟨xs, e, r, l⟩ := h; exact ⟨xs, hh.trans e, RpL.mono ss _ _ r, l⟩
theorem ne_some {α : Type} {o : Option α} (h : o ≠ none) : ∃ x, o = some x := by
  cases o with
  | none => exact absurd rfl h
  | some x => exact ⟨x, rfl⟩
theorem Le.toM {W W' : Wd} (m : Mu) (e : Le W W') : LeM m m W W' := ⟨fun b o _ h => e.hh b o h, fun b h => by
  obtain ⟨x, q⟩ := ne_some h
  rw [e.hh b x q]
  exact (fun z => nomatch z), e.ss, fun b _ => e.new b, fun p hp => Or.inl ⟨p, hp, rfl⟩⟩
theorem MOk.le {K : PySem.W.Frag} {W W' : Wd} {m : Mu} (h : MOk K W m) (e : Le W W') : MOk K W' m := ⟨fun p hp => by
  obtain ⟨h1, h2⟩ := h.at_ p hp
  have h3 := h2.ne
  have h4 : W'.s p.1 = none := by
    rcases e.new _ h3 h1 with q | ⟨xs, q⟩
    · exact q
    · exact absurd q (h2.nt xs)
  refine ⟨h4, h2.to ?_ e.ss⟩
  obtain ⟨x, q⟩ := ne_some h3
  rw [e.hh _ x q, q], h.nd⟩
theorem LeM.refl (m : Mu) (W : Wd) : LeM m m W W := (Le.refl W).toM m
theorem LeM.trans {m m1 m2 : Mu} {W W1 W2 : Wd} (a : LeM m m1 W W1) (b : LeM m1 m2 W1 W2) : LeM m m2 W W2 := by
  have out : ∀ c, (∀ p ∈ m, p.1 ≠ c) → W.h c ≠ none → ∀ p ∈ m1, p.1 ≠ c := fun c hc hn p hp e => by
    rcases a.gr p hp with ⟨q, hq, e2⟩ | z
    · exact hc q hq (e2.trans e)
    · exact hn (e ▸ z)
  refine ⟨fun c o hc h => b.hh c o (out c hc (by rw [h]; exact fun z => nomatch z)) (a.hh c o hc h), fun c h => b.th c (a.th c h), a.ss.trans b.ss, fun c hc hn h => ?_, fun p hp => ?_⟩
  · rcases a.new c hc hn h with q | q
    · rcases b.new c (out c hc hn) (a.th c hn) q with r | ⟨xs, r⟩
      · exact .inl r
      · obtain ⟨o, ho⟩ := ne_some hn
        rw [a.hh c o hc ho] at r
        cases r
        exact .inr ⟨xs, ho⟩
    · exact .inr q
  rcases b.gr p hp with ⟨q, hq, e⟩ | z
  · rcases a.gr q hq with ⟨q2, hq2, e2⟩ | z
    · exact .inl ⟨q2, hq2, e2.trans e⟩
    · exact .inr (e ▸ z)
  · refine .inr ?_
    cases h : W.h p.1 with
    | none => rfl
    | some x => exact absurd z (a.th _ (by rw [h]; exact fun z => nomatch z))

def EM (X : Cx) (e : Expr) (ρ : Rho) (m : Mu) (S : D → Mu → Prop) : Prop := ∀ σ (W : Wd), EnvD X.K W.s σ ρ → MOk X.K W m → ∀ Q : VK, (∀ d m' v W2, S d m' → LeM m m' W W2 → MOk X.K W2 m' → Rp X.K W2.s d v → Q v W2.h) → wE X e σ W.h Q
def TM (X : Cx) (e : Expr) (ρ : Rho) (m : Mu) (S : Bool → Mu → Prop) : Prop := ∀ σ (W : Wd), EnvD X.K W.s σ ρ → MOk X.K W m → ∀ Q : Bool → Hp → Prop, (∀ b m' W2, S b m' → LeM m m' W W2 → MOk X.K W2 m' → Q b W2.h) → wT X e σ W.h Q
def AM (X : Cx) (es : List Expr) (ρ : Rho) (m : Mu) (S : List D → Mu → Prop) : Prop := ∀ σ (W : Wd), EnvD X.K W.s σ ρ → MOk X.K W m → ∀ Q : List V → Hp → Prop, (∀ ds m' vs W2, S ds m' → LeM m m' W W2 → MOk X.K W2 m' → RpL X.K W2.s ds vs → Q vs W2.h) → wA X es σ W.h Q
def outM (K : PySem.W.Frag) (W : Wd) (m : Mu) (D : Ends) (R : K31.D → Mu → Prop) (N : Rho → Mu → Prop) : Prop :=
  (∀ d m' v W2, R d m' → LeM m m' W W2 → MOk K W2 m' → Rp K W2.s d v → D.rt v W2.h) ∧ (∀ ρ' m' σ' W2, N ρ' m' → LeM m m' W W2 → MOk K W2 m' → EnvD K W2.s σ' ρ' → D.nx σ' W2.h)
def SM (X : Cx) (st : Stmt) (ρ : Rho) (m : Mu) (R : D → Mu → Prop) (N : Rho → Mu → Prop) : Prop := ∀ σ (W : Wd), EnvD X.K W.s σ ρ → MOk X.K W m → ∀ D : Ends, outM X.K W m D R N → wS X st D σ W.h
def BM (X : Cx) (ss : List Stmt) (ρ : Rho) (m : Mu) (R : D → Mu → Prop) (N : Rho → Mu → Prop) : Prop := ∀ σ (W : Wd), EnvD X.K W.s σ ρ → MOk X.K W m → ∀ D : Ends, outM X.K W m D R N → wB X ss D σ W.h
theorem outM.on {K : PySem.W.Frag} {W W1 : Wd} {m m1 : Mu} {D : Ends} {R : K31.D → Mu → Prop} {N : Rho → Mu → Prop} (h : outM K W m D R N) (e : LeM m m1 W W1) : outM K W1 m1 D R N :=
  ⟨fun d m' v W2 hr le ok r => h.1 d m' v W2 hr (e.trans le) ok r, fun ρ' m' σ' W2 hn le ok E => h.2 ρ' m' σ' W2 hn (e.trans le) ok E⟩
theorem outM.imp {K : PySem.W.Frag} {W : Wd} {m : Mu} {D : Ends} {R R' : K31.D → Mu → Prop} {N N' : Rho → Mu → Prop} (h : outM K W m D R N) (hR : ∀ d m, R' d m → R d m) (hN : ∀ ρ m, N' ρ m → N ρ m) : outM K W m D R' N' :=
  ⟨fun d m' v W2 hr => h.1 d m' v W2 (hR _ _ hr), fun ρ' m' σ' W2 hn => h.2 ρ' m' σ' W2 (hN _ _ hn)⟩
section
variable {X : Cx} {ρ ρ' : Rho} {m : Mu} {e a b c : Expr} {es : List Expr} {S S' : D → Mu → Prop} {R R' : D → Mu → Prop} {N N' : Rho → Mu → Prop} {pos : Pos} {d : D} {ss : List Stmt} {st : Stmt}
theorem EnvD.mm {K : PySem.W.Frag} {W W2 : Wd} {σ : L2.St} {ρ : Rho} {m m' : Mu} (h : EnvD K W.s σ ρ) (e : LeM m m' W W2) : EnvD K W2.s σ ρ := h.mono e.ss
theorem Rp.mm {K : PySem.W.Frag} {W W2 : Wd} {d : D} {v : V} {m m' : Mu} (h : Rp K W.s d v) (e : LeM m m' W W2) : Rp K W2.s d v := Rp.mono e.ss d v h
theorem RpL.mm {K : PySem.W.Frag} {W W2 : Wd} {ds : List D} {v : List V} {m m' : Mu} (h : RpL K W.s ds v) (e : LeM m m' W W2) : RpL K W2.s ds v := RpL.mono e.ss ds v h
/-! ### expressions -/
theorem em (h : DE X e ρ d) (hS : S d m) : EM X e ρ m S := fun σ W E M Q q => h σ W E Q fun v W2 le r => q d m v W2 hS (le.toM m) (M.le le) r
theorem EM.imp (h : EM X e ρ m S) (hs : ∀ d m, S d m → S' d m) : EM X e ρ m S' := fun σ W E M Q q => h σ W E M Q fun d m' v W2 s => q d m' v W2 (hs _ _ s)
theorem BM.imp (h : BM X ss ρ m R N) (hR : ∀ d m, R d m → R' d m) (hN : ∀ ρ m, N ρ m → N' ρ m) : BM X ss ρ m R' N' := fun σ W E M D o => h σ W E M D (o.imp hR hN)
theorem am {ds : List D} {S : List D → Mu → Prop} (h : DA X es ρ ds) (hS : S ds m) : AM X es ρ m S := fun σ W E M Q q => h σ W E Q fun v W2 le r => q ds m v W2 hS (le.toM m) (M.le le) r
theorem am0 {S : List D → Mu → Prop} (hS : S [] m) : AM X [] ρ m S := am danil hS
theorem am1 {S : List D → Mu → Prop} (h : EM X e ρ m fun d m1 => AM X es ρ m1 fun ds m2 => S (d :: ds) m2) (hs : starEach (e :: es) X.env = (false, eval e X.env) :: starEach es X.env := by rfl) : AM X (e :: es) ρ m S := fun σ W E M Q q pos pins s I =>
  (pa_cons (peW e) (paW es) hs).run pos pins s σ W.h Q I (h σ W E M _ fun d m1 v W1 hS le M1 r => hS σ W1 (E.mm le) M1 _ fun ds m2 vs W2 hS2 le2 M2 r2 => q (d :: ds) m2 (v :: vs) W2 hS2 (le.trans le2) M2 ⟨v, vs, rfl, r.mm le2, r2⟩)
theorem EM.bin {op : Operator} {r : R2} (ho : OpR X (binaryOp op) r) (h : EM X a ρ m fun d1 m1 => EM X b ρ m1 fun d2 m2 => ∃ d, (∀ x y (W : Wd), Rp X.K W.s d1 x → Rp X.K W.s d2 y → ∀ Q : VK, (∀ v W2, Le W W2 → Rp X.K W2.s d v → Q v W2.h) → r x y W.h Q) ∧ S d m2) : EM X (.BinOp a op b pos) ρ m S := fun σ W E M Q q pins s I =>
  (pe_op ho (peW a) (peW b)).run pins s σ W.h Q I (h σ W E M _ fun d1 m1 v W1 hS le M1 r1 => hS σ W1 (E.mm le) M1 _ fun d2 m2 u W2 ⟨d, hd, hS2⟩ le2 M2 r2 => hd v u W2 (r1.mm le2) r2 Q fun z W3 e3 r3 => q d m2 z W3 hS2 ((le.trans le2).trans (e3.toM m2)) (M2.le e3) r3)
def isI (S : Int → Int → Mu → Prop) (d1 d2 : D) (m : Mu) : Prop := ∃ i j, d1 = .int i ∧ d2 = .int j ∧ S i j m
theorem em_add (h : EM X a ρ m fun d1 m1 => EM X b ρ m1 (isI (fun i j m2 => S (.int (i + j)) m2) d1)) : EM X (.BinOp a .Add b pos) ρ m S :=
  .bin op_add (h.imp fun d1 m1 h2 => h2.imp fun d2 m2 ⟨i, j, e1, e2, hS⟩ => ⟨.int (i + j), fun x y W hx hy Q q => ⟨i, j, by rw [e1] at hx; exact hx, by rw [e2] at hy; exact hy, q _ W (Le.refl W) rfl⟩, hS⟩)
theorem em_sub (h : EM X a ρ m fun d1 m1 => EM X b ρ m1 (isI (fun i j m2 => S (.int (i - j)) m2) d1)) : EM X (.BinOp a .Sub b pos) ρ m S :=
  .bin op_sub (h.imp fun d1 m1 h2 => h2.imp fun d2 m2 ⟨i, j, e1, e2, hS⟩ => ⟨.int (i - j), fun x y W hx hy Q q => ⟨i, j, by rw [e1] at hx; exact hx, by rw [e2] at hy; exact hy, q _ W (Le.refl W) rfl⟩, hS⟩)
theorem tm_ptOp {op : CmpOp} {a b : Expr} {pos : Pos} {ta tb : TE} (hm : behindInMarks op b = false) (ha : PE X a ta) (hb : PE X b tb) : PT X (.Compare a [op] [b] pos) (fun σ H Q => ta σ H fun x H1 => tb σ H1 fun y H2 => ∃ r : R2, OpR X (compareOp op) r ∧ r x y H2 fun x H' => ∃ k, x = .bl k ∧ Q k H') := by
  refine ⟨fun pins s σ H Q I h => ?_⟩
  refine wpAny_isTrue_Compare1 (thn (ha.run pins s σ H _ I h) fun v s1 ⟨x, H1, I1, r1, q1⟩ => thn (hb.run pins s1 σ H1 _ I1 q1) fun u s2 ⟨y, H2, I2, r2, r, ho, q2⟩ =>
    thn (ho pins s2 σ H2 x y v u _ I2 r1 r2 q2) fun c s3 ⟨z, H3, I3, r3, k, e, q3⟩ => ?_) hm
  subst e
  cases r3
  exact wpAny_truthy_bool ⟨H3, I3, q3⟩
theorem TM.cmp {op : CmpOp} {S : Bool → Mu → Prop} (h : EM X a ρ m fun d1 m1 => EM X b ρ m1 fun d2 m2 => ∃ z, CmpD X op d1 d2 z ∧ S z m2) (hm : behindInMarks op b = false := by exact nomark _) : TM X (.Compare a [op] [b] pos) ρ m S := fun σ W E M Q q pins s I => by
  -- the operator's reading depends on the data: by each data's own relation
  refine (tm_ptOp hm (peW a) (peW b)).run pins s σ W.h Q I (h σ W E M _ fun d1 m1 v W1 hS le M1 r1 => hS σ W1 (E.mm le) M1 _ fun d2 m2 u W2 ⟨z, hc, hS2⟩ le2 M2 r2 => ?_)
  obtain ⟨r, ho, hr⟩ := hc.ex
  exact ⟨r, ho, hr v u W2 (r1.mm le2) r2 _ ⟨z, rfl, q z m2 W2 hS2 (le.trans le2) M2⟩⟩
theorem em_if (h : TM X c ρ m fun z m1 => (z = true → EM X a ρ m1 S) ∧ (z = false → EM X b ρ m1 S)) : EM X (.IfExp c a b pos) ρ m S := fun σ W E M Q q pins s I =>
  (pe_ifExp (ptW c) (peW a) (peW b)).run pins s σ W.h Q I (h σ W E M _ fun z m1 W1 ⟨h1, h2⟩ le M1 => by
    cases z with
    | true => exact iteT (h1 rfl σ W1 (E.mm le) M1 Q fun d m2 v W2 hS le2 M2 r => q d m2 v W2 hS (le.trans le2) M2 r)
    | false => exact iteF (h2 rfl σ W1 (E.mm le) M1 Q fun d m2 v W2 hS le2 M2 r => q d m2 v W2 hS (le.trans le2) M2 r))
theorem tm {S : Bool → Mu → Prop} {z : Bool} (h : DT X c ρ z) (hS : S z m) : TM X c ρ m S := fun σ W E M Q q => h σ W E Q fun W2 le => q z m W2 hS (le.toM m) (M.le le)
theorem TM.imp {S S' : Bool → Mu → Prop} (h : TM X c ρ m S) (hs : ∀ z m, S z m → S' z m) : TM X c ρ m S' := fun σ W E M Q q => h σ W E M Q fun d m' W2 s => q d m' W2 (hs _ _ s)
theorem tm_not {S : Bool → Mu → Prop} (h : TM X a ρ m fun z m1 => S (!z) m1) : TM X (.UnaryOp .Not a pos) ρ m S := fun σ W E M Q q pins s I => (pt_not (ptW a)).run pins s σ W.h _ I (h σ W E M _ fun z m1 W1 hS le M1 => q (!z) m1 W1 hS le M1)
def WM (X : Cx) (e : Expr) (ρ : Rho) (m : Mu) (S : Bool → Mu → Prop) : Prop := ∀ σ (W : Wd), EnvD X.K W.s σ ρ → MOk X.K W m → ∀ Q : Bool → Hp → Prop, (∀ b m' W2, S b m' → LeM m m' W W2 → MOk X.K W2 m' → Q b W2.h) → wW X e σ W.h Q
theorem tm_w {S : Bool → Mu → Prop} (h : WM X c ρ m S) : TM X c ρ m S := fun σ W E M Q q pins s I => h σ W E M Q q _ pins s I
theorem wm_and {S : Bool → Mu → Prop} (h : TM X a ρ m fun z m1 => (z = true → WM X (.BoolOp .And (b :: es) pos) ρ m1 S) ∧ (z = false → S false m1)) : WM X (.BoolOp .And (a :: b :: es) pos) ρ m S := fun σ W E M Q q whole pins s I =>
  (pw_and (ptW a) (pwW _)).run whole pins s σ W.h Q I (h σ W E M _ fun z m1 W1 ⟨h1, h2⟩ le M1 => by
    cases z with
    | true => exact iteT (h1 rfl σ W1 (E.mm le) M1 Q fun z2 m2 W2 hS le2 M2 => q z2 m2 W2 hS (le.trans le2) M2)
    | false => exact iteF (q false m1 W1 (h2 rfl) le M1))
theorem wm_and1 {S : Bool → Mu → Prop} (h : TM X a ρ m S) : WM X (.BoolOp .And [a] pos) ρ m S := fun σ W E M Q q whole pins s I => (pw_and1 (ptW a)).run whole pins s σ W.h Q I (h σ W E M Q q)
theorem em_tup {k} (h : AM X es ρ m fun ds m1 => ds.length ≤ 1000 ∧ S (.tup ds) m1) : EM X (.Tuple es k pos) ρ m S := fun σ W E M Q q pins s I =>
  (pe_tup (paW es)).run pins s σ W.h Q I (h σ W E M _ fun ds m1 vs W1 ⟨hl, hS⟩ le M1 r1 => ⟨by rw [r1.length]; exact sz_le hl, fun p hp => q (.tup ds) m1 (.ref p) (W1.new p (.tup vs)) hS (le.trans ((Le.new1 hp).toM m1)) (M1.le (Le.new1 hp)) ⟨p, vs, rfl, .inl (.inl Wd.at_), RpL.le (Le.new1 hp) r1⟩⟩)
theorem em_lst (h : AM X es ρ m fun ds m1 => ds.length ≤ 1000 ∧ S (.lst ds) m1) : EM X (.List es pos) ρ m S := fun σ W E M Q q pins s I =>
  (pe_lst (paW es)).run pins s σ W.h Q I (h σ W E M _ fun ds m1 vs W1 ⟨hl, hS⟩ le M1 r1 => ⟨by rw [r1.length]; exact sz_le hl, fun p hp => q (.lst ds) m1 (.ref p) (W1.new p (.lst vs)) hS (le.trans ((Le.new1 hp).toM m1)) (M1.le (Le.new1 hp)) ⟨p, vs, rfl, .inl (.inl Wd.at_), RpL.le (Le.new1 hp) r1⟩⟩)
/-- a pure def of the text, its arguments may change things -/
theorem em_call {k n : Nat} {x : Str} {p : Pos} {S0 : List D → D → Prop} (F : Ok X.prog X.w X.K X.mg X.base k x n S0) (hr : Room k X.A) (h : AM X (e :: es) ρ m fun ds m1 => ∃ d, ds.length = n ∧ S0 ds d ∧ S d m1) (hg : Gl X x := by rfl)
    (hdb : (x == ("__debug__" : Str)) = false := by decide) (he : starEach (e :: es) X.env = (false, eval e X.env) :: starEach es X.env := by rfl) (hpl : (backTo pos (starEach es X.env)).any (·.1) = false := by rfl) : EM X (.Call (.Name x p) (e :: es) [] pos) ρ m S := by
  obtain ⟨f, fd, ps, hm, hk, hb, hl, ok⟩ := F.ex
  refine fun σ W E M Q q pins s I => (pe_call ok hr hg hm hk hb .nil (pass0 (X := X)) (paW (e :: es)) hdb he hpl).run pins s σ W.h Q I (h σ W E M _ fun ds m1 vs W1 ⟨d, hn, hS0, hS⟩ le M1 r1 => ?_)
  exact ⟨W1, ds, d, rfl, hn, by rw [List.append_nil]; exact r1, hS0, fun v W2 e2 r2 => q d m1 v W2 hS (le.trans (e2.toM m1)) (M1.le e2) r2⟩
/-- the promise of a def that changes things: F tells, by the arguments and what is there, that the end is within S -/
def spM (K : PySem.W.Frag) (F : List D → Mu → (D → Mu → Prop) → Prop) (n : Nat) : Sp := fun vs H Q _ => ∃ (W : Wd) (ds : List D) (m : Mu) (S : D → Mu → Prop), W.h = H ∧ ds.length = n ∧ RpL K W.s ds vs ∧ MOk K W m ∧ F ds m S ∧ ∀ d m' v W2, S d m' → LeM m m' W W2 → MOk K W2 m' → Rp K W2.s d v → Q v W2.h
structure OkM (P : Program) (w : World) (K : PySem.W.Frag) (mg : Str → Option Value) (base : Heap) (k : Nat) (x : Str) (n : Nat) (F : List D → Mu → (D → Mu → Prop) → Prop) : Prop where
  ex : ∃ (f : Addr) (fd : FuncData) (ps : List Str), mg x = some (.ref f) ∧ PySem.W.keepIn K (.ref f) = true ∧ L2.Binds K fd ps [] ∧ ps.length = n ∧ FnOk P w K mg base CX0 k f fd ps (spM K F n)
theorem em_callM {k n : Nat} {x : Str} {p : Pos} {F0 : List D → Mu → (D → Mu → Prop) → Prop} (F : OkM X.prog X.w X.K X.mg X.base k x n F0) (hr : Room k X.A) (h : AM X (e :: es) ρ m fun ds m1 => ds.length = n ∧ F0 ds m1 S) (hg : Gl X x := by rfl)
    (hdb : (x == ("__debug__" : Str)) = false := by decide) (he : starEach (e :: es) X.env = (false, eval e X.env) :: starEach es X.env := by rfl) (hpl : (backTo pos (starEach es X.env)).any (·.1) = false := by rfl) : EM X (.Call (.Name x p) (e :: es) [] pos) ρ m S := by
  obtain ⟨f, fd, ps, hm, hk, hb, hl, ok⟩ := F.ex
  refine fun σ W E M Q q pins s I => (pe_call ok hr hg hm hk hb .nil (pass0 (X := X)) (paW (e :: es)) hdb he hpl).run pins s σ W.h Q I (h σ W E M _ fun ds m1 vs W1 ⟨hn, hF⟩ le M1 r1 => ?_)
  exact ⟨W1, ds, m1, S, rfl, hn, by rw [List.append_nil]; exact r1, M1, hF, fun d m2 v W2 hS e2 M2 r2 => q d m2 v W2 hS (le.trans e2) M2 r2⟩
theorem okM_of {P : Program} {w : World} {K : PySem.W.Frag} {mg : Str → Option Value} {base : Heap} {x qual : Str} {params : Arguments} {body : List Stmt} {scope : Scope} {f : Addr} {fd : FuncData} {N ps : List Str} {k n : Nat} {F0 : List D → Mu → (D → Mu → Prop) → Prop}
    (F : FunD K x qual params body scope [] [] f fd) (hm : mg x = some (.ref f)) (Sc : FnScope N ps scope) (hn : ps.length = n)
    (hbind : ∀ (kV doc pm : Value) (an : Option Addr) (cdv ct : Value) (us : List Value), us.length = ps.length → bindArgs (PySem.W.fnOf x qual params body scope .none kV doc pm an cdv ct) ⟨us, []⟩ = pure (ps.zip us))
    (hbody : ∀ (cdv : Value) (A : Around) (outer : List Env) (s : Shared) (H : Hp) (ds : List D) (m : Mu) (S : D → Mu → Prop) (E : XK), Room k (A.deeper (envOfC qual scope s.heap.objs.size f cdv)) → ds.length = n → F0 ds m S →
      BM (cxOf CX0 P w K mg base N qual scope f cdv A outer s H E).nox body (ds.map some ++ List.replicate (N.length - ds.length) none) m S fun _ m' => S .non m') : OkM P w K mg base (k + 1) x n F0 := by
  have hbnd : L2.Binds K fd ps [] := by
    obtain ⟨oc, od, dV, kV, doc, pm, an, cdv, ct, osl, rfl, lk, hcd, hD, hK⟩ := F.ex
    rcases hD with ⟨_, rfl⟩ | ⟨h, _⟩
    · exact .all (hbind kV doc pm an cdv ct)
    · exact absurd rfl h
  refine ⟨f, fd, ps, hm, F.kp, hbnd, hn, F.ok Sc (fun vs H Q E h => ?_) fun cdv A outer s H vs Q E hr h => ?_⟩
  · obtain ⟨W, ds, m, S, _, hl, r, _⟩ := h
    rw [r.length, hl, hn]
  · obtain ⟨W, ds, m, S, rfl, hl, r, M, hF, q⟩ := h
    have hN : ds.length ≤ N.length := by
      have h1 := congrArg List.length Sc.pre
      rw [List.length_take] at h1
      omega
    refine ⟨wB (cxOf CX0 P w K mg base N qual scope f cdv A outer s W.h E).nox body, (pbW body).nox, ?_⟩
    exact hbody cdv A outer s W.h ds m S E hr hl hF _ W (EnvD.start r hN) M _ ⟨fun d m' v W2 hS le M2 r2 => q d m' v W2 hS le M2 r2, fun ρ' m' σ' W2 hS le M2 E2 => q .non m' .non W2 hS le M2 rfl⟩
/-! ### statements -/
theorem bm0 (h : N ρ m) : BM X [] ρ m R N := fun σ W E M D o pins s I => pss_nil.run pins s σ W.h D I (o.2 ρ m σ W h (LeM.refl m W) M E)
theorem bm1 (h : SM X st ρ m R fun ρ1 m1 => BM X ss ρ1 m1 R N) : BM X (st :: ss) ρ m R N := fun σ W E M D o pins s I =>
  (pss_cons (psW st) (pbW ss)).run pins s σ W.h D I (h σ W E M { D with nx := wB X ss D } ⟨fun d m' v W2 hr le ok r => o.1 d m' v W2 hr le ok r, fun ρ1 m1 σ1 W1 hB le M1 E1 => hB σ1 W1 E1 M1 D (o.on le)⟩)
theorem sm (h : DS X st ρ (.nx ρ')) (hN : N ρ' m) : SM X st ρ m R N := fun σ W E M D o => h σ W E D fun σ' W1 le E1 => o.2 ρ' m σ' W1 hN (le.toM m) (M.le le) E1
theorem sm_ret (h : EM X e ρ m R) : SM X (.Return (some e) pos) ρ m R N := fun σ W E M D o pins s I => (ps_ret (peW e)).run pins s σ W.h D I (h σ W E M _ fun d m1 v W1 hR le M1 r => o.1 d m1 v W1 hR le M1 r)
theorem sm_expr (h : EM X e ρ m fun _ m1 => N ρ m1) (hs : swapsWith e none pos.line X.env = pure false := by rfl) : SM X (.Expr e pos) ρ m R N := fun σ W E M D o pins s I => (ps_expr (peW e) hs).run pins s σ W.h D I (h σ W E M _ fun d m1 v W1 hN le M1 r => o.2 ρ m1 σ W1 hN le M1 (E.mm le))
theorem sm_if {ss es : List Stmt} (h : TM X c ρ m fun z m1 => (z = true → BM X ss ρ m1 R N) ∧ (z = false → BM X es ρ m1 R N)) : SM X (.If c ss es pos) ρ m R N := fun σ W E M D o pins s I =>
  (ps_if (ptW c) (pbW ss) (pbW es)).run pins s σ W.h D I (h σ W E M _ fun z m1 W1 ⟨h1, h2⟩ le M1 => by
    cases z with
    | true => exact iteT (h1 rfl σ W1 (E.mm le) M1 D (o.on le))
    | false => exact iteF (h2 rfl σ W1 (E.mm le) M1 D (o.on le)))
theorem sm_set {i : Nat} {x : Str} {py : Pos} (nd : X.N.Nodup) (hi : X.N[i]? = some x) (h : EM X e ρ m fun d m1 => N (ρ.set i (some d)) m1) (hs : swapsWith e (some (.Name x py)) pos.line X.env = pure false := by rfl) (hx : Loc X.env.scope x := by first | exact Or.inl rfl | exact Or.inr rfl) (hf : X.fn x = true ∨ X.env.scope.names.lookup x = some .local := by exact Or.inl rfl) : SM X (.Assign [.Name x py] e pos) ρ m R N := fun σ W E M D o pins s I =>
  (ps_set nd hi hx (peW e) hs hf).run pins s σ W.h D I (h σ W E M _ fun d m1 v W1 hN le M1 r => o.2 _ m1 _ W1 hN le M1 ((E.mm le).set r))
/-- targets by the value's data -/
theorem sm_asg {tg : Expr} (h : EM X e ρ m fun d m1 => ∃ ρ', DG X tg ρ d ρ' ∧ N ρ' m1) (hs : swapsWithSole [tg] e pos.line X.env = pure false := by rfl) (hw : swappedStores [tg] e X.env = pure none := by rfl) (h1 : (assignEach [tg] X.env).map (·.2) = [assign tg X.env] := by rfl) : SM X (.Assign [tg] e pos) ρ m R N := fun σ W E M D o pins s I =>
  (ps_asg (g := wG X tg) (peW e) ⟨fun pins s σ H v u Q I r h => h pins s u I r⟩ hs hw h1).run pins s σ W.h D I (h σ W E M _ fun d m1 v W1 ⟨ρ', ⟨g, p, q⟩, hN⟩ le M1 r => fun pins s u I ru => p.run pins s σ W1.h v u _ I ru (q σ W1 v (E.mm le) r _ fun σ' E' => o.2 ρ' m1 σ' W1 hN le M1 E'))
theorem sm_par {i j : Nat} {x y : Str} {px py pt : Pos} {kt k2 : Nat} {pt2 : Pos} (hc : X.calm = true) (nd : X.N.Nodup) (hi : X.N[i]? = some x) (hj : X.N[j]? = some y) (hij : i ≠ j) (hx : X.env.scope.names.lookup x = some .local) (hy : X.env.scope.names.lookup y = some .local)
    (h : AM X [a, b] ρ m fun ds m1 => ∃ d1 d2, ds = [d1, d2] ∧ N ((ρ.set i (some d1)).set j (some d2)) m1)
    (hw : swappedStores [.Tuple [.Name x px, .Name y py] kt pt] (.Tuple [a, b] k2 pt2) X.env = pure (some [x, y]) := by rfl) (hs : swapsWithSole [.Tuple [.Name x px, .Name y py] kt pt] (.Tuple [a, b] k2 pt2) pos.line X.env = pure false := by rfl) :
    SM X (.Assign [.Tuple [.Name x px, .Name y py] kt pt] (.Tuple [a, b] k2 pt2) pos) ρ m R N := fun σ W E M D o pins s I =>
  (ps_par hc nd hi hj hij hx hy (paW _) hw hs).run pins s σ W.h D I (h σ W E M _ fun ds m1 vs W1 ⟨d1, d2, e0, hN⟩ le M1 r => by
    subst e0
    obtain ⟨v, ys, rfl, r1, w, zs, rfl, r2, hz⟩ := r
    cases hz
    exact ⟨v, w, rfl, o.2 _ m1 _ W1 hN le M1 (((E.mm le).set r1).set r2)⟩)
theorem sm_par3 {i j l : Nat} {x y z : Str} {px py pz pt : Pos} {kt k2 : Nat} {pt2 : Pos} (hc : X.calm = true) (nd : X.N.Nodup) (hi : X.N[i]? = some x) (hj : X.N[j]? = some y) (hl : X.N[l]? = some z) (hij : i ≠ j) (hil : i ≠ l) (hjl : j ≠ l) (hx : X.env.scope.names.lookup x = some .local) (hy : X.env.scope.names.lookup y = some .local)
    (hz : X.env.scope.names.lookup z = some .local) (h : AM X [a, b, c] ρ m fun ds m1 => ∃ d1 d2 d3, ds = [d1, d2, d3] ∧ N (((ρ.set i (some d1)).set j (some d2)).set l (some d3)) m1)
    (hw : swappedStores [.Tuple [.Name x px, .Name y py, .Name z pz] kt pt] (.Tuple [a, b, c] k2 pt2) X.env = pure (some [x, y, z]) := by rfl) (hs : swapsWithSole [.Tuple [.Name x px, .Name y py, .Name z pz] kt pt] (.Tuple [a, b, c] k2 pt2) pos.line X.env = pure false := by rfl) :
    SM X (.Assign [.Tuple [.Name x px, .Name y py, .Name z pz] kt pt] (.Tuple [a, b, c] k2 pt2) pos) ρ m R N := fun σ W E M D o pins s I =>
  (ps_par3 hc nd hi hj hl hij hil hjl hx hy hz (paW _) hw hs).run pins s σ W.h D I (h σ W E M _ fun ds m1 vs W1 ⟨d1, d2, d3, e0, hN⟩ le M1 r => by
    subst e0
    obtain ⟨v, ys, rfl, r1, w, zs, rfl, r2, u, us, rfl, r3, hz⟩ := r
    cases hz
    exact ⟨v, w, u, rfl, o.2 _ m1 _ W1 hN le M1 ((((E.mm le).set r1).set r2).set r3)⟩)
theorem DG.dt (ρ' : Rho) {tg : Expr} (h : DG X tg ρ d ρ') (hN : N ρ' m) : ∃ ρ', DG X tg ρ d ρ' ∧ N ρ' m := ⟨ρ', h, hN⟩
end
end K31
end
section
set_option maxHeartbeats 2000000
set_option autoImplicit false
/-! Objects that change: read, written, made, walked beside. -/
namespace K31
open PySem PySem.Spec PyProof.Rows L2
section
variable {K : PySem.W.Frag} {W : Wd} {m : Mu} {a p : Addr}
/-- a tracked object's content changed -/
def Wd.put (W : Wd) (a : Addr) (o : HO) (h : W.s a = Option.none) : Wd := ⟨W.s, upd W.h a o, fun b u e => by
  by_cases q : b = a
  · subst q; rw [h] at e; cases e
  · rw [upd_ne q]; exact W.sub b u e⟩
theorem MOk.mem {pre post : Mu} {o : MO} (h : MOk K W (pre ++ (a, o) :: post)) : W.s a = none ∧ o.At K W a := h.at_ (a, o) (by simp)
/-- one object's new content -/
theorem MOk.put {pre post : Mu} {o o' : MO} {u : HO} (h : MOk K W (pre ++ (a, o) :: post)) (hs : W.s a = none) (h' : o'.At K (W.put a u hs) a) : MOk K (W.put a u hs) (pre ++ (a, o') :: post) := by
  have nd := h.nd
  have e1 : (pre ++ (a, o') :: post).map (·.1) = (pre ++ (a, o) :: post).map (·.1) := by simp
  refine ⟨fun q hq => ?_, by rw [e1]; exact nd⟩
  rw [List.map_append, List.map_cons, List.nodup_append] at nd
  obtain ⟨_, n2, n3⟩ := nd
  obtain ⟨n4, _⟩ := List.nodup_cons.mp n2
  have other : q ∈ pre ∨ q ∈ post → (W.put a u hs).s q.1 = none ∧ q.2.At K (W.put a u hs) q.1 := fun hq' => by
    have hm : q ∈ pre ++ (a, o) :: post := by
      rcases hq' with z | z
      · exact List.mem_append_left _ z
      · exact List.mem_append_right _ (List.mem_cons_of_mem _ z)
    have hne : q.1 ≠ a := fun e => by
      rcases hq' with z | z
      · exact n3 q.1 (List.mem_map.mpr ⟨q, z, rfl⟩) a (List.mem_cons_self ..) e
      · exact n4 (e ▸ List.mem_map.mpr ⟨q, z, rfl⟩)
    obtain ⟨h1, h2⟩ := h.at_ q hm
    exact ⟨h1, h2.to (upd_ne hne) (Same.refl _)⟩
  rcases List.mem_append.mp hq with z | z
  · exact other (.inl z)
  · rcases List.mem_cons.mp z with z | z
    · subst z; exact ⟨hs, h'⟩
    · exact other (.inr z)
theorem LeM.put {pre post : Mu} {o o' : MO} {u : HO} (hs : W.s a = none) (hn : W.h a ≠ none) : LeM (pre ++ (a, o) :: post) (pre ++ (a, o') :: post) W (W.put a u hs) := by
  refine ⟨fun b x hb e => ?_, fun b hb => ?_, Same.refl _, fun b _ _ h => .inl h, fun q hq => .inl ?_⟩
  · show upd W.h a u b = some x
    rw [upd_ne (fun z => hb (a, o) (by simp) z.symm)]; exact e
  · show upd W.h a u b ≠ none
    by_cases z : b = a
    · subst z; rw [upd_same]; exact fun z => nomatch z
    · rw [upd_ne z]; exact hb
  · rcases List.mem_append.mp hq with z | z
    · exact ⟨q, List.mem_append_left _ z, rfl⟩
    · rcases List.mem_cons.mp z with z | z
      · exact ⟨(a, o), by simp, by rw [z]⟩
      · exact ⟨q, List.mem_append_right _ (List.mem_cons_of_mem _ z), rfl⟩
/-- a new object that changes -/
def Wd.neu (W : Wd) (p : Addr) (o : HO) (h : W.h p = Option.none) : Wd := W.put p o (Wd.none h)
theorem MOk.neu {o : MO} {u : HO} (h : MOk K W m) (hp : W.h p = none) (h' : o.At K (W.neu p u hp) p) : MOk K (W.neu p u hp) ((p, o) :: m) := by
  have fresh : ∀ q ∈ m, q.1 ≠ p := fun q hq e => by
    obtain ⟨_, h2⟩ := h.at_ q hq
    exact h2.ne (e ▸ hp)
  refine ⟨fun q hq => ?_, ?_⟩
  · rcases List.mem_cons.mp hq with z | z
    · subst z; exact ⟨show W.s p = none from Wd.none hp, h'⟩
    · obtain ⟨h1, h2⟩ := h.at_ q z
      exact ⟨h1, h2.to (upd_ne (fresh q z)) (Same.refl _)⟩
  · rw [List.map_cons, List.nodup_cons]
    exact ⟨fun z => by
      obtain ⟨q, hq, e⟩ := List.mem_map.mp z
      exact fresh q hq e, h.nd⟩
theorem LeM.neu {o : MO} {u : HO} (hp : W.h p = none) : LeM m ((p, o) :: m) W (W.neu p u hp) := by
  refine ⟨fun b x _ e => ?_, fun b hb => ?_, Same.refl _, fun b _ _ h => .inl h, fun q hq => ?_⟩
  · show upd W.h p u b = some x
    rw [upd_ne (fun z => by rw [z, hp] at e; cases e)]; exact e
  · show upd W.h p u b ≠ none
    rw [upd_ne (fun z => hb (by rw [z]; exact hp))]; exact hb
  · rcases List.mem_cons.mp hq with z | z
    · subst z; exact .inr hp
    · exact .inl ⟨q, z, rfl⟩
/-- the first object becomes plain data -/
def Wd.frz (W : Wd) (a : Addr) (u : HO) (h : W.h a = some u) : Wd := ⟨upd W.s a u, W.h, fun b x e => by
  by_cases q : b = a
  · subst q; rw [upd_same] at e; cases e; exact h
  · rw [upd_ne q] at e; exact W.sub b x e⟩
end
section
variable {X : Cx} {ρ ρ' : Rho} {m : Mu} {e a b c : Expr} {es : List Expr} {S S' : D → Mu → Prop} {R R' : D → Mu → Prop} {N N' : Rho → Mu → Prop} {pos : Pos} {d : D} {ss : List Stmt} {st : Stmt} {ds : List D} {p : Addr}
/-! ### read -/
theorem em_ixM {i : Int} (ha : DE X a ρ (.fn p)) (hb : DE X b ρ (.int i)) (hm : (p, MO.lst ds) ∈ m) (h : atI ds i = some d) (hS : S d m) (hp : PlainIx b := by exact fun _ _ => rfl) : EM X (.Subscript a b pos) ρ m S := fun σ W E M Q q pins s I =>
  (pe_ix ix_list (peW a) (peW b) hp).run pins s σ W.h Q I (ha σ W E _ fun v W1 e1 r1 => hb σ W1 (E.le e1) _ fun w W2 e2 r2 => by
    obtain ⟨_, xs, hx, rx⟩ := (M.le (e1.trans e2)).at_ _ hm
    obtain ⟨z, hz, rz⟩ := atI_rp rx h
    exact ⟨p, xs, i, z, r1, r2, .inl (.inl hx), hz, q d m z W2 hS ((e1.trans e2).toM m) (M.le (e1.trans e2)) rz⟩)
/-- of data that a reading gives -/
theorem em_ix (h : EM X a ρ m fun d1 m1 => EM X b ρ m1 fun d2 m2 => ∃ ds i d, d1.items = some ds ∧ d2 = .int i ∧ atI ds i = some d ∧ S d m2) (hp : PlainIx b := by exact fun _ _ => rfl) : EM X (.Subscript a b pos) ρ m S := fun σ W E M Q q pins s I =>
  (pe_ix ix_seq (peW a) (peW b) hp).run pins s σ W.h Q I (h σ W E M _ fun d1 m1 v W1 hS le M1 r1 => hS σ W1 (E.mm le) M1 _ fun d2 m2 w W2 ⟨ds, i, d, e1, e2, hd, hS2⟩ le2 M2 r2 => by
    have r1' := r1.mm le2
    cases d1 with
    | lst es =>
      cases e1
      obtain ⟨p, xs, rfl, h2, h3⟩ := r1'
      obtain ⟨z, hz, rz⟩ := atI_rp h3 hd
      exact .inl ⟨p, xs, i, z, rfl, by rw [e2] at r2; exact r2, Wd.seq h2, hz, q d m2 z W2 hS2 (le.trans le2) M2 rz⟩
    | tup es =>
      cases e1
      obtain ⟨p, xs, rfl, h2, h3⟩ := r1'
      obtain ⟨z, hz, rz⟩ := atI_rp h3 hd
      exact .inr (.inl ⟨p, xs, i, z, rfl, by rw [e2] at r2; exact r2, Wd.sqT h2, hz, q d m2 z W2 hS2 (le.trans le2) M2 rz⟩)
    | _ => cases e1)
theorem em_lenM {p2 : Pos} (hm : X.mg "len" = none) (ha : DE X a ρ (.fn p)) (hmem : (p, MO.lst ds) ∈ m) (hS : S (.int ds.length) m) (hg : Gl X "len" := by rfl) (hs : starEach [a] X.env = (false, eval a X.env) :: starEach [] X.env := by rfl) : EM X (.Call (.Name "len" p2) [a] [] pos) ρ m S := fun σ W E M Q q pins s I =>
  (pe_callB call_len hg hm boot_len (pa_cons (peW a) pa_nil hs) (he := hs)).run pins s σ W.h Q I (ha σ W E _ fun v W1 e1 r1 => by
    obtain ⟨_, xs, hx, rx⟩ := (M.le e1).at_ _ hmem
    cases r1
    exact ⟨_, _, rfl, .inl ⟨xs, .inl (.inl hx), rx.length.symm⟩, q _ m _ W1 hS (e1.toM m) (M.le e1) rfl⟩)
/-! ### made -/
theorem em_newL (h : AM X es ρ m fun ds m1 => ds.length ≤ 1000 ∧ ∀ p, S (.fn p) ((p, .lst ds) :: m1)) : EM X (.List es pos) ρ m S := fun σ W E M Q q pins s I =>
  (pe_lst (paW es)).run pins s σ W.h Q I (h σ W E M _ fun ds m1 vs W1 ⟨hl, hS⟩ le M1 r1 => ⟨by rw [r1.length]; exact sz_le hl, fun p hp => q (.fn p) ((p, .lst ds) :: m1) (.ref p) (W1.neu p (.lst vs) hp) (hS p) (le.trans (LeM.neu hp)) (M1.neu hp ⟨vs, upd_same, r1⟩) rfl⟩)
theorem em_newK (hS : ∀ p, S (.fn p) ((p, .dK [] []) :: m)) : EM X (.Dict [] [] pos) ρ m S := fun σ W E M Q q pins s I =>
  pe_dnewK.run pins s σ W.h Q I fun p hp => q (.fn p) ((p, .dK [] []) :: m) (.ref p) (W.neu p (.dK []) hp) (hS p) (LeM.neu hp) (M.neu hp ⟨[], upd_same, rfl, rfl⟩) rfl
theorem em_newT (hS : ∀ p, S (.fn p) ((p, .dT [] []) :: m)) : EM X (.Dict [] [] pos) ρ m S := fun σ W E M Q q pins s I =>
  pe_dnewT.run pins s σ W.h Q I fun p hp => q (.fn p) ((p, .dT [] []) :: m) (.ref p) (W.neu p (.dT []) hp) (hS p) (LeM.neu hp) (M.neu hp ⟨[], upd_same, rfl, rfl⟩) rfl
/-! ### written -/
theorem RpL.set {K : PySem.W.Frag} {H : Hp} : ∀ {ds : List D} {xs : List V} {j : Nat} {d : D} {v : V}, RpL K H ds xs → Rp K H d v → RpL K H (ds.set j d) (xs.set j v)
  | [], _, _, _, _, h, _ => by cases h; exact rfl
  | e :: ds, xs, 0, d, v, h, r => by
    obtain ⟨x, ys, rfl, _, h3⟩ := h
    exact ⟨v, ys, rfl, r, h3⟩
  | e :: ds, xs, j + 1, d, v, h, r => by
    obtain ⟨x, ys, rfl, h2, h3⟩ := h
    exact ⟨x, ys.set j v, rfl, h2, RpL.set h3 r⟩
theorem sm_setIx {o i : Expr} {pos' : Pos} {k : Int} (ho : DE X o ρ (.fn p)) (hi : DE X i ρ (.int k)) (h : EM X e ρ m fun dv m1 => ∃ pre post ds j, m1 = pre ++ (p, .lst ds) :: post ∧ ixN ds.length k = some j ∧ N ρ (pre ++ (p, .lst (ds.set j dv)) :: post))
    (hs : swapsWithSole [.Subscript o i pos'] e pos.line X.env = pure false := by rfl) (hw : swappedStores [.Subscript o i pos'] e X.env = pure none := by rfl) (h1 : (assignEach [.Subscript o i pos'] X.env).map (·.2) = [assign (.Subscript o i pos') X.env] := by rfl)
    (ha : ∀ v, assign (.Subscript o i pos') X.env v = (do
      let ov ← holding [v] (eval o X.env)
      let iv ← holding [v, ov] (eval i X.env)
      standAt pos'
      holding [v, ov, iv] (setItem ov iv v)
      release [v, ov, iv] []) := by intro _; rfl) : SM X (.Assign [.Subscript o i pos'] e pos) ρ m R N := fun σ W E M D out pins s I =>
  (ps_asg (peW e) (pg_sub (peW o) (peW i) set_list ha) hs hw h1).run pins s σ W.h D I (h σ W E M _ fun dv m1 v W1 ⟨pre, post, ds, j, em, hj, hN⟩ le M1 rv => ho σ W1 (E.mm le) _ fun x W2 e2 rx => hi σ W2 ((E.mm le).le e2) _ fun y W3 e3 ry => by
    subst em
    have M3 := M1.le (e2.trans e3)
    obtain ⟨hs3, xs, hx, rx3⟩ := M3.mem
    refine ⟨p, xs, k, j, rx, ry, hx, by rw [rx3.length]; exact hj, ?_⟩
    exact out.2 ρ _ σ (W3.put p (.lst (xs.set j v)) hs3) hN ((le.trans ((e2.trans e3).toM _)).trans (LeM.put hs3 (by rw [hx]; exact fun z => nomatch z))) (M3.put hs3 ⟨_, upd_same, show RpL X.K W3.s _ _ from RpL.set rx3 (Rp.le (e2.trans e3) rv)⟩) (show EnvD X.K W3.s σ ρ from ((E.mm le).le e2).le e3))
theorem sm_append {o : Expr} {apos cpos : Pos} (ho : DE X o ρ (.fn p)) (hmem : ∃ ds0, (p, MO.lst ds0) ∈ m) (h : EM X e ρ m fun dv m1 => ∃ pre post ds, m1 = pre ++ (p, .lst ds) :: post ∧ ds.length ≤ 1000 ∧ N ρ (pre ++ (p, .lst (ds ++ [dv])) :: post))
    (hbase : attributeBase o "append" X.env (eval o X.env) = eval o X.env := by rfl)
    (hfew : ((backTo cpos (starEach [e] X.env)).all (fun x => !x.1) && (backToKw cpos (keywordEach [] X.env)).all (fun x => x.1.isSome)
      && decide (([e] : List Expr).length + ([] : List Keyword).length + (if ([] : List Keyword).isEmpty then 0 else 1) < 30)) = true := by rfl)
    (hline : (apos.endLine == cpos.line) = true := by rfl) (hs : starEach [e] X.env = (false, eval e X.env) :: starEach [] X.env := by rfl) (hsw : swapsWith (.Call (.Attribute o "append" apos) [e] [] cpos) none pos.line X.env = pure false := by rfl) :
    SM X (.Expr (.Call (.Attribute o "append" apos) [e] [] cpos) pos) ρ m R N := fun σ W E M D out pins s I =>
  (ps_expr (pe_bm PySem.F.plainAttrs_list PySem.F.slot_list_append PySem.F.type_list_append mt_append (peW o) (pa_cons (peW e) pa_nil hs) hbase hfew hline hs) hsw).run pins s σ W.h D I (ho σ W E _ fun x W1 e1 rx => by
    obtain ⟨ds0, hm0⟩ := hmem
    obtain ⟨_, xs0, hx0, _⟩ := (M.le e1).at_ _ hm0
    cases rx
    refine ⟨.inl ⟨rfl, xs0, .inl (.inl hx0)⟩, h σ W1 (E.le e1) (M.le e1) _ fun dv m1 v W2 ⟨pre, post, ds, em, hl, hN⟩ le M2 rv => ?_⟩
    subst em
    obtain ⟨hs2, xs, hx, rx2⟩ := M2.mem
    refine ⟨p, xs, v, rfl, rfl, hx, by rw [rx2.length]; exact small1000 hl, ?_⟩
    exact out.2 ρ _ σ (W2.put p (.lst (xs ++ [v])) hs2) hN (((e1.toM m).trans le).trans (LeM.put hs2 (by rw [hx]; exact fun z => nomatch z))) (M2.put hs2 ⟨_, upd_same, show RpL X.K W2.s _ _ from RpL.append rx2 ⟨v, [], rfl, rv, rfl⟩⟩) (show EnvD X.K W2.s σ ρ from (E.le e1).mm le))
end
end K31
end
section
set_option maxHeartbeats 2000000
set_option autoImplicit false
/-! Objects that change: dicts written, loops, comprehensions, at the end plain data. -/
namespace K31
open PySem PySem.Spec PyProof.Rows L2
section
variable {K : PySem.W.Frag} {W W' : Wd} {m m' : Mu} {a p : Addr}
theorem MOk.perm (h : MOk K W m) (hp : m.Perm m') : MOk K W m' := ⟨fun q hq => h.at_ q (hp.mem_iff.mpr hq), (hp.map _).nodup_iff.mp h.nd⟩
theorem LeM.perm {m1 m2 : Mu} (h : LeM m m1 W W') (hp : m1.Perm m2) : LeM m m2 W W' := ⟨h.hh, h.th, h.ss, h.new, fun q hq => h.gr q (hp.mem_iff.mpr hq)⟩
theorem perm_snoc {q : Addr × MO} : (q :: m).Perm (m ++ [q]) := (List.perm_append_comm (l₁ := [q]) (l₂ := m))
def frzD : MO → D
  | .lst ds => .lst ds
  | .dK ks ds => .dK ks ds
  | .dT ks ds => .dT ks ds
  | .ins C _ ns ds => .obj C ns ds
theorem Wd.frz_same {u : HO} {h : W.h a = some u} (hs : W.s a = Option.none) : Same W.s (W.frz a u h).s := fun b x e => by
  show upd W.s a u b = some x
  rw [upd_ne (fun z => by rw [z, hs] at e; cases e)]; exact e
theorem MOk.frz {pre post : Mu} {o : MO} (h : MOk K W (pre ++ (a, o) :: post)) : ∃ (u : HO) (hu : W.h a = some u), MOk K (W.frz a u hu) (pre ++ post) ∧ LeM (pre ++ (a, o) :: post) (pre ++ post) W (W.frz a u hu) ∧ Rp K (W.frz a u hu).s (frzD o) (.ref a) := by
  obtain ⟨hs, ho⟩ := h.mem
  have nd := h.nd
  rw [List.map_append, List.map_cons, List.nodup_append] at nd
  obtain ⟨n1, n2, n3⟩ := nd
  obtain ⟨n4, n5⟩ := List.nodup_cons.mp n2
  have hne : ∀ q ∈ pre ++ post, q.1 ≠ a := fun q hq e => by
    rcases List.mem_append.mp hq with z | z
    · exact n3 q.1 (List.mem_map.mpr ⟨q, z, rfl⟩) a (List.mem_cons_self ..) e
    · exact n4 (e ▸ List.mem_map.mpr ⟨q, z, rfl⟩)
  have hin : ∀ q ∈ pre ++ post, q ∈ pre ++ (a, o) :: post := fun q hq => by
    rcases List.mem_append.mp hq with z | z
    · exact List.mem_append_left _ z
    · exact List.mem_append_right _ (List.mem_cons_of_mem _ z)
  obtain ⟨u, hu⟩ := ne_some ho.ne
  have ss := Wd.frz_same (h := hu) hs
  refine ⟨u, hu, ⟨fun q hq => ?_, ?_⟩, ⟨fun b x hb e => e, fun b hb => hb, ss, fun b hb hn hs' => ?_, fun q hq => .inl ⟨q, hin q hq, rfl⟩⟩, ?_⟩
  · obtain ⟨h1, h2⟩ := h.at_ q (hin q hq)
    refine ⟨?_, h2.to rfl ss⟩
    show upd W.s a u q.1 = none
    rw [upd_ne (hne q hq)]; exact h1
  · rw [List.map_append, List.nodup_append]
    exact ⟨n1, n5, fun x hx y hy => n3 x hx y (List.mem_cons_of_mem _ hy)⟩
  · refine .inl ?_
    show upd W.s a u b = none
    rw [upd_ne (fun z => hb (a, o) (by simp) z.symm)]; exact hs'
  · have at_ : (W.frz a u hu).s a = some u := upd_same
    cases o with
    | lst ds =>
      obtain ⟨xs, e, r⟩ := ho
      rw [hu] at e; cases e
      exact ⟨a, xs, rfl, .inl (.inl at_), RpL.mono ss _ _ r⟩
    | dK ks ds =>
      obtain ⟨xs, e, r, l⟩ := ho
      rw [hu] at e; cases e
      exact ⟨a, xs, rfl, at_, RpL.mono ss _ _ r, l⟩
    | dT ks ds =>
      obtain ⟨xs, e, r, l⟩ := ho
      rw [hu] at e; cases e
      exact ⟨a, xs, rfl, at_, RpL.mono ss _ _ r, l⟩
    | ins C dx ns ds =>
      obtain ⟨xs, e, r, l⟩ := ho
      rw [hu] at e; cases e
      exact ⟨a, dx, xs, rfl, at_, RpL.mono ss _ _ r, l⟩
end
section
variable {κ : Type} [DecidableEq κ]
theorem valV_zip_none {f : κ → Key} (hf : ∀ a b, f a = f b → a = b) : ∀ {ks : List κ} {xs : List V} {k : κ}, k ∉ ks → valV ((ks.map f).zip xs) (f k) = none
  | [], _, _, _ => rfl
  | k' :: ks, [], _, _ => rfl
  | k' :: ks, x :: xs, k, h => by
    have h1 : ¬ f k' = f k := fun e => h (by rw [hf _ _ e]; exact List.mem_cons_self ..)
    show valV ((f k', x) :: (ks.map f).zip xs) (f k) = none
    rw [valV_neg h1]
    exact valV_zip_none hf fun z => h (List.mem_cons_of_mem _ z)
theorem valV_zip_noneT {f : κ → List Key} (hf : ∀ a b, f a = f b → a = b) : ∀ {ks : List κ} {xs : List V} {k : κ}, k ∉ ks → valV ((ks.map f).zip xs) (f k) = none
  | [], _, _, _ => rfl
  | k' :: ks, [], _, _ => rfl
  | k' :: ks, x :: xs, k, h => by
    have h1 : ¬ f k' = f k := fun e => h (by rw [hf _ _ e]; exact List.mem_cons_self ..)
    show valV ((f k', x) :: (ks.map f).zip xs) (f k) = none
    rw [valV_neg h1]
    exact valV_zip_noneT hf fun z => h (List.mem_cons_of_mem _ z)
end
theorem zip_snoc {α β : Type} {xs : List α} {ys : List β} {x : α} {y : β} (h : xs.length = ys.length) : xs.zip ys ++ [(x, y)] = (xs ++ [x]).zip (ys ++ [y]) := by rw [List.zip_append h]; rfl
theorem kT_inj {a b : List Int} (h : a.map (fun i => (Sum.inl i : Key)) = b.map fun i => (Sum.inl i : Key)) : a = b := by
  induction a generalizing b with
  | nil =>
    cases b with
    | nil => rfl
    | cons => cases h
  | cons x a ih =>
    cases b with
    | nil => cases h
    | cons y b =>
      rw [List.map_cons, List.map_cons] at h
      injection h with h1 h2
      injection h1 with h1
      rw [h1, ih h2]
section
variable {X : Cx} {ρ ρ' : Rho} {m : Mu} {e a b c : Expr} {es : List Expr} {S S' : D → Mu → Prop} {R R' : D → Mu → Prop} {N N' : Rho → Mu → Prop} {pos : Pos} {d : D} {ss : List Stmt} {st : Stmt} {ds : List D} {p : Addr}
theorem em_newL' (h : AM X es ρ m fun ds m1 => ds.length ≤ 1000 ∧ ∀ p, S (.fn p) (m1 ++ [(p, .lst ds)])) : EM X (.List es pos) ρ m S := fun σ W E M Q q =>
  em_newL (S := fun d m' => ∃ m'', m'.Perm m'' ∧ S d m'') (fun σ W E M Q q => h σ W E M Q fun ds m1 vs W2 ⟨hl, hS⟩ le M2 r => q ds m1 vs W2 ⟨hl, fun p => ⟨_, perm_snoc, hS p⟩⟩ le M2 r) σ W E M Q fun d m' v W2 ⟨m'', hp, hS⟩ le M2 r => q d m'' v W2 hS (le.perm hp) (M2.perm hp) r
theorem em_newK' (hS : ∀ p, S (.fn p) (m ++ [(p, .dK [] [])])) : EM X (.Dict [] [] pos) ρ m S := fun σ W E M Q q =>
  em_newK (S := fun d m' => ∃ m'', m'.Perm m'' ∧ S d m'') (fun p => ⟨_, perm_snoc, hS p⟩) σ W E M Q fun d m' v W2 ⟨m'', hp, hS⟩ le M2 r => q d m'' v W2 hS (le.perm hp) (M2.perm hp) r
theorem em_newT' (hS : ∀ p, S (.fn p) (m ++ [(p, .dT [] [])])) : EM X (.Dict [] [] pos) ρ m S := fun σ W E M Q q =>
  em_newT (S := fun d m' => ∃ m'', m'.Perm m'' ∧ S d m'') (fun p => ⟨_, perm_snoc, hS p⟩) σ W E M Q fun d m' v W2 ⟨m'', hp, hS⟩ le M2 r => q d m'' v W2 hS (le.perm hp) (M2.perm hp) r
/-- from now on plain data -/
theorem em_frz {pre post : Mu} {o : MO} (ha : DE X a ρ (.fn p)) (hm : m = pre ++ (p, o) :: post) (hS : S (frzD o) (pre ++ post)) : EM X a ρ m S := fun σ W E M Q q => ha σ W E Q fun v W1 e1 r1 => by
  subst hm
  have M1 := M.le e1
  obtain ⟨u, hu, M2, le, r⟩ := M1.frz
  rw [show v = .ref p from r1]
  exact q (frzD o) _ (.ref p) (W1.frz p u hu) hS ((e1.toM _).trans le) M2 r
theorem sm_dputK {o i : Expr} {pos' : Pos} {k : Int} (hu : X.A.units + 1 < cLine) (ho : DE X o ρ (.fn p)) (hi : DE X i ρ (.int k)) (h : EM X e ρ m fun dv m1 => ∃ pre post ks ds, m1 = pre ++ (p, .dK ks ds) :: post ∧ k ∉ ks ∧ ks.length ≤ 1000 ∧ N ρ (pre ++ (p, .dK (ks ++ [k]) (ds ++ [dv])) :: post))
    (hs : swapsWith e (some (.Subscript o i pos')) pos.line X.env = pure false := by rfl) : SM X (.Assign [.Subscript o i pos'] e pos) ρ m R N := fun σ W E M D out pins s I =>
  (ps_dput hu (peW o) (peW i) (peW e) hs).run pins s σ W.h D I (h σ W E M _ fun dv m1 v W1 ⟨pre, post, ks, ds, em, hk, hl, hN⟩ le M1 rv => ho σ W1 (E.mm le) _ fun x W2 e2 rx => hi σ W2 ((E.mm le).le e2) _ fun y W3 e3 ry => by
    subst em
    have M3 := M1.le (e2.trans e3)
    obtain ⟨hs3, xs, hx, rx3, hlen⟩ := M3.mem
    have lx := rx3.length
    have hz : ((ks.map fun k => (Sum.inl k : Key)).zip xs).length < sizeLine := small1000 (by rw [List.length_zip, List.length_map]; omega)
    have hv : valV ((ks.map fun k => (Sum.inl k : Key)).zip xs) (Sum.inl k) = none := valV_zip_none (f := fun k => (Sum.inl k : Key)) (fun a b e => Sum.inl.inj e) hk
    have g := DPut.k (k := (Sum.inl k : Key)) (v := v) hx hz
    rw [putK_new v hv, zip_snoc (by rw [List.length_map]; omega)] at g
    have ey : y = kV (Sum.inl k) := ry
    rw [ey]
    refine ⟨p, _, rx, g, ?_⟩
    exact out.2 ρ _ σ (W3.put p _ hs3) hN ((le.trans ((e2.trans e3).toM _)).trans (LeM.put hs3 (by rw [hx]; exact fun z => nomatch z))) (M3.put hs3 ⟨xs ++ [v], by rw [List.map_append]; exact upd_same, show RpL X.K W3.s _ _ from RpL.append rx3 ⟨v, [], rfl, Rp.le (e2.trans e3) rv, rfl⟩, by simp [hlen]⟩) (show EnvD X.K W3.s σ ρ from ((E.mm le).le e2).le e3))
theorem rpl_ints {K : PySem.W.Frag} {H : Hp} : ∀ {ks : List Int} {vs : List V}, RpL K H (ks.map D.int) vs → vs = ks.map V.int
  | [], _, h => by cases h; rfl
  | k :: ks, _, h => by
    obtain ⟨x, ys, rfl, h2, h3⟩ := h
    rw [show x = .int k from h2, rpl_ints h3]; rfl
theorem sm_dputT {o : Expr} {ies : List Expr} {ik : Nat} {ipos pos' : Pos} {k : List Int} (hu : X.A.units + 1 < cLine) (ho : DE X o ρ (.fn p)) (hi : DA X ies ρ (k.map D.int)) (hk3 : k.length ≤ 1000) (h : EM X e ρ m fun dv m1 => ∃ pre post ks ds, m1 = pre ++ (p, .dT ks ds) :: post ∧ k ∉ ks ∧ ks.length ≤ 1000 ∧ N ρ (pre ++ (p, .dT (ks ++ [k]) (ds ++ [dv])) :: post))
    (hs : swapsWith e (some (.Subscript o (.Tuple ies ik ipos) pos')) pos.line X.env = pure false := by rfl) : SM X (.Assign [.Subscript o (.Tuple ies ik ipos) pos'] e pos) ρ m R N := fun σ W E M D out pins s I =>
  (ps_dput hu (peW o) (pe_tup (paW ies)) (peW e) hs).run pins s σ W.h D I (h σ W E M _ fun dv m1 v W1 ⟨pre, post, ks, ds, em, hk, hl, hN⟩ le M1 rv => ho σ W1 (E.mm le) _ fun x W2 e2 rx => hi σ W2 ((E.mm le).le e2) _ fun ys W3 e3 ry => ⟨by rw [ry.length, List.length_map]; exact sz_le hk3, fun b hb => by
    subst em
    have M3 := M1.le (e2.trans e3)
    have e4 : Le W3 (W3.new b (.tup ys)) := Le.new1 hb
    have M4 := M3.le e4
    obtain ⟨hs3, xs, hx, rx3, hlen⟩ := M4.mem
    have lx := rx3.length
    have hz : ((ks.map fun k => k.map fun i => (Sum.inl i : Key)).zip xs).length < sizeLine := small1000 (by rw [List.length_zip, List.length_map]; omega)
    have hv : valV ((ks.map fun k => k.map fun i => (Sum.inl i : Key)).zip xs) (k.map fun i => (Sum.inl i : Key)) = none := valV_zip_noneT (f := fun k : List Int => k.map fun i => (Sum.inl i : Key)) (fun a b e => kT_inj e) hk
    have eb : (W3.new b (.tup ys)).h b = some (.tup ((k.map fun i => (Sum.inl i : Key)).map kV)) := by
      have e1 : (W3.new b (.tup ys)).h b = some (.tup ys) := upd_same
      rw [e1, rpl_ints ry, List.map_map]; rfl
    have g := DPut.t (k := k.map fun i => (Sum.inl i : Key)) (v := v) hx eb hz
    rw [putK_new v hv, zip_snoc (by rw [List.length_map]; omega)] at g
    refine ⟨p, _, rx, g, ?_⟩
    exact out.2 ρ _ σ ((W3.new b (.tup ys)).put p _ hs3) hN ((le.trans (((e2.trans e3).trans e4).toM _)).trans (LeM.put hs3 (by rw [hx]; exact fun z => nomatch z))) (M4.put hs3 ⟨xs ++ [v], by rw [List.map_append]; exact upd_same, show RpL X.K (W3.new b (.tup ys)).s _ _ from RpL.append rx3 ⟨v, [], rfl, Rp.le ((e2.trans e3).trans e4) rv, rfl⟩, by simp [hlen]⟩) (show EnvD X.K (W3.new b (.tup ys)).s σ ρ from (((E.mm le).le e2).le e3).le e4)⟩)
end
end K31
end
section
set_option maxHeartbeats 2000000
set_option autoImplicit false
/-! Loops and comprehensions beside objects that change. -/
namespace K31
open PySem PySem.Spec PyProof.Rows L2
section
variable {X : Cx} {ρ ρ' : Rho} {m : Mu} {e a b c tg iter elt : Expr} {es : List Expr} {S S' : D → Mu → Prop} {R R' : D → Mu → Prop} {N N' : Rho → Mu → Prop} {pos : Pos} {d : D} {ss : List Stmt} {st : Stmt} {ds ds2 items : List D} {p : Addr}
/-- for tg in range(a) -/
theorem sm_forR {body : List Stmt} {p p2 : Pos} (hp : PassesOwn (model X.prog X.w) X.A X.env X.xe) (hc : X.calm = true) (hm : X.mg "range" = none)
    (h : EM X a ρ m fun d m1 => ∃ n : Nat, d = .int n ∧ n ≤ 1000000 ∧ ∃ Iv : Nat → Rho → Mu → Prop, Iv 0 ρ m1 ∧ (∀ i ρ1 m2, i < n → Iv i ρ1 m2 → ∃ ρ2, DG X tg ρ1 (.int (i : Int)) ρ2 ∧ BM X body ρ2 m2 R (Iv (i + 1))) ∧ ∀ ρ1 m2, Iv n ρ1 m2 → N ρ1 m2)
    (hg : Gl X "range" := by rfl) (hs : starEach [a] X.env = [(false, eval a X.env)] := by rfl) (hfs : ∀ x, foldedSetIterable (.Call (.Name "range" p) [a] [] p2) X.env x = pure x := by intro _; rfl) :
    SM X (.For tg (.Call (.Name "range" p) [a] [] p2) body [] pos) ρ m R N := fun σ W E M D out pins s I =>
  (ps_for (g := wG X tg) hp hc (pi_range1 hg hm (pa_cons (peW a) pa_nil hs) hs) ⟨fun pins s σ H v u Q I r h => h pins s u I r⟩ (pbW body) hfs).run pins s σ W.h D I (h σ W E M _ fun d m1 v W1 ⟨n, ed, hn, Iv, h0, hstep, hend⟩ le M1 r => by
    refine ⟨n, by rw [ed] at r; rw [show v = .int n from r], by omega, by omega, ?_⟩
    have w : Walk (Itr 0 (n : Int).toNat) n (fun _ => True) (fun i H x H' => H' = H ∧ x = .int (0 + (i : Int))) := by
      rw [Int.toNat_natCast]
      exact walk_range
    refine for_it w (fun i σ' H => ∃ (W2 : Wd) (ρ1 : Rho) (m2 : Mu), W2.h = H ∧ LeM m m2 W W2 ∧ EnvD X.K W2.s σ' ρ1 ∧ MOk X.K W2 m2 ∧ Iv i ρ1 m2) ⟨W1, ρ, m1, rfl, le, E.mm le, M1, h0⟩ (fun _ _ _ _ _ => trivial) (fun i x σ' H H' hi ⟨W2, ρ1, m2, hh, le2, E2, M2, hI⟩ y => ?_) fun σ' H ⟨W2, ρ1, m2, hh, le2, E2, M2, hI⟩ => ?_
    · subst hh
      obtain ⟨rfl, rfl⟩ := y
      obtain ⟨ρ2, ⟨g, pg, hg⟩, hb⟩ := hstep i ρ1 m2 hi hI
      intro pins s u I ru
      refine pg.run pins s σ' W2.h _ u _ I ru (hg σ' W2 _ E2 (by show V.int (0 + (i : Int)) = V.int i; rw [Int.zero_add]) _ fun σ3 E3 => ?_)
      exact hb σ3 W2 E3 M2 _ ⟨fun d' m' v' W3 hR le3 M3 r3 => out.1 d' m' v' W3 hR (le2.trans le3) M3 r3, fun ρ3 m3 σ4 W3 hN le3 M3 E3 => ⟨W3, ρ3, m3, rfl, le2.trans le3, E3, M3, hN⟩⟩
    · subst hh
      exact out.2 ρ1 m2 σ' W2 (hend ρ1 m2 hI) le2 M2 E2)
/-- for tg in a tuple of data -/
theorem sm_forT {body : List Stmt} (Iv : Nat → Rho → Mu → Prop) (hp : PassesOwn (model X.prog X.w) X.A X.env X.xe) (hc : X.calm = true) (h : DE X iter ρ (.tup items)) (h0 : Iv 0 ρ m)
    (hstep : ∀ i d ρ1 m2, items[i]? = some d → Iv i ρ1 m2 → ∃ ρ2, DG X tg ρ1 d ρ2 ∧ BM X body ρ2 m2 R (Iv (i + 1))) (hend : ∀ ρ1 m2, Iv items.length ρ1 m2 → N ρ1 m2)
    (hfs : ∀ x, foldedSetIterable iter X.env x = pure x := by intro _; rfl) : SM X (.For tg iter body [] pos) ρ m R N := fun σ W E M D out pins s I =>
  (ps_for (g := wG X tg) hp hc (pi_tup (peW iter)) ⟨fun pins s σ H v u Q I r h => h pins s u I r⟩ (pbW body) hfs).run pins s σ W.h D I (h σ W E _ fun v W1 le r => by
    obtain ⟨q, xs, rfl, h2, h3⟩ := r
    refine ⟨q, rfl, ⟨xs, Wd.sqT h2⟩, ?_⟩
    refine for_it (walk_tup (xs := xs)) (fun i σ' H => ∃ (W2 : Wd) (ρ1 : Rho) (m2 : Mu), W2.h = H ∧ Same W1.s W2.s ∧ LeM m m2 W W2 ∧ EnvD X.K W2.s σ' ρ1 ∧ MOk X.K W2 m2 ∧ Iv i ρ1 m2) ⟨W1, ρ, m, rfl, Same.refl _, le.toM m, E.le le, M.le le, h0⟩ (fun i σ' H _ ⟨W2, ρ1, m2, hh, ss, _⟩ => hh ▸ Wd.sqT (Same.sqT ss h2)) (fun i x σ' H H' hi ⟨W2, ρ1, m2, hh, ss, le2, E2, M2, hI⟩ y => ?_) fun σ' H ⟨W2, ρ1, m2, hh, ss, le2, E2, M2, hI⟩ => ?_
    · subst hh
      obtain ⟨rfl, hy⟩ := y
      obtain ⟨d, hd, rd⟩ := (RpL.mono ss _ _ h3).nth hy
      obtain ⟨ρ2, ⟨g, pg, hg⟩, hb⟩ := hstep i d ρ1 m2 hd hI
      intro pins s u I ru
      refine pg.run pins s σ' W2.h _ u _ I ru (hg σ' W2 _ E2 rd _ fun σ3 E3 => ?_)
      exact hb σ3 W2 E3 M2 _ ⟨fun d' m' v' W3 hR le3 M3 r3 => out.1 d' m' v' W3 hR (le2.trans le3) M3 r3, fun ρ3 m3 σ4 W3 hN le3 M3 E3 => ⟨W3, ρ3, m3, rfl, ss.trans le3.ss, le2.trans le3, E3, M3, hN⟩⟩
    · subst hh
      rw [h3.length] at hI
      exact out.2 ρ1 m2 σ' W2 (hend ρ1 m2 hI) le2 M2 E2)
/-! ### comprehensions -/
/-- what is walked, the objects as they were behind it -/
structure DIm (X : Cx) (tg iter : Expr) (ρ : Rho) (m : Mu) (items : List D) : Prop where
  ex : ∃ wi, PI X tg iter wi ∧ ∀ σ (W : Wd), EnvD X.K W.s σ ρ → MOk X.K W m → ∀ R : It → Hp → Prop,
    (∀ (J : It) (W1 : Wd) (G : Hp → Prop) (Y : Nat → Hp → V → Hp → Prop), LeM m m W W1 → MOk X.K W1 m → Walk J items.length G Y → (∀ H', Same W1.s H' → G H') →
      (∀ (i : Nat) (W2 : Wd) (v : V) (Hb : Hp), Same W1.s W2.s → Y i W2.h v Hb → ∃ (W3 : Wd) (d : D), W3.h = Hb ∧ Le W2 W3 ∧ items[i]? = some d ∧ Rp X.K W3.s d v) → R J W1.h) → wi σ W.h R
theorem diRm {n : Nat} {p pos : Pos} (hm : X.mg "range" = none) (h : EM X a ρ m fun d m' => d = .int (n : Int) ∧ m' = m) (hn : n ≤ 1000000) (hg : Gl X "range" := by rfl) (hs : starEach [a] X.env = [(false, eval a X.env)] := by rfl) :
    DIm X tg (.Call (.Name "range" p) [a] [] pos) ρ m ((List.range n).map fun (i : Nat) => D.int (i : Int)) := ⟨_, pi_range1 hg hm (pa_cons (peW a) pa_nil hs) hs, fun σ W E M R q => h σ W E M _ fun d m1 v W1 ⟨ed, em⟩ le M1 r1 => by
  subst em ed
  have w : Walk (Itr 0 (n : Int).toNat) ((List.range n).map fun (i : Nat) => D.int (i : Int)).length (fun _ => True) (fun i H x H' => (H' = H ∧ x = .int (0 + (i : Int))) ∧ i < n) := by
    rw [List.length_map, List.length_range, Int.toNat_natCast]
    exact (walk_range (lo := 0) (n := n)).mono (fun _ _ => trivial) fun i H x H' hi _ y => ⟨y, hi⟩
  refine ⟨n, by rw [show v = .int n from r1], by omega, by omega, q _ W1 _ _ le M1 w (fun _ _ => trivial) fun i W2 v Hb e2 y => ?_⟩
  obtain ⟨⟨rfl, rfl⟩, hi⟩ := y
  exact ⟨W2, .int (i : Int), rfl, Le.refl _, by rw [List.getElem?_map, List.getElem?_range hi]; rfl, by show V.int (0 + (i : Int)) = V.int i; rw [Int.zero_add]⟩⟩
theorem diZTm {p pos tpos : Pos} {elts : List Expr} {kk : Nat} (hm : X.mg "zip" = none) (h : EM X a ρ m fun d m' => d = .tup ds ∧ m' = m) (h2 : DE X b ρ (.tup ds2)) (hg : Gl X "zip" := by rfl)
    (hs : starEach [a, b] X.env = (false, eval a X.env) :: starEach [b] X.env := by rfl) (hs2 : starEach [b] X.env = (false, eval b X.env) :: starEach [] X.env := by rfl) (hpl : (backTo pos (starEach [b] X.env)).any (·.1) = false := by rfl) :
    DIm X (.Tuple elts kk tpos) (.Call (.Name "zip" p) [a, b] [] pos) ρ m (zipD ds ds2) := ⟨_, RZ.pi_zipA hg hm (pa_cons (peW a) (pa_cons (peW b) pa_nil hs2) hs) hs hpl, fun σ W E M R q => h σ W E M _ fun d m1 v W1 ⟨ed, em⟩ le M1 r1 => by
  subst em ed
  refine h2 σ W1 (E.mm le) _ fun u W2 e2 r2 => ?_
  obtain ⟨p1, xs, rfl, a2, a3⟩ := Rp.le e2 r1
  obtain ⟨p2, ys, rfl, b2, b3⟩ := r2
  refine ⟨p1, p2, xs, ys, rfl, .inr ⟨Wd.sqT a2, Wd.sqT b2, q _ W2 _ _ (le.trans (e2.toM _)) (M1.le e2) (walk_zipT (by rw [zipD_length, a3.length, b3.length])) (fun H' s => ⟨Same.sqT s a2, Same.sqT s b2⟩) fun i W3 v Hb e3 y => ?_⟩⟩
  obtain ⟨T, x, z, rfl, hT, rfl, hx, hz⟩ := y
  obtain ⟨d1, g1, r1⟩ := (RpL.mono e3 _ _ a3).nth hx
  obtain ⟨d2, g2, r2⟩ := (RpL.mono e3 _ _ b3).nth hz
  exact ⟨W3.new T _, _, rfl, Le.new1 hT, zipD_get g1 g2, pair_rp hT r1 r2⟩⟩
theorem MOk.tail {K : PySem.W.Frag} {W : Wd} {q : Addr × MO} (h : MOk K W (q :: m)) : MOk K W m := ⟨fun p hp => h.at_ p (List.mem_cons_of_mem _ hp), (List.nodup_cons.mp h.nd).2⟩
/-- the reading of a comprehension beside objects -/
theorem lc_readM {wi : TI} {g : TG} {tt : TT} {te : TE} {vs : List Nat} (f : D → Option D) (hl : items.length ≤ 1000)
    (hi : ∀ σ (W : Wd), EnvD X.K W.s σ ρ → MOk X.K W m → ∀ R : It → Hp → Prop,
    (∀ (J : It) (W1 : Wd) (G : Hp → Prop) (Y : Nat → Hp → V → Hp → Prop), LeM m m W W1 → MOk X.K W1 m → Walk J items.length G Y → (∀ H', Same W1.s H' → G H') →
      (∀ (i : Nat) (W2 : Wd) (v : V) (Hb : Hp), Same W1.s W2.s → Y i W2.h v Hb → ∃ (W3 : Wd) (d : D), W3.h = Hb ∧ Le W2 W3 ∧ items[i]? = some d ∧ Rp X.K W3.s d v) → R J W1.h) → wi σ W.h R)
    (hs : ∀ (q : Addr × MO), ∀ d ∈ items, ∃ ρ2 b, BindC X.K g vs (wipeD ρ vs) d ρ2 ∧ (∀ σ (W : Wd), EnvD X.K W.s σ ρ2 → MOk X.K W (q :: m) → ∀ Q : Bool → Hp → Prop, (∀ W2, LeM (q :: m) (q :: m) W W2 → MOk X.K W2 (q :: m) → Q b W2.h) → tt σ W.h Q) ∧
      (b = false → f d = none) ∧ (b = true → ∃ z, f d = some z ∧ ∀ σ (W : Wd), EnvD X.K W.s σ ρ2 → MOk X.K W (q :: m) → ∀ Q : VK, (∀ v W2, LeM (q :: m) (q :: m) W W2 → MOk X.K W2 (q :: m) → Rp X.K W2.s z v → Q v W2.h) → te σ W.h Q)) :
    ∀ σ (W : Wd), EnvD X.K W.s σ ρ → MOk X.K W m → ∀ Q : VK, (∀ v W2, LeM m m W W2 → MOk X.K W2 m → Rp X.K W2.s (.lst (items.filterMap f)) v → Q v W2.h) → tLc wi g tt te vs σ W.h Q := by
  intro σ W E M Q q
  refine hi σ W E M _ fun J W1 G Y e1 M1 w hG hY D hD => ?_
  refine lc_it w (fun i H => ∃ W2 : Wd, W2.h = H ∧ LeM m ((D, .lst ((items.take i).filterMap f)) :: m) W1 W2 ∧ MOk X.K W2 ((D, .lst ((items.take i).filterMap f)) :: m)) ⟨W1.neu D (.lst []) hD, rfl, LeM.neu hD, M1.neu hD ⟨[], upd_same, by simp [RpL]⟩⟩ (fun i H hi ⟨W2, hh, le, _⟩ => hG H (hh ▸ le.ss.trans W2.sub)) (fun i v H H' hi ⟨W2, hh, le, M2⟩ y => ?_) fun H ⟨W2, hh, le, M2⟩ => ?_
  · subst hh
    obtain ⟨W3, d, rfl, le3, hd, rd⟩ := hY i W2 v _ le.ss y
    obtain ⟨ρ2, b, hb, ht, hf, hz⟩ := hs (D, .lst ((items.take i).filterMap f)) d (List.mem_of_getElem? hd)
    have M3 := M2.le le3
    have E3 : EnvD X.K W3.s (wipe σ vs) (wipeD ρ vs) := (((E.wipe vs).mm e1).mm le).le le3
    have tk : (items.take (i + 1)).filterMap f = (items.take i).filterMap f ++ (f d).toList := by
      rw [getElem?_take_succ hd, List.filterMap_append]
      congr 1
    refine hb σ W3 v E3 rd _ fun σ2 E4 hw => ⟨hw, ht σ2 W3 E4 M3 _ fun W4 le4 M4 => ?_⟩
    have leA := (le.trans (le3.toM _)).trans le4
    cases b with
    | false =>
      refine iteF ⟨W4, rfl, ?_, ?_⟩
      · rw [tk, hf rfl]; simpa using leA
      · rw [tk, hf rfl]; simpa using M4
    | true =>
      obtain ⟨z, hz1, hz2⟩ := hz rfl
      refine iteT (hz2 σ2 W4 (E4.mm le4) M4 _ fun y W5 le5 M5 ry => ?_)
      obtain ⟨hs5, xs, hx, rx⟩ := MOk.mem (pre := []) M5
      have hlen : xs.length < sizeLine := by
        rw [rx.length]
        refine small1000 (Nat.le_trans (List.length_filterMap_le _ _) ?_)
        rw [List.length_take]; omega
      refine ⟨xs, hx, hlen, W5.put D (.lst (xs ++ [y])) hs5, rfl, ?_, ?_⟩
      · rw [tk, hz1]
        exact (leA.trans le5).trans (LeM.put (pre := []) hs5 (by rw [hx]; exact fun z => nomatch z))
      · rw [tk, hz1]
        exact MOk.put (pre := []) M5 hs5 ⟨xs ++ [y], upd_same, show RpL X.K W5.s _ _ from RpL.append rx ⟨y, [], rfl, ry, rfl⟩⟩
  · subst hh
    rw [List.take_length] at le M2
    obtain ⟨u, hu, M3, le3, r3⟩ := MOk.frz (pre := []) M2
    exact q (.ref D) (W2.frz D u hu) ((e1.trans le).trans le3) M3 r3
variable {scope : Scope} {own : List (Str × Nat)} {g : TG}
def keepT (b : Bool) (m : Mu) : Bool → Mu → Prop := fun z m' => z = b ∧ m' = m
def keepE (d : D) (m : Mu) : D → Mu → Prop := fun z m' => z = d ∧ m' = m
/-- [elt for tg in iter if c] -/
theorem em_lcIf {c : Expr} (f : D → Option D) (hc : X.calm = true) (nd : X.N.Nodup) (hi : DIm X tg iter ρ m items) (ok : BlkOk X.N X.env.scope scope own) (hg : Blk X scope fun X' => PG X' tg g) (hl : items.length ≤ 1000)
    (hs : ∀ q : Addr × MO, ∀ d ∈ items, ∃ ρ2 b, BindC X.K g (own.map (·.2)) (wipeD ρ (own.map (·.2))) d ρ2 ∧ (Blk X scope fun X' => TM X' c ρ2 (q :: m) (keepT b (q :: m))) ∧ (b = false → f d = none) ∧ (b = true → ∃ z, f d = some z ∧ Blk X scope fun X' => EM X' elt ρ2 (q :: m) (keepE z (q :: m))))
    (hS : S (.lst (items.filterMap f)) m) (hfs : ∀ x, foldedSetIterable iter X.env x = pure x := by intro _; rfl) : EM X (.ListComp elt [⟨tg, iter, [c], 0⟩] scope pos) ρ m S := by
  obtain ⟨wi, pi, hw⟩ := hi.ex
  intro σ W E M Q q pins s I
  refine (pe_lc (te := tElt X scope elt) hc nd pi ok hg (fun s H C cl fp => pts_one (t := tIf1 X scope c) ⟨fun pins s' σ H' Q I h => h s H C cl fp pins s' I⟩) (fun s H C cl fp => ⟨fun pins s' σ H' Q I h => h s H C cl fp pins s' I⟩) hfs).run pins s σ W.h Q I ?_
  exact lc_readM (X := X) (ρ := ρ) (tt := tIf1 X scope c) (te := tElt X scope elt) (g := g) (vs := own.map (·.2)) f hl hw (fun qq d hd => by
    obtain ⟨ρ2, b, hb, ht, h1, h2⟩ := hs qq d hd
    exact ⟨ρ2, b, hb, fun σ W E M Q q s H C cl fp => ht s H C cl fp σ W E M Q fun z m' W2 ⟨e1, e2⟩ le M2 => by subst e1 e2; exact q W2 le M2, h1, fun hb => by
      obtain ⟨z, hz, he⟩ := h2 hb
      exact ⟨z, hz, fun σ W E M Q q s H C cl fp => he s H C cl fp σ W E M Q fun d' m' v W2 ⟨e1, e2⟩ le M2 r => by subst e1 e2; exact q v W2 le M2 r⟩⟩) σ W E M Q fun v W2 le M2 r => q _ m v W2 hS le M2 r
/-- [elt for tg in iter] -/
theorem em_lc (f : D → D) (hc : X.calm = true) (nd : X.N.Nodup) (hi : DIm X tg iter ρ m items) (ok : BlkOk X.N X.env.scope scope own) (hg : Blk X scope fun X' => PG X' tg g) (hl : items.length ≤ 1000)
    (hs : ∀ q : Addr × MO, ∀ d ∈ items, ∃ ρ2, BindC X.K g (own.map (·.2)) (wipeD ρ (own.map (·.2))) d ρ2 ∧ Blk X scope fun X' => EM X' elt ρ2 (q :: m) (keepE (f d) (q :: m)))
    (hS : S (.lst (items.map f)) m) (hfs : ∀ x, foldedSetIterable iter X.env x = pure x := by intro _; rfl) : EM X (.ListComp elt [⟨tg, iter, [], 0⟩] scope pos) ρ m S := by
  obtain ⟨wi, pi, hw⟩ := hi.ex
  intro σ W E M Q q pins s I
  refine (pe_lc (te := tElt X scope elt) hc nd pi ok hg (fun _ _ _ _ _ => pts_nil) (fun s H C cl fp => ⟨fun pins s' σ H' Q I h => h s H C cl fp pins s' I⟩) hfs).run pins s σ W.h Q I ?_
  have h := lc_readM (X := X) (ρ := ρ) (m := m) (tt := tYes) (te := tElt X scope elt) (g := g) (vs := own.map (·.2)) (fun d => some (f d)) hl hw fun qq d hd => by
    obtain ⟨ρ2, hb, he⟩ := hs qq d hd
    exact ⟨ρ2, true, hb, fun σ W E M Q q => q W (LeM.refl _ W) M, (fun q => nomatch q), fun _ => ⟨f d, rfl, fun σ W E M Q q s H C cl fp => he s H C cl fp σ W E M Q fun d' m' v W2 ⟨e1, e2⟩ le M2 r => by subst e1 e2; exact q v W2 le M2 r⟩⟩
  have e : items.filterMap (fun d => some (f d)) = items.map f := by rw [List.filterMap_eq_map']
  rw [e] at h
  exact h σ W E M Q fun v W2 le M2 r => q _ m v W2 hS le M2 r
end
end K31
end
section
set_option maxHeartbeats 2000000
set_option autoImplicit false
/-! Sorted lists of ints, of tuples of ints; a dict's keys and values; one sequence behind another. -/
namespace K31
open PySem PySem.Spec PyProof.Rows L2
section
variable {α β : Type} {f : α → Int} {xs ys : List α}
def srt (f : α → Int) (xs : List α) : List α := xs.mergeSort fun a b => decide (f a ≤ f b)
theorem srt_perm : (srt f xs).Perm xs := List.mergeSort_perm ..
theorem srt_pw : (srt f xs).Pairwise fun a b => f a ≤ f b := by
  have h := List.pairwise_mergeSort (le := fun a b => decide (f a ≤ f b)) (fun a b c h1 h2 => decide_eq_true (Int.le_trans (of_decide_eq_true h1) (of_decide_eq_true h2))) (fun a b => by
    rcases Int.le_total (f a) (f b) with h | h
    · simp [h]
    · simp [h]) xs
  exact h.imp fun h => of_decide_eq_true h
theorem srt_eq (hp : ys.Perm xs) (hs : ys.Pairwise fun a b => f a ≤ f b) (inj : ∀ a ∈ xs, ∀ b ∈ xs, f a = f b → a = b) : ys = srt f xs :=
  List.Perm.eq_of_pairwise (le := fun a b => f a ≤ f b) (fun a b ha hb h1 h2 => inj a (hp.mem_iff.mp ha) b (srt_perm.mem_iff.mp hb) (Int.le_antisymm h1 h2)) hs srt_pw (hp.trans srt_perm.symm)
theorem srt_map (g : β → α) {zs : List β} (inj : ∀ a ∈ zs, ∀ b ∈ zs, f (g a) = f (g b) → g a = g b) : srt f (zs.map g) = (srt (fun z => f (g z)) zs).map g :=
  (srt_eq (srt_perm.map g) (List.pairwise_map.mpr srt_pw) (fun a ha b hb h => by
    obtain ⟨x, hx, rfl⟩ := List.mem_map.mp ha
    obtain ⟨y, hy, rfl⟩ := List.mem_map.mp hb
    exact inj x hx y hy h)).symm
theorem srt_length : (srt f xs).length = xs.length := srt_perm.length_eq
theorem mem_srt {x : α} : x ∈ srt f xs ↔ x ∈ xs := srt_perm.mem_iff
end
section
variable {K : PySem.W.Frag} {H : Hp} {α : Type}
theorem RpL.permMap (g : α → D) : ∀ {xs ys : List V} (_ : ys.Perm xs) {ks : List α}, RpL K H (ks.map g) xs → ∃ ks' : List α, ks'.Perm ks ∧ RpL K H (ks'.map g) ys := fun hp => by
  induction hp with
  | nil => exact fun {ks} h => ⟨ks, .refl _, h⟩
  | cons x _ ih =>
    intro ks h
    cases ks with
    | nil => exact absurd h (by simp [RpL])
    | cons k ks =>
      obtain ⟨y, zs, e, h2, h3⟩ := h
      cases e
      obtain ⟨ks', p, r⟩ := ih h3
      exact ⟨k :: ks', p.cons k, x, _, rfl, h2, r⟩
  | swap x y l =>
    intro ks h
    match ks, h with
    | [], h => exact absurd h (by simp [RpL])
    | [k], h =>
      obtain ⟨_, _, e, _, h3⟩ := h
      cases e
      exact absurd h3 (by simp [RpL])
    | k :: k2 :: ks, h =>
      obtain ⟨_, _, e, h2, _, _, e2, h4, h5⟩ := h
      cases e
      cases e2
      exact ⟨k2 :: k :: ks, .swap .., _, _, rfl, h4, _, _, rfl, h2, h5⟩
  | trans _ _ ih1 ih2 =>
    intro ks h
    obtain ⟨k1, p1, r1⟩ := ih2 h
    obtain ⟨k2, p2, r2⟩ := ih1 r1
    exact ⟨k2, p2.trans p1, r2⟩
end
/-- these tuples are tracked themselves from now on -/
def Wd.keys (W : Wd) (bs : List Addr) : Wd := ⟨fun b => if b ∈ bs then W.h b else W.s b, W.h, fun b u e => by
  replace e : (if b ∈ bs then W.h b else W.s b) = some u := e
  by_cases q : b ∈ bs
  · rw [if_pos q] at e; exact e
  · rw [if_neg q] at e; exact W.sub b u e⟩
theorem Wd.le_keys {W : Wd} {bs : List Addr} (h : ∀ b ∈ bs, ∃ xs, W.h b = some (.tup xs)) : Le W (W.keys bs) := ⟨Same.refl _, fun b u e => by
  show (if b ∈ bs then W.h b else W.s b) = some u
  by_cases q : b ∈ bs
  · rw [if_pos q]; exact W.sub b u e
  · rw [if_neg q]; exact e, fun b _ hs => by
  by_cases q : b ∈ bs
  · exact .inr (h b q)
  · refine .inl ?_
    show (if b ∈ bs then W.h b else W.s b) = Option.none
    rw [if_neg q]; exact hs⟩
def keyD (k : List Int) : D := .tpx (k.map D.int)
theorem kT_rp {K : PySem.W.Frag} {H : Hp} : ∀ k : List Int, RpL K H (k.map D.int) ((k.map fun i => (Sum.inl i : Key)).map kV)
  | [] => rfl
  | i :: k => ⟨.int i, _, rfl, rfl, kT_rp k⟩
theorem isKeys_rp {K : PySem.W.Frag} {W W2 : Wd} : ∀ {ks : List (List Int)} {xs : List V} {bs : List Addr}, ks.length = xs.length → IsKeys W.h ((ks.map fun k => k.map fun i => (Sum.inl i : Key)).zip xs) bs → (∀ b ∈ bs, W2.s b = W.h b) → RpL K W2.s (ks.map keyD) (bs.map V.ref) ∧ ∀ b ∈ bs, ∃ xs, W.h b = some (.tup xs)
  | [], _, _, _, h, _ => by
    cases h
    exact ⟨rfl, fun b hb => absurd hb (by simp)⟩
  | k :: ks, [], _, hl, _, _ => by cases hl
  | k :: ks, x :: xs, _, hl, h, hb => by
    cases h with
    | cons h1 h2 =>
      obtain ⟨r, t⟩ := isKeys_rp (ks := ks) (xs := xs) (Nat.succ.inj hl) h2 fun b z => hb b (List.mem_cons_of_mem _ z)
      refine ⟨⟨_, _, rfl, ⟨_, _, rfl, (hb _ (List.mem_cons_self ..)).trans h1, kT_rp k⟩, r⟩, fun b z => ?_⟩
      rcases List.mem_cons.mp z with z | z
      · subst z; exact ⟨_, h1⟩
      · exact t b z
section
variable {X : Cx} {ρ : Rho} {e a b : Expr} {d : D} {ds ds2 : List D} {pos p : Pos}
theorem rints {K : PySem.W.Frag} {H : Hp} : ∀ ns : List Int, RpL K H (ns.map D.int) (ns.map V.int)
  | [] => rfl
  | i :: k => ⟨.int i, _, rfl, rfl, rints k⟩
/-- list(d) -/
theorem dlistK {ks : List Int} (hc : X.calm = true) (hm : X.mg "list" = none) (ha : DE X a ρ (.dK ks ds)) (hg : Gl X "list" := by rfl) (hs : starEach [a] X.env = (false, eval a X.env) :: starEach [] X.env := by rfl) : DE X (.Call (.Name "list" p) [a] [] pos) ρ (.lst (ks.map D.int)) :=
  .of (pe_callTy (call_list_dK hc) hg hm boot_list (pa_cons (peW a) pa_nil hs) (he := hs)) fun σ W E Q q => ha σ W E _ fun v W1 e1 r1 => by
    obtain ⟨t, xs, rfl, h2, h3, h4⟩ := r1
    refine ⟨t, _, rfl, W1.sub _ _ h2, fun p hp => ?_⟩
    have ex : (((ks.map fun k => (Sum.inl k : Key)).zip xs).map fun kv => kV kv.1) = ks.map V.int := by
      have l : ((ks.map fun k => (Sum.inl k : Key)).zip xs).map (·.1) = ks.map fun k => (Sum.inl k : Key) := List.map_fst_zip (by rw [List.length_map, h3.length]; omega)
      have l2 := congrArg (List.map kV) l
      rw [List.map_map, List.map_map] at l2
      exact l2
    rw [ex]
    refine q _ _ (e1.trans (Le.new1 hp)) ⟨p, _, rfl, .inl (.inl upd_same), rints ks⟩
theorem dlistT {ks : List (List Int)} (hc : X.calm = true) (hm : X.mg "list" = none) (ha : DE X a ρ (.dT ks ds)) (hg : Gl X "list" := by rfl) (hs : starEach [a] X.env = (false, eval a X.env) :: starEach [] X.env := by rfl) : DE X (.Call (.Name "list" p) [a] [] pos) ρ (.lst (ks.map keyD)) :=
  .of (pe_callTy (call_list_dT hc) hg hm boot_list (pa_cons (peW a) pa_nil hs) (he := hs)) fun σ W E Q q => ha σ W E _ fun v W1 e1 r1 => by
    obtain ⟨t, xs, rfl, h2, h3, h4⟩ := r1
    refine ⟨t, _, rfl, .inl (W1.sub _ _ h2), fun p bs hp hk => ?_⟩
    have hl : ks.length = xs.length := by rw [h3.length, h4]
    obtain ⟨_, tup⟩ := isKeys_rp (K := X.K) (W2 := W1.keys bs) hl hk fun b hb => if_pos hb
    have e2 : Le W1 (W1.keys bs) := Wd.le_keys tup
    have e3 : Le (W1.keys bs) ((W1.keys bs).new p (.lst (bs.map V.ref))) := Le.new1 hp
    obtain ⟨r, _⟩ := isKeys_rp (K := X.K) (W2 := W1.keys bs) hl hk fun b hb => if_pos hb
    exact q _ ((W1.keys bs).new p (.lst (bs.map V.ref))) ((e1.trans e2).trans e3) ⟨p, _, rfl, .inl (.inl upd_same), RpL.le e3 r⟩
/-- sorted(xs) -/
theorem dsortI {ns : List Int} (hm : X.mg "sorted" = none) (ha : DE X a ρ (.lst (ns.map D.int))) (hg : Gl X "sorted" := by rfl) (hs : starEach [a] X.env = (false, eval a X.env) :: starEach [] X.env := by rfl) : DE X (.Call (.Name "sorted" p) [a] [] pos) ρ (.lst ((srt (fun i => i) ns).map D.int)) :=
  .of (pe_callB cr_sortedI hg hm boot_sorted (pa_cons (peW a) pa_nil hs) (he := hs)) fun σ W E Q q => ha σ W E _ fun v W1 e1 r1 => by
    obtain ⟨t, xs, rfl, h2, h3⟩ := r1
    rw [rpl_ints h3] at h2
    refine ⟨t, ns, rfl, Wd.seq h2, fun ns' p hp hs hn => ?_⟩
    rw [srt_eq (f := fun i => i) hp hs fun a _ b _ h => h]
    exact q _ _ (e1.trans (Le.new1 hn)) ⟨p, _, rfl, .inl (.inl upd_same), rints _⟩
theorem dsortT {ks : List (List Int)} {n : Nat} {B : Int} (hn : 1 ≤ n) (hm : X.mg "sorted" = none) (ha : DE X a ρ (.lst (ks.map keyD))) (hl : ks.length < 64) (hk : ∀ k ∈ ks, k.length = n ∧ TS.Bd B k) (inj : ∀ a ∈ ks, ∀ b ∈ ks, TS.code B a = TS.code B b → a = b)
    (hg : Gl X "sorted" := by rfl) (hs : starEach [a] X.env = (false, eval a X.env) :: starEach [] X.env := by rfl) : DE X (.Call (.Name "sorted" p) [a] [] pos) ρ (.lst ((srt (TS.code B) ks).map keyD)) :=
  .of (pe_callB (cr_sortT (d := n) (B := B) hn) hg hm boot_sorted (pa_cons (peW a) pa_nil hs) (he := hs)) fun σ W E Q q => ha σ W E _ fun v W1 e1 r1 => by
    obtain ⟨t, xs, rfl, h2, h3⟩ := r1
    have tI : ∀ {k : List Int} {x : V}, Rp X.K W1.s (keyD k) x → TupI X.K W1.h x k := fun {k x} r => by
      obtain ⟨u, ys, rfl, h4, h5⟩ := r
      rw [rpl_ints h5] at h4
      exact ⟨u, rfl, .inl (.inl (W1.sub _ _ h4))⟩
    refine ⟨t, xs, rfl, Wd.seq h2, by rw [h3.length, List.length_map]; exact hl, fun x hx => ?_, fun ys p hp hs hnone => ?_⟩
    · obtain ⟨i, hi⟩ := List.getElem?_of_mem hx
      obtain ⟨d, hd, r⟩ := h3.nth hi
      rw [List.getElem?_map] at hd
      obtain ⟨k, hk', rfl⟩ := Option.map_eq_some_iff.mp hd
      have := hk k (List.mem_of_getElem? hk')
      exact ⟨k, tI r, this.1, this.2⟩
    · obtain ⟨ks', pk, rk⟩ := RpL.permMap keyD hp h3
      have e : ks' = srt (TS.code B) ks := by
        refine srt_eq pk ?_ inj
        rw [List.pairwise_iff_getElem] at hs ⊢
        intro i j hi hj hij
        have hly : ys.length = ks'.length := by rw [rk.length, List.length_map]
        have h1 := hs i j (by omega) (by omega) hij
        have get : ∀ i (hi : i < ks'.length), TupI X.K W1.h (ys[i]'(by omega)) ks'[i] := fun i hi => by
          obtain ⟨x, hx, r⟩ := rk.get (i := i) (d := keyD ks'[i]) (by rw [List.getElem?_map, List.getElem?_eq_getElem hi]; rfl)
          obtain ⟨_, hx'⟩ := List.getElem?_eq_some_iff.mp hx
          rw [hx']; exact tI r
        exact h1 _ _ (get i hi) (get j hj)
      rw [e] at rk
      exact q _ _ (e1.trans (Le.new1 hnone)) ⟨p, _, rfl, .inl (.inl upd_same), RpL.le (Le.new1 hnone) rk⟩
/-- d[k] -/
theorem valV_zip {κ : Type} [DecidableEq κ] {f : κ → Key} (hf : ∀ a b, f a = f b → a = b) : ∀ {ks : List κ} {xs : List V} {k : κ} {j : Nat} {x : V}, ks.Nodup → ks[j]? = some k → xs[j]? = some x → valV ((ks.map f).zip xs) (f k) = some x
  | [], _, _, _, _, _, h, _ => by simp at h
  | k' :: ks, [], _, _, _, _, _, h => by simp at h
  | k' :: ks, y :: xs, k, 0, x, _, h1, h2 => by
    simp at h1 h2
    subst h1 h2
    show valV ((f k', y) :: (ks.map f).zip xs) (f k') = some y
    rw [valV_pos rfl]
  | k' :: ks, y :: xs, k, j + 1, x, hn, h1, h2 => by
    obtain ⟨h3, h4⟩ := List.nodup_cons.mp hn
    have h1' : ks[j]? = some k := by simpa using h1
    have hne : ¬ f k' = f k := fun e => h3 (by rw [hf _ _ e]; exact List.mem_of_getElem? h1')
    show valV ((f k', y) :: (ks.map f).zip xs) (f k) = some x
    rw [valV_neg hne]
    exact valV_zip hf h4 h1' (by simpa using h2)
theorem valV_zipT {κ : Type} [DecidableEq κ] {f : κ → List Key} (hf : ∀ a b, f a = f b → a = b) : ∀ {ks : List κ} {xs : List V} {k : κ} {j : Nat} {x : V}, ks.Nodup → ks[j]? = some k → xs[j]? = some x → valV ((ks.map f).zip xs) (f k) = some x
  | [], _, _, _, _, _, h, _ => by simp at h
  | k' :: ks, [], _, _, _, _, _, h => by simp at h
  | k' :: ks, y :: xs, k, 0, x, _, h1, h2 => by
    simp at h1 h2
    subst h1 h2
    show valV ((f k', y) :: (ks.map f).zip xs) (f k') = some y
    rw [valV_pos rfl]
  | k' :: ks, y :: xs, k, j + 1, x, hn, h1, h2 => by
    obtain ⟨h3, h4⟩ := List.nodup_cons.mp hn
    have h1' : ks[j]? = some k := by simpa using h1
    have hne : ¬ f k' = f k := fun e => h3 (by rw [hf _ _ e]; exact List.mem_of_getElem? h1')
    show valV ((f k', y) :: (ks.map f).zip xs) (f k) = some x
    rw [valV_neg hne]
    exact valV_zipT hf h4 h1' (by simpa using h2)
theorem ddgetK {ks : List Int} {k : Int} {j : Nat} (hu : X.A.units + 1 < cLine) (ha : DE X a ρ (.dK ks ds)) (hb : DE X b ρ (.int k)) (hn : ks.Nodup) (hk : ks[j]? = some k) (hd : ds[j]? = some d) (hs : NoSl b := by exact fun _ _ => rfl) : DE X (.Subscript a b pos) ρ d :=
  .of (pe_dget hu (peW a) (peW b) hs) fun σ W E Q q => ha σ W E _ fun v W1 e1 r1 => hb σ W1 (E.le e1) _ fun w W2 e2 r2 => by
    obtain ⟨t, xs, rfl, h2, h3, h4⟩ := Rp.le e2 r1
    obtain ⟨x, hx, rx⟩ := h3.get hd
    have g := DGet.k (k := (Sum.inl k : Key)) (W2.sub _ _ h2)
    rw [valV_zip (f := fun k => (Sum.inl k : Key)) (fun a b e => Sum.inl.inj e) hn hk hx] at g
    rw [show w = kV (Sum.inl k) from r2]
    exact ⟨t, x, rfl, g, q x W2 (e1.trans e2) rx⟩
theorem ddgetT {ks : List (List Int)} {k : List Int} {j : Nat} (hu : X.A.units + 1 < cLine) (ha : DE X a ρ (.dT ks ds)) (hb : DE X b ρ (keyD k)) (hn : ks.Nodup) (hk : ks[j]? = some k) (hd : ds[j]? = some d) (hs : NoSl b := by exact fun _ _ => rfl) : DE X (.Subscript a b pos) ρ d :=
  .of (pe_dget hu (peW a) (peW b) hs) fun σ W E Q q => ha σ W E _ fun v W1 e1 r1 => hb σ W1 (E.le e1) _ fun w W2 e2 r2 => by
    obtain ⟨t, xs, rfl, h2, h3, h4⟩ := Rp.le e2 r1
    obtain ⟨x, hx, rx⟩ := h3.get hd
    obtain ⟨u, ys, rfl, h5, h6⟩ := r2
    have eu : W2.h u = some (.tup ((k.map fun i => (Sum.inl i : Key)).map kV)) := by
      rw [W2.sub _ _ h5, rpl_ints h6, List.map_map]; rfl
    have g := DGet.t (k := k.map fun i => (Sum.inl i : Key)) (W2.sub _ _ h2) eu
    rw [valV_zipT (f := fun k : List Int => k.map fun i => (Sum.inl i : Key)) (fun a b e => kT_inj e) hn hk hx] at g
    exact ⟨t, x, rfl, g, q x W2 (e1.trans e2) rx⟩
/-- t + u, xs + ys -/
def D.tupI : D → Option (List D)
  | .tup ds => some ds
  | .tpx ds => some ds
  | _ => none
theorem Rp.tupI {K : PySem.W.Frag} {W : Wd} {v : V} (h : Rp K W.s d v) (hd : d.tupI = some ds) : ∃ a xs, v = .ref a ∧ SqT K W.h a xs ∧ RpL K W.s ds xs := by
  cases d with
  | tup es =>
    cases hd
    obtain ⟨a, xs, e, h2, h3⟩ := h
    exact ⟨a, xs, e, Wd.sqT h2, h3⟩
  | tpx es =>
    cases hd
    obtain ⟨a, xs, e, h2, h3⟩ := h
    exact ⟨a, xs, e, .inl (.inl (W.sub _ _ h2)), h3⟩
  | _ => cases hd
theorem dcatT {d1 d2 : D} (ha : DE X a ρ d1) (hb : DE X b ρ d2) (h1 : d1.tupI = some ds) (h2 : d2.tupI = some ds2) (n1 : ds ≠ []) (n2 : ds2 ≠ []) (hl : ds.length + ds2.length ≤ 1000) : DE X (.BinOp a .Add b pos) ρ (.tup (ds ++ ds2)) :=
  .bin op_catT ha hb fun x y W hx hy Q q => by
    obtain ⟨s, xs, rfl, h3, h4⟩ := hx.tupI h1
    obtain ⟨t, ys, rfl, h5, h6⟩ := hy.tupI h2
    have l1 := h4.length
    have l2 := h6.length
    have m1 := List.length_pos_iff.mpr n1
    have m2 := List.length_pos_iff.mpr n2
    refine ⟨s, t, xs, ys, rfl, rfl, h3, h5, fun z => ?_, by rw [l1, l2]; exact sz_le hl, fun z => ?_, fun _ p hp => q _ _ (Le.new1 hp) ⟨p, _, rfl, .inl (.inl upd_same), RpL.le (Le.new1 hp) (RpL.append h4 h6)⟩⟩
    · subst z; simp at l1; omega
    · subst z; simp at l2; omega
def rCatL (K : PySem.W.Frag) : R2 := fun x y H Q => ∃ l b xs zs, x = .ref l ∧ y = .ref b ∧ SqL K H l xs ∧ SqL K H b zs ∧ xs.length + zs.length ≤ sizeLine ∧ ∀ p, H p = none → Q (.ref p) (upd H p (.lst (xs ++ zs)))
theorem op_catL : OpR X (binaryOp .Add) (rCatL X.K) := by
  intro pins s σ H x y v u Q I rx ry h
  obtain ⟨l, b, xs, zs, rfl, rfl, hH, hB, hz, q⟩ := h
  cases rx
  cases ry
  obtain ⟨its, r, hl, z1⟩ := I.list hH
  obtain ⟨its2, r2, hl2, z2⟩ := I.list hB
  obtain ⟨⟨cls, dd, data, sl⟩, ho, hc, n, hd⟩ := hl.isList
  obtain ⟨⟨cls2, dd2, data2, sl2⟩, ho2, hc2, n2, hd2⟩ := hl2.isList
  simp only at hc hd hc2 hd2
  subst hc hd hc2 hd2
  refine concat_meets ⟨_, ho, rfl⟩ ⟨_, ho2, rfl⟩ noFill_list_add seq_list_add PySem.F.slot_list_add PySem.F.entry_list_add (PySem.F.args_list_add_2 _ _) (list_addW _ _ its.toArray its2.toArray n n2 dd dd2 sl sl2 (by have := r.length; have := r2.length; rw [List.size_toArray, List.size_toArray]; omega)) ⟨ho, ho2, ?_⟩
  have ea : its.toArray ++ its2.toArray = (its ++ its2).toArray := by simp
  rw [ea]
  exact ⟨.ref _, _, I.lnew (t' := s.toks) (r.append r2) (by rw [List.length_append]; omega), rfl, q _ I.fresh⟩
theorem dcatL (ha : DE X a ρ (.lst ds)) (hb : DE X b ρ (.lst ds2)) (hl : ds.length + ds2.length ≤ 1000) : DE X (.BinOp a .Add b pos) ρ (.lst (ds ++ ds2)) :=
  .bin op_catL ha hb fun x y W hx hy Q q => by
    obtain ⟨s, xs, rfl, h3, h4⟩ := hx
    obtain ⟨t, ys, rfl, h5, h6⟩ := hy
    exact ⟨s, t, xs, ys, rfl, rfl, Wd.seq h3, Wd.seq h5, by rw [h4.length, h6.length]; exact sz_le hl, fun p hp => q _ _ (Le.new1 hp) ⟨p, _, rfl, .inl (.inl upd_same), RpL.le (Le.new1 hp) (RpL.append h4 h6)⟩⟩
end
end K31
end
section
set_option maxHeartbeats 2000000
set_option autoImplicit false
/-! Numbers: a rational as data. -/
namespace K31
open PySem PySem.Spec PyProof.Rows L2

def numD (q : Rat) : D := if q.den = 1 then .int q.num else .tup [.int q.num, .int q.den]
theorem numD_int {q : Rat} (h : q.den = 1) : numD q = .int q.num := if_pos h
theorem numD_pair {q : Rat} (h : q.den ≠ 1) : numD q = .tup [.int q.num, .int q.den] := if_neg h
theorem numD_intCast (i : Int) : numD (i : Rat) = .int i := by rw [numD_int (by simp)]; simp
theorem numD_inj {p q : Rat} (h : numD p = numD q) : p = q := by
  unfold numD at h
  split at h <;> split at h
  · rename_i h1 h2
    injection h with h
    exact Rat.ext h (h1.trans h2.symm)
  · cases h
  · cases h
  · injection h with h
    injection h with h1 h2
    injection h1 with h1
    injection h2 with h2 _
    injection h2 with h2
    exact Rat.ext h1 (by exact_mod_cast h2)
theorem numD_eq_int {q : Rat} {i : Int} : numD q = .int i ↔ q = i := by
  constructor
  · intro h
    exact numD_inj (h.trans (numD_intCast i).symm)
  · intro h; rw [h, numD_intCast]
theorem numD_good (q : Rat) (n : Nat) : Good (numD q) (n + 1) := by
  unfold numD
  split
  · trivial
  · exact ⟨trivial, trivial, trivial⟩
theorem numD_good9 (q : Rat) : Good (numD q) 9 := numD_good q 8
theorem numD_ty (q : Rat) : ∃ t, (numD q).ty = some t ∧ (t = "int" ∨ t = "tuple") := by
  unfold numD
  split
  · exact ⟨_, rfl, .inl rfl⟩
  · exact ⟨_, rfl, .inr rfl⟩
theorem numD_notNon (q : Rat) : (numD q).isNon = false := by
  unfold numD
  split <;> rfl
theorem natCast_dvd' {n : Nat} {i : Int} (h : n ∣ i.natAbs) : (n : Int) ∣ i := Int.natAbs_dvd_natAbs.mp (by simpa using h)
/-- what lowest reckons -/
theorem low_num {a b : Int} (hb : b ≠ 0) :
    let g : Int := (a.natAbs.gcd b.natAbs : Nat)
    let p : Int := if b < 0 then -g else g
    a.fdiv p = (Rat.divInt a b).num ∧ b.fdiv p = ((Rat.divInt a b).den : Int) := by
  intro g p
  have hg : 0 < a.natAbs.gcd b.natAbs := Nat.gcd_pos_of_pos_right _ (Int.natAbs_pos.mpr hb)
  have hgi : ((Int.gcd b a : Nat) : Int) = g := by
    show ((b.natAbs.gcd a.natAbs : Nat) : Int) = _
    rw [Nat.gcd_comm]
  have hga : g ∣ a := natCast_dvd' (Nat.gcd_dvd_left _ _)
  have hgb : g ∣ b := natCast_dvd' (Nat.gcd_dvd_right _ _)
  have g0 : (0 : Int) < g := Int.natCast_pos.mpr hg
  obtain ⟨a', ea⟩ := hga
  obtain ⟨b', eb⟩ := hgb
  have hb' : b' ≠ 0 := fun e => hb (by rw [eb, e, Int.mul_zero])
  rw [Rat.num_divInt, Rat.den_divInt, if_neg hb, hgi]
  have e3 : (b.natAbs : Int) / ((Int.gcd b a : Nat) : Int) = b'.natAbs := by
    rw [hgi, eb, Int.natAbs_mul]
    have : ((g.natAbs * b'.natAbs : Nat) : Int) = g * b'.natAbs := by
      rw [Int.natCast_mul, Int.natAbs_of_nonneg (by omega)]
    rw [this, Int.mul_ediv_cancel_left _ (by omega)]
  have e4 : ((b.natAbs / Int.gcd b a : Nat) : Int) = b'.natAbs := by rw [Int.natCast_ediv]; exact e3
  rw [e4]
  by_cases hn : b < 0
  · have hp : p = -g := if_pos hn
    have hbn : b' < 0 := by
      rcases (show b' < 0 ∨ 0 ≤ b' by omega) with z | z
      · exact z
      · have := Int.mul_nonneg (Int.le_of_lt g0) z
        omega
    have s1 : b.sign = -1 := Int.sign_eq_neg_one_of_neg hn
    rw [hp, s1]
    constructor
    · have e1 : a = -g * -a' := by rw [ea, Int.neg_mul_neg]
      rw [e1, Int.mul_fdiv_cancel_left _ (by omega)]
      have e2 : (-1 : Int) * (-g * -a') = g * -a' := by rw [Int.neg_mul_neg, Int.mul_neg, Int.neg_mul, Int.one_mul]
      rw [e2, Int.mul_ediv_cancel_left _ (by omega)]
    · have e1 : b = -g * -b' := by rw [eb, Int.neg_mul_neg]
      rw [e1, Int.mul_fdiv_cancel_left _ (by omega)]
      omega
  · have hp : p = g := if_neg hn
    have hbn : 0 < b' := by
      rcases (show 0 < b' ∨ b' ≤ 0 by omega) with z | z
      · exact z
      · have h1 : b' < 0 := by omega
        have := Int.mul_neg_of_pos_of_neg g0 h1
        omega
    have s1 : b.sign = 1 := Int.sign_eq_one_of_pos (by omega)
    rw [hp, s1, Int.one_mul]
    constructor
    · rw [ea, Int.mul_fdiv_cancel_left _ (by omega), Int.mul_ediv_cancel_left _ (by omega)]
    · rw [eb, Int.mul_fdiv_cancel_left _ (by omega)]
      omega
/-- below a power of two, told so that no tactic reckons the power -/
def Lt2 (x n : Nat) : Prop := x < 2 ^ n
theorem Lt2.up {x n m : Nat} (h : Lt2 x n) (hm : n ≤ m) : Lt2 x m := Nat.lt_of_lt_of_le h (Nat.pow_le_pow_right (by decide) hm)
theorem Lt2.le {x y n : Nat} (h : Lt2 y n) (hm : x ≤ y) : Lt2 x n := Nat.lt_of_le_of_lt hm h
theorem Lt2.mul {x y n m : Nat} (h : Lt2 x n) (h' : Lt2 y m) : Lt2 (x * y) (n + m) := by
  unfold Lt2 at *
  rw [Nat.pow_add]
  exact Nat.mul_lt_mul'' h h'
theorem Lt2.add {x y n : Nat} (h : Lt2 x n) (h' : Lt2 y n) : Lt2 (x + y) (n + 1) := by
  unfold Lt2 at *
  rw [Nat.pow_succ]
  omega
/-- the size of numerators, of denominators -/
abbrev bN : Nat := 100000
abbrev bD : Nat := 9000
structure Pr (p q : Rat) : Prop where
  np : Lt2 p.num.natAbs bN
  nq : Lt2 q.num.natAbs bN
  dd : Lt2 (p.den * q.den) bD
theorem Pr.dp {p q : Rat} (h : Pr p q) : Lt2 p.den bD := h.dd.le (Nat.le_mul_of_pos_right _ q.den_pos)
theorem Pr.dq {p q : Rat} (h : Pr p q) : Lt2 q.den bD := h.dd.le (Nat.le_mul_of_pos_left _ p.den_pos)
theorem Pr.symm {p q : Rat} (h : Pr p q) : Pr q p := ⟨h.nq, h.np, by rw [Nat.mul_comm]; exact h.dd⟩
theorem Pr.neg {p q : Rat} (h : Pr p q) : Pr p (-q) := ⟨h.np, by simpa using h.nq, h.dd⟩
theorem cm1 {i j : Int} (hi : Lt2 i.natAbs bN) (hj : Lt2 j.natAbs bN) : CMulW i j := wide_mul (a := bN) (b := bN) hi hj (by decide) (by decide) (by decide)
theorem Lt2.nd {n : Nat} (h : Lt2 n bD) : Lt2 n bN := h.up (by decide)
theorem log2_lt' {x n : Nat} (h0 : 0 < n) (h : Lt2 x n) : x.log2 < n := PySem.Flt.log2_lt_of h0 h
theorem divG {i j : Int} (h : j ≠ 0) (hb : Lt2 j.natAbs bD) : CDivG i j := ⟨h, PyProof.noPylong_of_log2 (log2_lt' (n := bD) (by decide) hb)⟩
end K31
end
section
set_option maxHeartbeats 2000000
set_option autoImplicit false
/-! The walk: checks. -/
namespace K31
open PySem PySem.Spec PyProof.Rows L2
section
variable {P : Program} {w : World} {K : PySem.W.Frag} {mg : Str → Option Value} {base : Heap}
theorem boot_bool' : bootBuiltins "bool" = some (.type "bool") := by decide +kernel
def isInt : D → Bool
  | .int _ => true
  | _ => false
def S_is_integer (ds : List D) (d : D) : Prop := ∃ x t, ds = [x] ∧ x.ty = some t ∧ d = .bl (isInt x)
abbrev N_is_integer : List Str := ["value"]
theorem sc_is_integer : FnScope N_is_integer ["value"] (defScope s_is_integer) := ⟨rfl, rfl, rfl, by decide +kernel, rfl, by decide +kernel, by decide +kernel⟩
theorem ok_is_integer (T : TB K mg) : Ok P w K mg base 1 "is_integer" 1 S_is_integer := by
  obtain ⟨fd, F⟩ := T.f_is_integer
  refine ok_of (N := N_is_integer) (ps := ["value"]) F T.g_is_integer sc_is_integer rfl (fun _ _ _ _ _ _ us hl => match us, hl with | [_], _ => rfl) fun cdv A outer s H ds d E hr hl hS => ?_
  obtain ⟨x, t, rfl, ht, rfl⟩ := hS
  cases x <;> cases ht
  · exact ⟨_, dbR (dret (de_and_f (disi (z := false) T.b_isinstance T.b_int boot_int (dv 0 rfl) rfl))), .inl rfl⟩
  · exact ⟨_, dbR (dret (de_and (disi (z := true) T.b_isinstance T.b_int boot_int (dv 0 rfl) rfl) fun _ => (de_one (de_not (disi (z := true) T.b_isinstance T.b_bool boot_bool' (dv 0 rfl) rfl))))), .inl rfl⟩
  · exact ⟨_, dbR (dret (de_and (disi (z := true) T.b_isinstance T.b_int boot_int (dv 0 rfl) rfl) fun _ => (de_one (de_not (disi (z := false) T.b_isinstance T.b_bool boot_bool' (dv 0 rfl) rfl))))), .inl rfl⟩
  · exact ⟨_, dbR (dret (de_and_f (disi (z := false) T.b_isinstance T.b_int boot_int (dv 0 rfl) rfl))), .inl rfl⟩
  · exact ⟨_, dbR (dret (de_and_f (disi (z := false) T.b_isinstance T.b_int boot_int (dv 0 rfl) rfl))), .inl rfl⟩
  · exact ⟨_, dbR (dret (de_and_f (disi (z := false) T.b_isinstance T.b_int boot_int (dv 0 rfl) rfl))), .inl rfl⟩
/-- from least to most, None for no bound -/
def geD : D → Int → Bool
  | .int l, i => decide (l ≤ i)
  | _, _ => true
def leD : D → Int → Bool
  | .int l, i => decide (i ≤ l)
  | _, _ => true
def isBound : D → Prop
  | .int _ => True
  | .non => True
  | _ => False
def withinD : D → D → D → Bool
  | .int i, a, b => geD a i && leD b i
  | _, _, _ => false
def S_is_within (ds : List D) (d : D) : Prop := ∃ x a b t, ds = [x, a, b] ∧ x.ty = some t ∧ isBound a ∧ isBound b ∧ d = .bl (withinD x a b)
abbrev N_is_within : List Str := ["value", "least", "most"]
theorem sc_is_within : FnScope N_is_within ["value", "least", "most"] (defScope s_is_within) := ⟨rfl, rfl, rfl, by decide +kernel, rfl, by decide +kernel, by decide +kernel⟩
theorem ok_is_within (T : TB K mg) : Ok P w K mg base 2 "is_within" 3 S_is_within := by
  obtain ⟨fd, F⟩ := T.f_is_within
  refine ok_of (N := N_is_within) (ps := ["value", "least", "most"]) F T.g_is_within sc_is_within rfl (fun _ _ _ _ _ _ us hl => match us, hl with | [_, _, _], _ => rfl) fun cdv A outer s H ds d E hr hl hS => ?_
  obtain ⟨x, a, b, t, rfl, ht, ha, hb, rfl⟩ := hS
  by_cases hi : isInt x = true
  · cases x <;> cases hi
    rename_i i
    refine ⟨_, db1 (dif_f (dt_not (dt_val (dcall (ok_is_integer T) (hr.mono (by decide)) (dacons (dv 0 rfl) danil) ⟨_, _, rfl, ht, rfl⟩))) db0) (dbR (dret (d := .bl (withinD (.int i) a b)) ?_)), .inl rfl⟩
    cases a <;> cases ha <;> cases b <;> cases hb
    · exact DE.is (de_and (de_or_t (de_cmp cisN (dv 1 rfl) dnon)) fun _ => (de_one (de_or_t (de_cmp cisN (dv 2 rfl) dnon)))) rfl
    · exact DE.is (de_and (de_or_t (de_cmp cisN (dv 1 rfl) dnon)) fun _ => (de_one (de_or (de_cmp cisN (dv 2 rfl) dnon) fun _ => (de_one (de_cmp cle (dv 0 rfl) (dv 2 rfl)))))) rfl
    · exact DE.is (de_and (de_or (de_cmp cisN (dv 1 rfl) dnon) fun _ => (de_one (de_cmp cle (dv 1 rfl) (dv 0 rfl)))) fun _ => (de_one (de_or_t (de_cmp cisN (dv 2 rfl) dnon)))) rfl
    · exact DE.is (de_and (de_or (de_cmp cisN (dv 1 rfl) dnon) fun _ => (de_one (de_cmp cle (dv 1 rfl) (dv 0 rfl)))) fun _ => (de_one (de_or (de_cmp cisN (dv 2 rfl) dnon) fun _ => (de_one (de_cmp cle (dv 0 rfl) (dv 2 rfl)))))) rfl
  · have h2 : isInt x = false := by simpa using hi
    have h3 : withinD x a b = false := by cases x <;> first | rfl | cases h2
    rw [h3]
    refine ⟨_, dbR (dif_t (DT.is (dt_not (dt_val (dcall (ok_is_integer T) (hr.mono (by decide)) (dacons (dv 0 rfl) danil) ⟨_, _, rfl, ht, rfl⟩))) (by rw [h2]; rfl)) (dbR (dret dbl))), .inl rfl⟩
end
end K31
end
section
set_option maxHeartbeats 2000000
set_option autoImplicit false
/-! The walk: lists of ints, the greatest common part, numbers. -/
namespace K31
open PySem PySem.Spec PyProof.Rows L2
section
variable {P : Program} {w : World} {K : PySem.W.Frag} {mg : Str → Option Value} {base : Heap}
def S_is_list (ds : List D) (d : D) : Prop := ∃ x t, ds = [x] ∧ x.ty = some t ∧ d = .bl (isSeq x)
abbrev N_is_list : List Str := ["value"]
theorem sc_is_list : FnScope N_is_list ["value"] (defScope s_is_list) := ⟨rfl, rfl, rfl, by decide +kernel, rfl, by decide +kernel, by decide +kernel⟩
theorem ok_is_list (T : TB K mg) : Ok P w K mg base 1 "is_list" 1 S_is_list := by
  obtain ⟨fd, F⟩ := T.f_is_list
  refine ok_of (N := N_is_list) (ps := ["value"]) F T.g_is_list sc_is_list rfl (fun _ _ _ _ _ _ us hl => match us, hl with | [_], _ => rfl) fun cdv A outer s H ds d E hr hl hS => ?_
  obtain ⟨x, t, rfl, ht, rfl⟩ := hS
  exact ⟨_, dbR (dret (disiLT T.b_isinstance T.b_list T.b_tuple (dv 0 rfl) ht)), .inl rfl⟩
def gcdI (a b : Int) : Int := (a.natAbs.gcd b.natAbs : Nat)
def S_common (ds : List D) (d : D) : Prop := ∃ a b : Int, ds = [.int a, .int b] ∧ d = .int (gcdI a b)
theorem abs_eq (a : Int) : (if a < 0 then -a else a) = (a.natAbs : Int) := by split <;> omega
abbrev N_common : List Str := ["one", "other"]
theorem sc_common : FnScope N_common ["one", "other"] (defScope s_common) := ⟨rfl, rfl, rfl, by decide +kernel, rfl, by decide +kernel, by decide +kernel⟩
theorem ok_common (T : TB K mg) : Ok P w K mg base 1 "common" 2 S_common := by
  obtain ⟨fd, F⟩ := T.f_common
  refine ok_of (N := N_common) (ps := ["one", "other"]) F T.g_common sc_common rfl (fun _ _ _ _ _ _ us hl => match us, hl with | [_, _], _ => rfl) fun cdv A outer s H ds d E hr hl hS => ?_
  obtain ⟨a, b, rfl, rfl⟩ := hS
  refine ⟨_, ?_, .inl rfl⟩
  refine db1 (dpar (i := 0) (j := 1) rfl sc_common.nd rfl rfl (by decide) rfl rfl (dacons (dabs T.b_abs (dv 0 rfl)) (dacons (dabs T.b_abs (dv 1 rfl)) danil))) ?_
  refine db1 (ρ' := [some (.int (gcdI a b)), some (.int 0)]) (dwhile (fun s : Nat × Nat => [some (.int (s.1 : Int)), some (.int (s.2 : Int))]) (fun s => decide ((0 : Int) < s.2)) (fun s => (s.2, s.1 % s.2)) (fun s => s.2) (fun s => s.1.gcd s.2 = a.natAbs.gcd b.natAbs) (a.natAbs, b.natAbs) PassesOwn.never (fun s hs => (dt_cmp cgt (dv 1 rfl) dint)) (fun s hs ht => ⟨?_, ?_, ?_⟩) ?_ rfl ?_) ?_
  · have h0 : 0 < s.2 := by simpa using ht
    refine db1 (dpar (i := 0) (j := 1) rfl sc_common.nd rfl rfl (by decide) rfl rfl (dacons (dv 1 rfl) (dacons (dmod (dv 0 rfl) (dv 1 rfl) (by omega)) danil))) ?_
    have e : Int.fmod (s.1 : Int) (s.2 : Int) = ((s.1 % s.2 : Nat) : Int) := by rw [Int.fmod_eq_emod_of_nonneg _ (by omega)]; rfl
    rw [e]
    exact db0
  · have h0 : 0 < s.2 := by simpa using ht
    exact Nat.mod_lt _ h0
  · show s.2.gcd (s.1 % s.2) = _
    rw [← hs, Nat.gcd_comm, ← Nat.gcd_rec, Nat.gcd_comm]
  · rw [abs_eq, abs_eq]; rfl
  · intro s hs ht
    have h0 : s.2 = 0 := by
      have : ¬ (0 : Int) < s.2 := by simpa using ht
      omega
    rw [h0, Nat.gcd_zero_right] at hs
    show [some (D.int (s.1 : Int)), some (D.int (s.2 : Int))] = _
    rw [h0, hs]; rfl
  · exact dbR (dret (dv 0 rfl))
def S_halves (ds : List D) (d : D) : Prop := ∃ q : Rat, ds = [numD q] ∧ d = .tup [.int q.num, .int q.den]
abbrev N_halves : List Str := ["number"]
theorem sc_halves : FnScope N_halves ["number"] (defScope s_halves) := ⟨rfl, rfl, rfl, by decide +kernel, rfl, by decide +kernel, by decide +kernel⟩
theorem ok_halves (T : TB K mg) : Ok P w K mg base 1 "halves" 1 S_halves := by
  obtain ⟨fd, F⟩ := T.f_halves
  refine ok_of (N := N_halves) (ps := ["number"]) F T.g_halves sc_halves rfl (fun _ _ _ _ _ _ us hl => match us, hl with | [_], _ => rfl) fun cdv A outer s H ds d E hr hl hS => ?_
  obtain ⟨q, rfl, rfl⟩ := hS
  by_cases h : q.den = 1
  · rw [numD_int h, h]
    exact ⟨_, dbR (dret (de_if_t (dt_val (disi (z := true) T.b_isinstance T.b_int boot_int (dv 0 rfl) rfl)) (dtup (dacons (dv 0 rfl) (dacons dint danil))))), .inl rfl⟩
  · rw [numD_pair h]
    exact ⟨_, dbR (dret (de_if_f (dt_val (disi (z := false) T.b_isinstance T.b_int boot_int (dv 0 rfl) rfl)) (dtup (dacons (dixT (dv 0 rfl) dint rfl) (dacons (dixT (dv 0 rfl) dint rfl) danil))))), .inl rfl⟩
def S_lowest (ds : List D) (d : D) : Prop := ∃ a b : Int, ds = [.int a, .int b] ∧ b ≠ 0 ∧ Lt2 b.natAbs bD ∧ d = numD (Rat.divInt a b)
abbrev N_lowest : List Str := ["above", "under", "part"]
theorem sc_lowest : FnScope N_lowest ["above", "under"] (defScope s_lowest) := ⟨rfl, rfl, rfl, by decide +kernel, rfl, by decide +kernel, by decide +kernel⟩
theorem ok_lowest (T : TB K mg) : Ok P w K mg base 2 "lowest" 2 S_lowest := by
  obtain ⟨fd, F⟩ := T.f_lowest
  refine ok_of (N := N_lowest) (ps := ["above", "under"]) F T.g_lowest sc_lowest rfl (fun _ _ _ _ _ _ us hl => match us, hl with | [_, _], _ => rfl) fun cdv A outer s H ds d E hr hl hS => ?_
  obtain ⟨a, b, rfl, hb, hs, rfl⟩ := hS
  obtain ⟨h1, h2⟩ := low_num (a := a) hb
  have hg : 0 < a.natAbs.gcd b.natAbs := Nat.gcd_pos_of_pos_right _ (Int.natAbs_pos.mpr hb)
  have hl2 : Lt2 (a.natAbs.gcd b.natAbs) bD := hs.le (Nat.le_of_dvd (Int.natAbs_pos.mpr hb) (Nat.gcd_dvd_right _ _))
  refine ⟨_, ?_, .inl rfl⟩
  refine db1 (dset (i := 2) sc_lowest.nd rfl (dcall (ok_common T) (hr.mono (by decide)) (dacons (dv 0 rfl) (dacons (dv 1 rfl) danil)) ⟨a, b, rfl, rfl⟩)) ?_
  refine db1 (dset (i := 2) (d := .int (if b < 0 then -gcdI a b else gcdI a b)) sc_lowest.nd rfl (de_if (dt_cmp clt (dv 1 rfl) dint) (fun h => DE.is (dneg (dv 2 rfl)) (by rw [if_pos (of_decide_eq_true h)])) (fun h => DE.is (dv 2 rfl) (by rw [if_neg (of_decide_eq_false h)])))) ?_
  have hp : (if b < 0 then -gcdI a b else gcdI a b) ≠ 0 := by
    have : gcdI a b ≠ 0 := by unfold gcdI; omega
    split <;> omega
  have hps : Lt2 (if b < 0 then -gcdI a b else gcdI a b).natAbs bD := by
    refine hl2.le ?_
    unfold gcdI
    split <;> omega
  refine db1 (dpar (i := 0) (j := 1) (d1 := .int (Rat.divInt a b).num) (d2 := .int (Rat.divInt a b).den) rfl sc_lowest.nd rfl rfl (by decide) rfl rfl (dacons (DE.is (dfdiv (dv 0 rfl) (dv 2 rfl) (divG hp hps)) (congrArg D.int h1)) (dacons (DE.is (dfdiv (dv 1 rfl) (dv 2 rfl) (divG hp hps)) (congrArg D.int h2)) danil))) ?_
  refine dbR (dret (d := numD (Rat.divInt a b)) (de_if (dt_cmp ceqI (dv 1 rfl) dint) (fun h => DE.is (dv 0 rfl) ?_) (fun h => DE.is (dtup (dacons (dv 0 rfl) (dacons (dv 1 rfl) danil))) ?_)))
  · have : (Rat.divInt a b).den = 1 := by have := of_decide_eq_true h; omega
    rw [numD_int this]
  · have : (Rat.divInt a b).den ≠ 1 := by have := of_decide_eq_false h; omega
    rw [numD_pair this]
theorem divInt_add' (p q : Rat) : Rat.divInt (p.num * q.den + q.num * p.den) (p.den * q.den) = p + q := by
  conv => rhs; rw [← Rat.num_divInt_den p, ← Rat.num_divInt_den q]
  rw [Rat.divInt_add_divInt _ _ (by have := p.den_pos; omega) (by have := q.den_pos; omega)]
theorem divInt_mul' (p q : Rat) : Rat.divInt (p.num * q.num) (p.den * q.den) = p * q := by
  conv => rhs; rw [← Rat.num_divInt_den p, ← Rat.num_divInt_den q]
  rw [Rat.divInt_mul_divInt]
theorem divInt_div' (p q : Rat) : Rat.divInt (p.num * q.den) (p.den * q.num) = p / q := by
  conv => rhs; rw [Rat.div_def, ← Rat.num_divInt_den p, ← Rat.num_divInt_den q, Rat.inv_divInt]
  rw [Rat.divInt_mul_divInt]
theorem den_ne (p q : Rat) : ((p.den : Int) * (q.den : Int)) ≠ 0 := by
  have h1 := p.den_pos
  have h2 := q.den_pos
  exact Int.ne_of_gt (Int.mul_pos (by omega) (by omega))
theorem den_abs (p q : Rat) : ((p.den : Int) * (q.den : Int)).natAbs = p.den * q.den := by rw [Int.natAbs_mul]; rfl
def S_added (ds : List D) (d : D) : Prop := ∃ p q : Rat, ds = [numD p, numD q] ∧ Pr p q ∧ d = numD (p + q)
abbrev N_added : List Str := ["one", "other", "above", "under", "its", "below_it"]
theorem sc_added : FnScope N_added ["one", "other"] (defScope s_added) := ⟨rfl, rfl, rfl, by decide +kernel, rfl, by decide +kernel, by decide +kernel⟩
theorem ok_added (T : TB K mg) : Ok P w K mg base 3 "added" 2 S_added := by
  obtain ⟨fd, F⟩ := T.f_added
  refine ok_of (N := N_added) (ps := ["one", "other"]) F T.g_added sc_added rfl (fun _ _ _ _ _ _ us hl => match us, hl with | [_, _], _ => rfl) fun cdv A outer s H ds d E hr hl hS => ?_
  obtain ⟨p, q, rfl, hp, rfl⟩ := hS
  refine ⟨_, ?_, .inl rfl⟩
  refine db1 (dasg (dtup (dacons (dcall (ok_halves T) (hr.mono (by decide)) (dacons (dv 0 rfl) danil) ⟨p, rfl, rfl⟩) (dacons (dcall (ok_halves T) (hr.mono (by decide)) (dacons (dv 1 rfl) danil) ⟨q, rfl, rfl⟩) danil))) (dgT rfl (dgs1 (dgT rfl (dgs1 (dgN (i := 2) sc_added.nd rfl) (dgs1 (dgN (i := 3) sc_added.nd rfl) dgs0))) (dgs1 (dgT rfl (dgs1 (dgN (i := 4) sc_added.nd rfl) (dgs1 (dgN (i := 5) sc_added.nd rfl) dgs0))) dgs0)))) ?_
  refine dbR (dret (dcall (ok_lowest T) (hr.mono (by decide)) (dacons (dadd (dmul (dv 2 rfl) (dv 5 rfl) (cm1 hp.np hp.dq.nd)) (dmul (dv 4 rfl) (dv 3 rfl) (cm1 hp.nq hp.dp.nd))) (dacons (dmul (dv 3 rfl) (dv 5 rfl) (cm1 hp.dp.nd hp.dq.nd)) danil)) ⟨_, _, rfl, den_ne p q, by rw [den_abs]; exact hp.dd, ?_⟩))
  rw [divInt_add']
def S_turned (ds : List D) (d : D) : Prop := ∃ q : Rat, ds = [numD q] ∧ d = numD (-q)
abbrev N_turned : List Str := ["number", "above", "under"]
theorem sc_turned : FnScope N_turned ["number"] (defScope s_turned) := ⟨rfl, rfl, rfl, by decide +kernel, rfl, by decide +kernel, by decide +kernel⟩
theorem ok_turned (T : TB K mg) : Ok P w K mg base 2 "turned" 1 S_turned := by
  obtain ⟨fd, F⟩ := T.f_turned
  refine ok_of (N := N_turned) (ps := ["number"]) F T.g_turned sc_turned rfl (fun _ _ _ _ _ _ us hl => match us, hl with | [_], _ => rfl) fun cdv A outer s H ds d E hr hl hS => ?_
  obtain ⟨q, rfl, rfl⟩ := hS
  refine ⟨_, ?_, .inl rfl⟩
  refine db1 (dasg (dcall (ok_halves T) (hr.mono (by decide)) (dacons (dv 0 rfl) danil) ⟨q, rfl, rfl⟩) (dgT rfl (dgs1 (dgN (i := 1) sc_turned.nd rfl) (dgs1 (dgN (i := 2) sc_turned.nd rfl) dgs0)))) ?_
  refine dbR (dret (d := numD (-q)) (de_if (dt_cmp ceqI (dv 2 rfl) dint) (fun h => DE.is (dneg (dv 1 rfl)) ?_) (fun h => DE.is (dtup (dacons (dneg (dv 1 rfl)) (dacons (dv 2 rfl) danil))) ?_)))
  · have : (-q).den = 1 := by have := of_decide_eq_true h; rw [Rat.neg_den]; omega
    rw [numD_int this]; rfl
  · have : (-q).den ≠ 1 := by have := of_decide_eq_false h; rw [Rat.neg_den]; omega
    rw [numD_pair this]; rfl
def S_less_by (ds : List D) (d : D) : Prop := ∃ p q : Rat, ds = [numD p, numD q] ∧ Pr p q ∧ d = numD (p - q)
abbrev N_less_by : List Str := ["one", "other"]
theorem sc_less_by : FnScope N_less_by ["one", "other"] (defScope s_less_by) := ⟨rfl, rfl, rfl, by decide +kernel, rfl, by decide +kernel, by decide +kernel⟩
theorem ok_less_by (T : TB K mg) : Ok P w K mg base 4 "less_by" 2 S_less_by := by
  obtain ⟨fd, F⟩ := T.f_less_by
  refine ok_of (N := N_less_by) (ps := ["one", "other"]) F T.g_less_by sc_less_by rfl (fun _ _ _ _ _ _ us hl => match us, hl with | [_, _], _ => rfl) fun cdv A outer s H ds d E hr hl hS => ?_
  obtain ⟨p, q, rfl, hp, rfl⟩ := hS
  refine ⟨_, dbR (dret (dcall (ok_added T) (hr.mono (by decide)) (dacons (dv 0 rfl) (dacons (dcall (ok_turned T) (hr.mono (by decide)) (dacons (dv 1 rfl) danil) ⟨q, rfl, rfl⟩) danil)) ⟨p, -q, rfl, hp.neg, ?_⟩)), .inl rfl⟩
  rw [Rat.sub_eq_add_neg]
def S_product (ds : List D) (d : D) : Prop := ∃ p q : Rat, ds = [numD p, numD q] ∧ Pr p q ∧ d = numD (p * q)
abbrev N_product : List Str := ["one", "other", "above", "under", "its", "below_it"]
theorem sc_product : FnScope N_product ["one", "other"] (defScope s_product) := ⟨rfl, rfl, rfl, by decide +kernel, rfl, by decide +kernel, by decide +kernel⟩
theorem ok_product (T : TB K mg) : Ok P w K mg base 3 "product" 2 S_product := by
  obtain ⟨fd, F⟩ := T.f_product
  refine ok_of (N := N_product) (ps := ["one", "other"]) F T.g_product sc_product rfl (fun _ _ _ _ _ _ us hl => match us, hl with | [_, _], _ => rfl) fun cdv A outer s H ds d E hr hl hS => ?_
  obtain ⟨p, q, rfl, hp, rfl⟩ := hS
  refine ⟨_, ?_, .inl rfl⟩
  refine db1 (dasg (dtup (dacons (dcall (ok_halves T) (hr.mono (by decide)) (dacons (dv 0 rfl) danil) ⟨p, rfl, rfl⟩) (dacons (dcall (ok_halves T) (hr.mono (by decide)) (dacons (dv 1 rfl) danil) ⟨q, rfl, rfl⟩) danil))) (dgT rfl (dgs1 (dgT rfl (dgs1 (dgN (i := 2) sc_product.nd rfl) (dgs1 (dgN (i := 3) sc_product.nd rfl) dgs0))) (dgs1 (dgT rfl (dgs1 (dgN (i := 4) sc_product.nd rfl) (dgs1 (dgN (i := 5) sc_product.nd rfl) dgs0))) dgs0)))) ?_
  refine dbR (dret (dcall (ok_lowest T) (hr.mono (by decide)) (dacons (dmul (dv 2 rfl) (dv 4 rfl) (cm1 hp.np hp.nq)) (dacons (dmul (dv 3 rfl) (dv 5 rfl) (cm1 hp.dp.nd hp.dq.nd)) danil)) ⟨_, _, rfl, den_ne p q, by rw [den_abs]; exact hp.dd, ?_⟩))
  rw [divInt_mul']
/-- division's sizes -/
structure Pd (p q : Rat) : Prop where
  np : Lt2 p.num.natAbs bN
  nq : Lt2 q.den bN
  dd : Lt2 (p.den * q.num.natAbs) bD
  nz : q ≠ 0
def S_part_by (ds : List D) (d : D) : Prop := ∃ p q : Rat, ds = [numD p, numD q] ∧ Pd p q ∧ d = numD (p / q)
abbrev N_part_by : List Str := ["one", "other", "above", "under", "its", "below_it"]
theorem sc_part_by : FnScope N_part_by ["one", "other"] (defScope s_part_by) := ⟨rfl, rfl, rfl, by decide +kernel, rfl, by decide +kernel, by decide +kernel⟩
theorem ok_part_by (T : TB K mg) : Ok P w K mg base 3 "part_by" 2 S_part_by := by
  obtain ⟨fd, F⟩ := T.f_part_by
  refine ok_of (N := N_part_by) (ps := ["one", "other"]) F T.g_part_by sc_part_by rfl (fun _ _ _ _ _ _ us hl => match us, hl with | [_, _], _ => rfl) fun cdv A outer s H ds d E hr hl hS => ?_
  obtain ⟨p, q, rfl, hp, rfl⟩ := hS
  have hq : q.num ≠ 0 := fun e => hp.nz (Rat.num_eq_zero.mp e)
  have h1 : Lt2 p.den bD := hp.dd.le (Nat.le_mul_of_pos_right _ (Int.natAbs_pos.mpr hq))
  have h2 : Lt2 q.num.natAbs bD := hp.dd.le (Nat.le_mul_of_pos_left _ p.den_pos)
  refine ⟨_, ?_, .inl rfl⟩
  refine db1 (dasg (dtup (dacons (dcall (ok_halves T) (hr.mono (by decide)) (dacons (dv 0 rfl) danil) ⟨p, rfl, rfl⟩) (dacons (dcall (ok_halves T) (hr.mono (by decide)) (dacons (dv 1 rfl) danil) ⟨q, rfl, rfl⟩) danil))) (dgT rfl (dgs1 (dgT rfl (dgs1 (dgN (i := 2) sc_part_by.nd rfl) (dgs1 (dgN (i := 3) sc_part_by.nd rfl) dgs0))) (dgs1 (dgT rfl (dgs1 (dgN (i := 4) sc_part_by.nd rfl) (dgs1 (dgN (i := 5) sc_part_by.nd rfl) dgs0))) dgs0)))) ?_
  refine dbR (dret (dcall (ok_lowest T) (hr.mono (by decide)) (dacons (dmul (dv 2 rfl) (dv 5 rfl) (cm1 hp.np hp.nq)) (dacons (dmul (dv 3 rfl) (dv 4 rfl) (cm1 h1.nd h2.nd)) danil)) ⟨_, _, rfl, ?_, by rw [Int.natAbs_mul]; exact hp.dd, ?_⟩))
  · have := p.den_pos
    exact Int.mul_ne_zero (by omega) hq
  · rw [divInt_div']
end
end K31
end
section
set_option maxHeartbeats 2000000
set_option autoImplicit false
/-! The walk: numbers, on; roots; what is a number, a point. -/
namespace K31
open PySem PySem.Spec PyProof.Rows L2
theorem Lt2.zero {n : Nat} : Lt2 0 n := Nat.two_pow_pos n
theorem Pr.zero {p q : Rat} (h : Pr p q) : Pr 0 p := ⟨Lt2.zero, h.np, by rw [show (0 : Rat).den = 1 from rfl, Nat.one_mul]; exact h.dp⟩
/-! ### roots -/
theorem isq_spec (n : Nat) : Float64.isqrt n * Float64.isqrt n ≤ n ∧ n < (Float64.isqrt n + 1) * (Float64.isqrt n + 1) := PySem.Float64.isqrt_spec n
theorem isq_unique {n k : Nat} (h1 : k * k ≤ n) (h2 : n < (k + 1) * (k + 1)) : Float64.isqrt n = k := by
  obtain ⟨a, b⟩ := isq_spec n
  rcases Nat.lt_trichotomy (Float64.isqrt n) k with h | h | h
  · have : (Float64.isqrt n + 1) * (Float64.isqrt n + 1) ≤ k * k := Nat.mul_le_mul h h
    omega
  · exact h
  · have : (k + 1) * (k + 1) ≤ Float64.isqrt n * Float64.isqrt n := Nat.mul_le_mul h h
    omega
theorem isq_sq (k : Nat) : Float64.isqrt (k * k) = k := isq_unique (Nat.le_refl _) (by rw [Nat.add_mul, Nat.mul_add]; omega)
/-- the root of a number from 0 on, if it is one -/
def rootQ (q : Rat) : Option Rat := if Float64.isqrt q.num.toNat * Float64.isqrt q.num.toNat = q.num.toNat ∧ Float64.isqrt q.den * Float64.isqrt q.den = q.den then some (Rat.divInt (Float64.isqrt q.num.toNat) (Float64.isqrt q.den)) else none
theorem rootQ_sq {r : Rat} (h : 0 ≤ r) : rootQ (r * r) = some r := by
  have hn : 0 ≤ r.num := Rat.num_nonneg.mpr h
  have e1 : (r * r).num = r.num * r.num := by
    have := Rat.num_pow r 2
    rw [show r ^ 2 = r * r by rw [Rat.pow_succ, Rat.pow_succ]; simp] at this
    rw [this, Int.pow_succ, Int.pow_succ]; simp
  have e2 : (r * r).den = r.den * r.den := by
    have := Rat.den_pow r 2
    rw [show r ^ 2 = r * r by rw [Rat.pow_succ, Rat.pow_succ]; simp] at this
    rw [this, Nat.pow_succ, Nat.pow_succ]; simp
  have e3 : (r * r).num.toNat = r.num.toNat * r.num.toNat := by
    rw [e1]
    have : r.num * r.num = ((r.num.toNat * r.num.toNat : Nat) : Int) := by rw [Int.natCast_mul, Int.toNat_of_nonneg hn]
    rw [this, Int.toNat_natCast]
  unfold rootQ
  rw [e3, e2, isq_sq, isq_sq, if_pos ⟨rfl, rfl⟩, Int.toNat_of_nonneg hn, Rat.num_divInt_den]
theorem rootQ_some {q r : Rat} (hq : 0 ≤ q) (h : rootQ q = some r) : 0 ≤ r ∧ r * r = q := by
  unfold rootQ at h
  split at h
  · rename_i hc
    cases h
    have hn : 0 ≤ q.num := Rat.num_nonneg.mpr hq
    refine ⟨Rat.divInt_nonneg (by omega) (by omega), ?_⟩
    rw [Rat.divInt_mul_divInt, ← Int.natCast_mul, ← Int.natCast_mul, hc.1, hc.2, Int.toNat_of_nonneg hn, Rat.num_divInt_den]
  · cases h
theorem rootQ_iff {q r : Rat} (hq : 0 ≤ q) : rootQ q = some r ↔ 0 ≤ r ∧ r * r = q := ⟨rootQ_some hq, fun ⟨h1, h2⟩ => h2 ▸ rootQ_sq h1⟩
def optD (o : Option Rat) : D := match o with
  | some r => numD r
  | none => .non
section
variable {X : Cx} {ρ : Rho} {a : Expr} {pos : Pos}
theorem call_isqrt : CallR X (.builtin "math.isqrt") (fun xs H Q => ∃ i : Int, xs = [.int i] ∧ 0 ≤ i ∧ Lt2 i.natAbs 13000 ∧ Q (.int ((Float64.isqrt i.toNat : Nat) : Int)) H) := by
  intro pins s σ H xs us Q I r h
  obtain ⟨i, rfl, h0, h1, q⟩ := h
  obtain ⟨u, rfl, t, rfl⟩ := vals1 r
  have hl : i.toNat.log2 < 13000 := by
    have : i.toNat = i.natAbs := by omega
    rw [this]
    exact log2_lt' (by decide) h1
  exact call_function_meets PySem.W.MGF.kind_isqrt PySem.W.MGF.plain_isqrt PySem.W.MGF.entry_isqrt (PySem.W.MGF.args_isqrt _) (PySem.W.mg_run_isqrt i t (by omega) (by omega) (by omega)).meets ⟨.int _, H, I.tok _, ⟨_, rfl⟩, q⟩
theorem disqrt {i : Int} {p : Pos} (hm : X.mg "isqrt" = some (.builtin "math.isqrt")) (ha : DE X a ρ (.int i)) (h0 : 0 ≤ i) (h1 : Lt2 i.natAbs 13000) (hg : Gl X "isqrt" := by rfl) (hs : starEach [a] X.env = (false, eval a X.env) :: starEach [] X.env := by rfl) :
    DE X (.Call (.Name "isqrt" p) [a] [] pos) ρ (.int ((Float64.isqrt i.toNat : Nat) : Int)) :=
  .of (pe_callBfun call_isqrt hg hm (pa_cons (peW a) pa_nil hs) (he := hs)) fun σ W E Q q => ha σ W E _ fun v W1 e1 r1 => ⟨i, by rw [r1], h0, h1, q _ W1 e1 rfl⟩
end
section
variable {X : Cx} {ρ : Rho} {a : Expr} {d : D} {pos : Pos}
theorem disiS {t : String} {z : Bool} {p p2 p3 p4 : Pos} {k : Nat} (hm : X.mg "isinstance" = none) (hm2 : X.mg "list" = none) (hm3 : X.mg "tuple" = none) (ha : DE X a ρ d) (ht : d.ty = some t) (hz : isSeq d = z) (hg : Gl X "isinstance" := by rfl) (hg2 : Gl X "list" := by rfl) (hg3 : Gl X "tuple" := by rfl)
    (hs : starEach [a, .Tuple [.Name "list" p2, .Name "tuple" p3] k p4] X.env = (false, eval a X.env) :: starEach [.Tuple [.Name "list" p2, .Name "tuple" p3] k p4] X.env := by rfl) : DE X (.Call (.Name "isinstance" p) [a, .Tuple [.Name "list" p2, .Name "tuple" p3] k p4] [] pos) ρ (.bl z) := hz ▸ disiLT hm hm2 hm3 ha ht hg hg2 hg3 hs
end
section
variable {P : Program} {w : World} {K : PySem.W.Frag} {mg : Str → Option Value} {base : Heap}
def S_root_in (ds : List D) (d : D) : Prop := ∃ q : Rat, ds = [numD q] ∧ 0 ≤ q ∧ Lt2 q.num.natAbs 13000 ∧ Lt2 q.den bD ∧ d = optD (rootQ q)
abbrev N_root_in : List Str := ["number", "above", "under", "high", "low"]
theorem sc_root_in : FnScope N_root_in ["number"] (defScope s_root_in) := ⟨rfl, rfl, rfl, by decide +kernel, rfl, by decide +kernel, by decide +kernel⟩
theorem ok_root_in (T : TB K mg) : Ok P w K mg base 3 "root_in" 1 S_root_in := by
  obtain ⟨fd, F⟩ := T.f_root_in
  refine ok_of (N := N_root_in) (ps := ["number"]) F T.g_root_in sc_root_in rfl (fun _ _ _ _ _ _ us hl => match us, hl with | [_], _ => rfl) fun cdv A outer s H ds d E hr hl hS => ?_
  obtain ⟨q, rfl, hq, hn, hd, rfl⟩ := hS
  have hu := hr.units
  have h0 : 0 ≤ q.num := Rat.num_nonneg.mpr hq
  have ln : Lt2 (Float64.isqrt q.num.toNat) 13000 := by
    refine hn.le ?_
    have h1 := (isq_spec q.num.toNat).1
    have h2 := Nat.le_mul_self (Float64.isqrt q.num.toNat)
    omega
  have ld : Lt2 (Float64.isqrt q.den) bD := by
    refine hd.le ?_
    have h1 := (isq_spec q.den).1
    have h2 := Nat.le_mul_self (Float64.isqrt q.den)
    omega
  have dpos : 0 < Float64.isqrt q.den := by
    rcases Nat.eq_zero_or_pos (Float64.isqrt q.den) with z | z
    · have h1 := (isq_spec q.den).2
      rw [z] at h1
      have := q.den_pos
      omega
    · exact z
  refine ⟨_, ?_, .inl rfl⟩
  refine db1 (dasg (dcall (ok_halves T) (hr.mono (by decide)) (dacons (dv 0 rfl) danil) ⟨q, rfl, rfl⟩) (dgT rfl (dgs1 (dgN (i := 1) sc_root_in.nd rfl) (dgs1 (dgN (i := 2) sc_root_in.nd rfl) dgs0)))) ?_
  refine db1 (dpar (i := 3) (j := 4) rfl sc_root_in.nd rfl rfl (by decide) rfl rfl (dacons (disqrt T.g_isqrt (dv 1 rfl) h0 hn) (dacons (disqrt T.g_isqrt (dv 2 rfl) (by omega) (hd.up (by decide))) danil))) ?_
  refine dbR (dret (d := optD (rootQ q)) (de_if (z := decide (Float64.isqrt q.num.toNat * Float64.isqrt q.num.toNat = q.num.toNat) && decide (Float64.isqrt q.den * Float64.isqrt q.den = q.den)) (dw_val (dw_and (DT.is (dt_cmp ceqI (dmul (dv 3 rfl) (dv 3 rfl) (cm1 (ln.up (by decide)) (ln.up (by decide)))) (dv 1 rfl)) ?_) fun _ => (dw_and1 (DT.is (dt_cmp ceqI (dmul (dv 4 rfl) (dv 4 rfl) (cm1 ld.nd ld.nd)) (dv 2 rfl)) ?_)))) (fun h => ?_) (fun h => ?_)))
  · refine decide_eq_decide.mpr ⟨fun h => ?_, fun h => ?_⟩
    · have : ((Float64.isqrt q.num.toNat * Float64.isqrt q.num.toNat : Nat) : Int) = q.num := by rw [Int.natCast_mul]; exact h
      omega
    · rw [← Int.natCast_mul, h]; omega
  · refine decide_eq_decide.mpr ⟨fun h => ?_, fun h => ?_⟩
    · have : ((Float64.isqrt q.den * Float64.isqrt q.den : Nat) : Int) = q.den := by rw [Int.natCast_mul]; exact h
      omega
    · rw [Int.toNat_natCast, ← Int.natCast_mul, h]
  · rw [Bool.and_eq_true] at h
    have e : rootQ q = some (Rat.divInt (Float64.isqrt q.num.toNat) (Float64.isqrt q.den)) := if_pos ⟨of_decide_eq_true h.1, of_decide_eq_true h.2⟩
    rw [e]
    exact dcall (ok_lowest T) (hr.mono (by decide)) (dacons (dv 3 rfl) (dacons (dv 4 rfl) danil)) ⟨_, _, rfl, by rw [Int.toNat_natCast]; omega, by rw [Int.toNat_natCast]; exact ld, by rw [Int.toNat_natCast]; rfl⟩
  · have e : rootQ q = none := if_neg fun z => by rw [decide_eq_true z.1, decide_eq_true z.2] at h; cases h
    rw [e]
    exact dnon
def S_sign_in (ds : List D) (d : D) : Prop := ∃ q : Rat, ds = [numD q] ∧ d = .int q.num.sign
abbrev N_sign_in : List Str := ["number", "above"]
theorem sc_sign_in : FnScope N_sign_in ["number"] (defScope s_sign_in) := ⟨rfl, rfl, rfl, by decide +kernel, rfl, by decide +kernel, by decide +kernel⟩
theorem ok_sign_in (T : TB K mg) : Ok P w K mg base 2 "sign_in" 1 S_sign_in := by
  obtain ⟨fd, F⟩ := T.f_sign_in
  refine ok_of (N := N_sign_in) (ps := ["number"]) F T.g_sign_in sc_sign_in rfl (fun _ _ _ _ _ _ us hl => match us, hl with | [_], _ => rfl) fun cdv A outer s H ds d E hr hl hS => ?_
  obtain ⟨q, rfl, rfl⟩ := hS
  refine ⟨_, ?_, .inl rfl⟩
  refine db1 (dset (i := 1) sc_sign_in.nd rfl (dixT (d := .int q.num) (dcall (ok_halves T) (hr.mono (by decide)) (dacons (dv 0 rfl) danil) ⟨q, rfl, rfl⟩) dint rfl)) ?_
  refine dbR (dret (DE.is (dsub (dintB T.b_int (de_cmp cgt (dv 1 rfl) dint)) (dintB T.b_int (de_cmp clt (dv 1 rfl) dint))) ?_))
  congr 1
  rcases Int.lt_trichotomy q.num 0 with h | h | h
  · rw [Int.sign_eq_neg_one_of_neg h, decide_eq_false (by omega), decide_eq_true h]; rfl
  · rw [h]; rfl
  · rw [Int.sign_eq_one_of_pos h, decide_eq_true h, decide_eq_false (by omega)]; rfl
def S_total (ds : List D) (d : D) : Prop := ∃ p q : Rat, ds = [.lst [numD p, numD q]] ∧ Pr p q ∧ d = numD (p + q)
abbrev N_total : List Str := ["numbers", "found", "number"]
theorem sc_total : FnScope N_total ["numbers"] (defScope s_total) := ⟨rfl, rfl, rfl, by decide +kernel, rfl, by decide +kernel, by decide +kernel⟩
theorem ok_total (T : TB K mg) : Ok P w K mg base 4 "total" 1 S_total := by
  obtain ⟨fd, F⟩ := T.f_total
  refine ok_of (N := N_total) (ps := ["numbers"]) F T.g_total sc_total rfl (fun _ _ _ _ _ _ us hl => match us, hl with | [_], _ => rfl) fun cdv A outer s H ds d E hr hl hS => ?_
  obtain ⟨p, q, rfl, hp, rfl⟩ := hS
  refine ⟨_, ?_, .inl rfl⟩
  refine db1 (dset (i := 1) sc_total.nd rfl dint) ?_
  refine db1 (dfor (fun i => match i with
    | 0 => [some (.lst [numD p, numD q]), some (.int 0), none]
    | 1 => [some (.lst [numD p, numD q]), some (numD p), some (numD p)]
    | _ => [some (.lst [numD p, numD q]), some (numD (p + q)), some (numD q)]) (fun _ => none) PassesOwn.never rfl (diL (dv 0 rfl)) rfl (fun i d hd _ => ?_) (.inr ⟨rfl, fun _ _ => rfl⟩)) ?_
  · match i, hd with
    | 0, hd =>
      cases hd
      refine ⟨_, dgN (i := 2) sc_total.nd rfl, fun _ => ?_, fun r h => nomatch h⟩
      have h0 : numD p = numD (0 + p) := by rw [Rat.zero_add]
      refine db1 (dset (i := 1) (d := numD p) sc_total.nd rfl (dcall (ok_added T) (hr.mono (by decide)) (dacons (dv 1 rfl) (dacons (dv 2 rfl) danil)) ⟨0, p, rfl, hp.zero, h0⟩)) db0
    | 1, hd =>
      cases hd
      exact ⟨_, dgN (i := 2) sc_total.nd rfl, fun _ => db1 (dset (i := 1) sc_total.nd rfl (dcall (ok_added T) (hr.mono (by decide)) (dacons (dv 1 rfl) (dacons (dv 2 rfl) danil)) ⟨p, q, rfl, hp, rfl⟩)) db0, fun r h => nomatch h⟩
  · exact dbR (dret (dv 1 rfl))
/-- the number that data stands for -/
def qOf : D → Rat
  | .int i => i
  | .tup [.int a, .int b] => Rat.divInt a b
  | _ => 0
theorem qOf_numD (q : Rat) : qOf (numD q) = q := by
  unfold numD
  split
  · rename_i h
    show ((q.num : Int) : Rat) = q
    refine Rat.ext (by simp) (by simp [h])
  · show Rat.divInt q.num q.den = q
    rw [Rat.num_divInt_den]
def mulD : D → D
  | .tup [x, y] => numD (qOf x * qOf y)
  | _ => .non
/-- the sum of two products -/
structure Ps (a b c d : Rat) : Prop where
  ac : Pr a c
  bd : Pr b d
  s : Pr (a * c) (b * d)
def S_summed (ds : List D) (d : D) : Prop := ∃ a b c e : Rat, ds = [.tup [numD a, numD b], .tup [numD c, numD e]] ∧ Ps a b c e ∧ d = numD (a * c + b * e)
abbrev N_summed : List Str := ["row", "other", "one", "its"]
theorem sc_summed : FnScope N_summed ["row", "other"] (defScope s_summed) := ⟨rfl, rfl, rfl, by decide +kernel, rfl, by decide +kernel, by decide +kernel⟩
theorem ok_summed (T : TB K mg) : Ok P w K mg base 5 "summed" 2 S_summed := by
  obtain ⟨fd, F⟩ := T.f_summed
  refine ok_of (N := N_summed) (ps := ["row", "other"]) F T.g_summed sc_summed rfl (fun _ _ _ _ _ _ us hl => match us, hl with | [_, _], _ => rfl) fun cdv A outer s H ds d E hr hl hS => ?_
  obtain ⟨a, b, c, e, rfl, hp, rfl⟩ := hS
  refine ⟨_, dbR (dret (dcall (ok_total T) (hr.mono (by decide)) (dacons (DE.is (d2 := .lst [numD (a * c), numD (b * e)]) (dlc (own := [("one", 2), ("its", 3)]) mulD rfl sc_summed.nd (diZT T.b_zip (dv 0 rfl) (dv 1 rfl)) (blkOk_by (N := N_summed) (sc := defScope s_summed) (by decide +kernel)) (pgP (i := 2) (j := 3) rfl sc_summed.nd rfl rfl) (by simp [zipD]) (fun d hd => ?_)) ?_) danil) ⟨_, _, rfl, hp.s, rfl⟩)), .inl rfl⟩
  · have hd' : d = .tup [numD a, numD c] ∨ d = .tup [numD b, numD e] := by simpa [zipD] using hd
    rcases hd' with rfl | rfl
    · exact ⟨_, bcP (by decide), fun _ _ _ _ _ => (dcall (ok_product T) (hr.mono (by decide)) (dacons (dv 2 rfl) (dacons (dv 3 rfl) danil)) ⟨a, c, rfl, hp.ac, by simp [mulD, qOf_numD]⟩)⟩
    · exact ⟨_, bcP (by decide), fun _ _ _ _ _ => (dcall (ok_product T) (hr.mono (by decide)) (dacons (dv 2 rfl) (dacons (dv 3 rfl) danil)) ⟨b, e, rfl, hp.bd, by simp [mulD, qOf_numD]⟩)⟩
  · simp [zipD, mulD, qOf_numD]
def S_square (ds : List D) (d : D) : Prop := ∃ q : Rat, ds = [numD q] ∧ Pr q q ∧ d = numD (q * q)
abbrev N_square : List Str := ["number"]
theorem sc_square : FnScope N_square ["number"] (defScope s_square) := ⟨rfl, rfl, rfl, by decide +kernel, rfl, by decide +kernel, by decide +kernel⟩
theorem ok_square (T : TB K mg) : Ok P w K mg base 4 "square" 1 S_square := by
  obtain ⟨fd, F⟩ := T.f_square
  refine ok_of (N := N_square) (ps := ["number"]) F T.g_square sc_square rfl (fun _ _ _ _ _ _ us hl => match us, hl with | [_], _ => rfl) fun cdv A outer s H ds d E hr hl hS => ?_
  obtain ⟨q, rfl, hp, rfl⟩ := hS
  exact ⟨_, dbR (dret (dcall (ok_product T) (hr.mono (by decide)) (dacons (dv 0 rfl) (dacons (dv 0 rfl) danil)) ⟨q, q, rfl, hp, rfl⟩)), .inl rfl⟩
/-! ### what is a number, a point; with tuples -/
def S_is_number (ds : List D) (d : D) : Prop := ∃ q : Rat, ds = [numD q] ∧ d = .bl true
abbrev N_is_number : List Str := ["value"]
theorem sc_is_number : FnScope N_is_number ["value"] (defScope s_is_number) := ⟨rfl, rfl, rfl, by decide +kernel, rfl, by decide +kernel, by decide +kernel⟩
theorem ok_is_number (T : TB K mg) : Ok P w K mg base 3 "is_number" 1 S_is_number := by
  obtain ⟨fd, F⟩ := T.f_is_number
  refine ok_of (N := N_is_number) (ps := ["value"]) F T.g_is_number sc_is_number rfl (fun _ _ _ _ _ _ us hl => match us, hl with | [_], _ => rfl) fun cdv A outer s H ds d E hr hl hS => ?_
  obtain ⟨q, rfl, rfl⟩ := hS
  by_cases h : q.den = 1
  · rw [numD_int h]
    exact ⟨_, dbR (dif_t (dt_val (dcall (ok_is_integer T) (hr.mono (by decide)) (dacons (dv 0 rfl) danil) ⟨_, _, rfl, rfl, rfl⟩)) (dbR (dret dbl))), .inl rfl⟩
  · rw [numD_pair h]
    refine ⟨_, ?_, .inl rfl⟩
    refine db1 (dif_f (dt_val (dcall (ok_is_integer T) (hr.mono (by decide)) (dacons (dv 0 rfl) danil) ⟨_, _, rfl, rfl, rfl⟩)) db0) ?_
    refine db1 (dif_f (dw_val (dw_or_f (dt_not (z := true) (dt_val (dcall (ok_is_list T) (hr.mono (by decide)) (dacons (dv 0 rfl) danil) ⟨_, _, rfl, rfl, rfl⟩))) (dw_or_f (dt_cmp cneI (dlen T.b_len (dv 0 rfl) rfl) dint) (dw_or1 (dt_not (z := true) (dt_val (dcall (ok_is_integer T) (hr.mono (by decide)) (dacons (dixT (dv 0 rfl) dint rfl) danil) ⟨_, _, rfl, rfl, rfl⟩))))))) db0) ?_
    have hd : 2 ≤ q.den := by have := q.den_pos; omega
    refine dbR (dret (de_and_t (dcall (ok_is_within T) (hr.mono (by decide)) (dacons (dixT (dv 0 rfl) dint rfl) (dacons dint (dacons dnon danil))) ⟨_, _, _, _, rfl, rfl, trivial, trivial, ?_⟩) (de_one (DE.is (de_cmp ceqI (dcall (ok_common T) (hr.mono (by decide)) (dacons (dixT (dv 0 rfl) dint rfl) (dacons (dixT (dv 0 rfl) dint rfl) danil)) ⟨_, _, rfl, rfl⟩) dint) ?_))))
    · show D.bl true = .bl (decide ((2 : Int) ≤ (q.den : Int)) && true)
      rw [decide_eq_true (by omega)]; rfl
    · congr 1
      refine decide_eq_true ?_
      unfold gcdI
      rw [Int.natAbs_natCast, q.reduced]; rfl
def S_is_point (ds : List D) (d : D) : Prop := ∃ p q : Rat, ds = [.tup [numD p, numD q]] ∧ d = .bl true
abbrev N_is_point : List Str := ["value", "each"]
theorem sc_is_point : FnScope N_is_point ["value"] (defScope s_is_point) := ⟨rfl, rfl, rfl, by decide +kernel, rfl, by decide +kernel, by decide +kernel⟩
theorem ok_is_point (T : TB K mg) : Ok P w K mg base 4 "is_point" 1 S_is_point := by
  obtain ⟨fd, F⟩ := T.f_is_point
  refine ok_of (N := N_is_point) (ps := ["value"]) F T.g_is_point sc_is_point rfl (fun _ _ _ _ _ _ us hl => match us, hl with | [_], _ => rfl) fun cdv A outer s H ds d E hr hl hS => ?_
  obtain ⟨p, q, rfl, rfl⟩ := hS
  refine ⟨_, ?_, .inl rfl⟩
  refine dbR (dret (de_and_t (dcall (ok_is_list T) (hr.mono (by decide)) (dacons (dv 0 rfl) danil) ⟨_, _, rfl, rfl, rfl⟩) (de_and_t (de_cmp ceqI (dlen T.b_len (dv 0 rfl) rfl) dint) (de_one (DE.is (dall (bs := [true, true]) rfl T.b_all (DE.is (dlc (own := [("each", 1)]) (fun d => .bl true) rfl sc_is_point.nd (diT (dv 0 rfl)) (blkOk_by (N := N_is_point) (sc := defScope s_is_point) (by decide +kernel)) (pgN (i := 1) sc_is_point.nd rfl) (by simp) (fun d hd => ?_)) rfl)) rfl)))))
  have hd' : d = numD p ∨ d = numD q := by simpa using hd
  rcases hd' with rfl | rfl
  · exact ⟨_, bcN, fun _ _ _ _ _ => (dcall (ok_is_number T) (hr.mono (by decide)) (dacons (dv 1 rfl) danil) ⟨p, rfl, rfl⟩)⟩
  · exact ⟨_, bcN, fun _ _ _ _ _ => (dcall (ok_is_number T) (hr.mono (by decide)) (dacons (dv 1 rfl) danil) ⟨q, rfl, rfl⟩)⟩
def S_kept (ds : List D) (d : D) : Prop := ∃ q : Rat, ds = [numD q] ∧ d = numD q
abbrev N_kept : List Str := ["number"]
theorem sc_kept : FnScope N_kept ["number"] (defScope s_kept) := ⟨rfl, rfl, rfl, by decide +kernel, rfl, by decide +kernel, by decide +kernel⟩
theorem ok_kept (T : TB K mg) : Ok P w K mg base 1 "kept" 1 S_kept := by
  obtain ⟨fd, F⟩ := T.f_kept
  refine ok_of (N := N_kept) (ps := ["number"]) F T.g_kept sc_kept rfl (fun _ _ _ _ _ _ us hl => match us, hl with | [_], _ => rfl) fun cdv A outer s H ds d E hr hl hS => ?_
  obtain ⟨q, rfl, rfl⟩ := hS
  by_cases h : q.den = 1
  · rw [numD_int h]
    exact ⟨_, dbR (dret (de_if_f (dt_val (disiS (z := false) T.b_isinstance T.b_list T.b_tuple (dv 0 rfl) rfl rfl)) (dv 0 rfl))), .inl rfl⟩
  · rw [numD_pair h]
    exact ⟨_, dbR (dret (de_if_t (dt_val (disiS (z := true) T.b_isinstance T.b_list T.b_tuple (dv 0 rfl) rfl rfl)) (dtupleOf T.b_tuple (dv 0 rfl) rfl))), .inl rfl⟩
def S_kept_row (ds : List D) (d : D) : Prop := ∃ p q : Rat, ds = [.tup [numD p, numD q]] ∧ d = .tup [numD p, numD q]
abbrev N_kept_row : List Str := ["row", "each"]
theorem sc_kept_row : FnScope N_kept_row ["row"] (defScope s_kept_row) := ⟨rfl, rfl, rfl, by decide +kernel, rfl, by decide +kernel, by decide +kernel⟩
theorem ok_kept_row (T : TB K mg) : Ok P w K mg base 2 "kept_row" 1 S_kept_row := by
  obtain ⟨fd, F⟩ := T.f_kept_row
  refine ok_of (N := N_kept_row) (ps := ["row"]) F T.g_kept_row sc_kept_row rfl (fun _ _ _ _ _ _ us hl => match us, hl with | [_], _ => rfl) fun cdv A outer s H ds d E hr hl hS => ?_
  obtain ⟨p, q, rfl, rfl⟩ := hS
  refine ⟨_, dbR (dret (dtupleOf T.b_tuple (dlc (own := [("each", 1)]) (fun d => d) rfl sc_kept_row.nd (diT (dv 0 rfl)) (blkOk_by (N := N_kept_row) (sc := defScope s_kept_row) (by decide +kernel)) (pgN (i := 1) sc_kept_row.nd rfl) (by simp) (fun d hd => ?_)) (by simp [D.items]))), .inl rfl⟩
  have hd' : d = numD p ∨ d = numD q := by simpa using hd
  rcases hd' with rfl | rfl
  · exact ⟨_, bcN, fun _ _ _ _ _ => (dcall (ok_kept T) (hr.mono (by decide)) (dacons (dv 1 rfl) danil) ⟨p, rfl, rfl⟩)⟩
  · exact ⟨_, bcN, fun _ _ _ _ _ => (dcall (ok_kept T) (hr.mono (by decide)) (dacons (dv 1 rfl) danil) ⟨q, rfl, rfl⟩)⟩
end
end K31
end
section
set_option maxHeartbeats 4000000
set_option autoImplicit false
/-! The walk: points, places. -/
namespace K31
open PySem PySem.Spec PyProof.Rows L2
/-- a point as data -/
def ptD (x y : Rat) : D := .tup [numD x, numD y]
theorem ptD_int (a b : Int) : ptD (a : Rat) (b : Rat) = .tup [.int a, .int b] := by unfold ptD; rw [numD_intCast, numD_intCast]
theorem numD_zero : numD 0 = .int 0 := numD_intCast 0
theorem numD_one : numD 1 = .int 1 := numD_intCast 1
theorem ptD_zero : ptD 0 0 = .tup [.int 0, .int 0] := by unfold ptD; rw [numD_zero]
theorem ptD_inj {x y u v : Rat} (h : ptD x y = ptD u v) : x = u ∧ y = v := by
  unfold ptD at h
  injection h with h
  injection h with h1 h2
  injection h2 with h2 _
  exact ⟨numD_inj h1, numD_inj h2⟩
theorem ptD_good (x y : Rat) (n : Nat) : Good (ptD x y) (n + 2) := ⟨numD_good x n, numD_good y n, trivial⟩
theorem ptD_good9 (x y : Rat) : Good (ptD x y) 9 := ptD_good x y 7
theorem optD_good (o : Option Rat) (n : Nat) : Good (optD o) (n + 1) := by
  cases o with
  | none => trivial
  | some r => exact numD_good r n
theorem optD_inj {o p : Option Rat} (h : optD o = optD p) : o = p := by
  cases o <;> cases p
  · rfl
  · have := numD_notNon ‹Rat›; rw [show numD _ = D.non from h.symm] at this; cases this
  · have := numD_notNon ‹Rat›; rw [show numD _ = D.non from h] at this; cases this
  · exact congrArg some (numD_inj h)
theorem optD_isNon (o : Option Rat) : (optD o).isNon = !o.isSome := by
  cases o with
  | none => rfl
  | some r => exact numD_notNon r
section
variable {X : Cx}
theorem ceqN (hu : X.A.units + 64 < cLine) {p : Rat} {i : Int} : CmpD X .Eq (numD p) (.int i) (decide (p = (i : Rat))) := ceq hu (numD_good9 p) trivial (decide_eq_true_iff.trans numD_eq_int.symm)
theorem cneN (hu : X.A.units + 64 < cLine) {p : Rat} {i : Int} : CmpD X .NotEq (numD p) (.int i) (!decide (p = (i : Rat))) := cne hu (numD_good9 p) trivial (decide_eq_true_iff.trans numD_eq_int.symm)
theorem cneO (hu : X.A.units + 64 < cLine) {o : Option Rat} {q : Rat} : CmpD X .NotEq (optD o) (numD q) (!decide (o = some q)) := cne hu (optD_good o 8) (numD_good9 q) (decide_eq_true_iff.trans ⟨fun h => by rw [h]; rfl, fun h => optD_inj (p := some q) h⟩)
theorem ceqP (hu : X.A.units + 64 < cLine) {x y : Rat} : CmpD X .Eq (ptD x y) (.tup [.int 0, .int 0]) (decide (x = 0 ∧ y = 0)) := ceq hu (ptD_good9 x y) ⟨trivial, trivial, trivial⟩ (decide_eq_true_iff.trans ⟨fun h => by rw [h.1, h.2, ptD_zero], fun h => ptD_inj (h.trans ptD_zero.symm)⟩)
/-- the constant NONE -/
theorem dNONE {K : PySem.W.Frag} {mg : Str → Option Value} (T : TB K mg) {ρ : Rho} {pos : Pos} (hK : X.K = K := by rfl) (hm : X.mg = mg := by rfl) (hg : Gl X "NONE" := by rfl) : DE X (.Name "NONE" pos) ρ (.tup [.int 0, .int 0]) := by
  subst hK hm
  exact .of (pe_glob (v := .ref (He.ga X.K "NONE")) hg T.g_NONE rfl) fun σ W E Q q => q _ W (Le.refl W) ⟨_, [.int 0, .int 0], rfl, T.v_NONE _, _, _, rfl, rfl, _, _, rfl, rfl, rfl⟩
end
section
variable {P : Program} {w : World} {K : PySem.W.Frag} {mg : Str → Option Value} {base : Heap}
def S_shifted (ds : List D) (d : D) : Prop := ∃ x y u v : Rat, ds = [ptD x y, ptD u v] ∧ Pr x u ∧ Pr y v ∧ d = ptD (x + u) (y + v)
abbrev N_shifted : List Str := ["point", "other"]
theorem sc_shifted : FnScope N_shifted ["point", "other"] (defScope s_shifted) := ⟨rfl, rfl, rfl, by decide +kernel, rfl, by decide +kernel, by decide +kernel⟩
theorem ok_shifted (T : TB K mg) : Ok P w K mg base 4 "shifted" 2 S_shifted := by
  obtain ⟨fd, F⟩ := T.f_shifted
  refine ok_of (N := N_shifted) (ps := ["point", "other"]) F T.g_shifted sc_shifted rfl (fun _ _ _ _ _ _ us hl => match us, hl with | [_, _], _ => rfl) fun cdv A outer s H ds d E hr hl hS => ?_
  obtain ⟨x, y, u, v, rfl, hp, hq, rfl⟩ := hS
  exact ⟨_, dbR (dret (dtup (dacons (dcall (ok_added T) (hr.mono (by decide)) (dacons (dixT (dv 0 rfl) dint rfl) (dacons (dixT (dv 1 rfl) dint rfl) danil)) ⟨_, _, rfl, hp, rfl⟩) (dacons (dcall (ok_added T) (hr.mono (by decide)) (dacons (dixT (dv 0 rfl) dint rfl) (dacons (dixT (dv 1 rfl) dint rfl) danil)) ⟨_, _, rfl, hq, rfl⟩) danil)))), .inl rfl⟩
def S_grown (ds : List D) (d : D) : Prop := ∃ x y k : Rat, ds = [ptD x y, numD k] ∧ Pr x k ∧ Pr y k ∧ d = ptD (x * k) (y * k)
abbrev N_grown : List Str := ["point", "number"]
theorem sc_grown : FnScope N_grown ["point", "number"] (defScope s_grown) := ⟨rfl, rfl, rfl, by decide +kernel, rfl, by decide +kernel, by decide +kernel⟩
theorem ok_grown (T : TB K mg) : Ok P w K mg base 4 "grown" 2 S_grown := by
  obtain ⟨fd, F⟩ := T.f_grown
  refine ok_of (N := N_grown) (ps := ["point", "number"]) F T.g_grown sc_grown rfl (fun _ _ _ _ _ _ us hl => match us, hl with | [_, _], _ => rfl) fun cdv A outer s H ds d E hr hl hS => ?_
  obtain ⟨x, y, k, rfl, hp, hq, rfl⟩ := hS
  exact ⟨_, dbR (dret (dtup (dacons (dcall (ok_product T) (hr.mono (by decide)) (dacons (dixT (dv 0 rfl) dint rfl) (dacons (dv 1 rfl) danil)) ⟨_, _, rfl, hp, rfl⟩) (dacons (dcall (ok_product T) (hr.mono (by decide)) (dacons (dixT (dv 0 rfl) dint rfl) (dacons (dv 1 rfl) danil)) ⟨_, _, rfl, hq, rfl⟩) danil)))), .inl rfl⟩
def S_way_from (ds : List D) (d : D) : Prop := ∃ x y u v : Rat, ds = [ptD x y, ptD u v] ∧ Pr x u ∧ Pr y v ∧ d = ptD (x - u) (y - v)
abbrev N_way_from : List Str := ["point", "other"]
theorem sc_way_from : FnScope N_way_from ["point", "other"] (defScope s_way_from) := ⟨rfl, rfl, rfl, by decide +kernel, rfl, by decide +kernel, by decide +kernel⟩
theorem ok_way_from (T : TB K mg) : Ok P w K mg base 5 "way_from" 2 S_way_from := by
  obtain ⟨fd, F⟩ := T.f_way_from
  refine ok_of (N := N_way_from) (ps := ["point", "other"]) F T.g_way_from sc_way_from rfl (fun _ _ _ _ _ _ us hl => match us, hl with | [_, _], _ => rfl) fun cdv A outer s H ds d E hr hl hS => ?_
  obtain ⟨x, y, u, v, rfl, hp, hq, rfl⟩ := hS
  exact ⟨_, dbR (dret (dtup (dacons (dcall (ok_less_by T) (hr.mono (by decide)) (dacons (dixT (dv 0 rfl) dint rfl) (dacons (dixT (dv 1 rfl) dint rfl) danil)) ⟨_, _, rfl, hp, rfl⟩) (dacons (dcall (ok_less_by T) (hr.mono (by decide)) (dacons (dixT (dv 0 rfl) dint rfl) (dacons (dixT (dv 1 rfl) dint rfl) danil)) ⟨_, _, rfl, hq, rfl⟩) danil)))), .inl rfl⟩
/-- a place: a point, integers aside, a root -/
structure Pl where
  x : Rat
  y : Rat
  a : Int
  b : Int
  r : Rat
def plD (p : Pl) : D := .tup [ptD p.x p.y, ptD p.a p.b, numD p.r]
/-- the place of a point gone on by another one times the root of r -/
def fL (u v : Rat) : Int := u.num * v.den
def fM (u v : Rat) : Int := v.num * u.den
def fG (u v : Rat) : Int := gcdI (fL u v) (fM u v)
def fF (u v : Rat) : Rat := Rat.divInt (fG u v) ((u.den : Int) * (v.den : Int))
def formQ (x y u v r : Rat) : Pl := if r = 0 ∨ (u = 0 ∧ v = 0) then ⟨x, y, 0, 0, 0⟩ else match rootQ r with
  | some k => ⟨x + u * k, y + v * k, 0, 0, 0⟩
  | none => ⟨x, y, (fL u v).fdiv (fG u v), (fM u v).fdiv (fG u v), r * (fF u v * fF u v)⟩
/-- what must be small for it -/
structure FormOk (x y u v r : Rat) : Prop where
  pos : 0 ≤ r
  rn : Lt2 r.num.natAbs 13000
  rd : Lt2 r.den bD
  some_ : ∀ k, rootQ r = some k → Pr u k ∧ Pr v k ∧ Pr x (u * k) ∧ Pr y (v * k)
  un : Lt2 u.num.natAbs bN
  vn : Lt2 v.num.natAbs bN
  dd : Lt2 (u.den * v.den) bD
  g : Lt2 (fG u v).natAbs bD
  ff : Pr (fF u v) (fF u v)
  rf : Pr r (fF u v * fF u v)
theorem fG_pos {u v : Rat} (h : ¬ (u = 0 ∧ v = 0)) : fG u v ≠ 0 := by
  unfold fG gcdI
  have : 0 < (fL u v).natAbs.gcd (fM u v).natAbs := by
    rcases Nat.eq_zero_or_pos ((fL u v).natAbs.gcd (fM u v).natAbs) with z | z
    · obtain ⟨h1, h2⟩ := Nat.gcd_eq_zero_iff.mp z
      have h1' : u.num * v.den = 0 := Int.natAbs_eq_zero.mp h1
      have h2' : v.num * u.den = 0 := Int.natAbs_eq_zero.mp h2
      have du := u.den_pos
      have dv := v.den_pos
      refine absurd ⟨Rat.num_eq_zero.mp ?_, Rat.num_eq_zero.mp ?_⟩ h
      · rcases Int.mul_eq_zero.mp h1' with q | q
        · exact q
        · omega
      · rcases Int.mul_eq_zero.mp h2' with q | q
        · exact q
        · omega
    · exact z
  omega
def S_placed (ds : List D) (d : D) : Prop := ∃ x y u v r : Rat, ds = [ptD x y, ptD u v, numD r] ∧ FormOk x y u v r ∧ d = plD (formQ x y u v r)
abbrev N_placed : List Str := ["point", "aside", "root", "whole", "above", "under", "its", "below_it", "x", "y", "part"]
theorem sc_placed : FnScope N_placed ["point", "aside", "root"] (defScope s_placed) := ⟨rfl, rfl, rfl, by decide +kernel, rfl, by decide +kernel, by decide +kernel⟩
theorem ok_placed (T : TB K mg) : Ok P w K mg base 5 "placed" 3 S_placed := by
  obtain ⟨fd, F⟩ := T.f_placed
  refine ok_of (N := N_placed) (ps := ["point", "aside", "root"]) F T.g_placed sc_placed rfl (fun _ _ _ _ _ _ us hl => match us, hl with | [_, _, _], _ => rfl) fun cdv A outer s H ds d E hr hl hS => ?_
  obtain ⟨x, y, u, v, r, rfl, hp, rfl⟩ := hS
  have hu := hr.units
  by_cases h0 : r = 0 ∨ (u = 0 ∧ v = 0)
  · have e : formQ x y u v r = ⟨x, y, 0, 0, 0⟩ := if_pos h0
    rw [e]
    refine ⟨_, dbR (dif_t (DT.is (dw_val (dw_or (dt_cmp (ceqN hu) (dv 2 rfl) dint) fun _ => (dw_or1 (dt_cmp (ceqP hu) (dv 1 rfl) (dNONE T))))) ?_) (dbR (dret (DE.is (dtup (dacons (dv 0 rfl) (dacons (dNONE T) (dacons dint danil)))) ?_)))), .inl rfl⟩
    · rw [Bool.or_eq_true, decide_eq_true_iff, decide_eq_true_iff]; exact h0
    · show D.tup [ptD x y, .tup [.int 0, .int 0], .int 0] = .tup [ptD x y, ptD ((0 : Int) : Rat) ((0 : Int) : Rat), numD 0]
      rw [ptD_int, numD_zero]
  · have e : formQ x y u v r = match rootQ r with
      | some k => ⟨x + u * k, y + v * k, 0, 0, 0⟩
      | none => ⟨x, y, (fL u v).fdiv (fG u v), (fM u v).fdiv (fG u v), r * (fF u v * fF u v)⟩ := if_neg h0
    refine ⟨_, ?_, .inl rfl⟩
    refine db1 (dif_f (DT.is (dw_val (dw_or (dt_cmp (ceqN hu) (dv 2 rfl) dint) fun _ => (dw_or1 (dt_cmp (ceqP hu) (dv 1 rfl) (dNONE T))))) ?_) db0) ?_
    · rw [Bool.or_eq_false_iff, decide_eq_false_iff_not, decide_eq_false_iff_not]; exact not_or.mp h0
    refine db1 (dset (i := 3) sc_placed.nd rfl (dcall (ok_root_in T) (hr.mono (by decide)) (dacons (dv 2 rfl) danil) ⟨r, rfl, hp.pos, hp.rn, hp.rd, rfl⟩)) ?_
    cases hk : rootQ r with
    | some k =>
      rw [hk] at e
      rw [e]
      obtain ⟨h1, h2, h3, h4⟩ := hp.some_ k hk
      refine dbR (dif_t (DT.is (dt_cmp cnotN (dv 3 rfl) dnon) ?_) (dbR (dret (DE.is (dtup (dacons (dcall (ok_shifted T) (hr.mono (by decide)) (dacons (dv 0 rfl) (dacons (dcall (ok_grown T) (hr.mono (by decide)) (dacons (dv 1 rfl) (dacons (dv 3 rfl) danil)) ⟨u, v, k, rfl, h1, h2, rfl⟩) danil)) ⟨x, y, _, _, rfl, h3, h4, rfl⟩) (dacons (dNONE T) (dacons dint danil)))) ?_))))
      · rw [optD_isNon]; rfl
      · show D.tup [_, .tup [.int 0, .int 0], .int 0] = .tup [_, ptD ((0 : Int) : Rat) ((0 : Int) : Rat), numD 0]
        rw [ptD_int, numD_zero]
    | none =>
      rw [hk] at e
      rw [e]
      have hg := fG_pos (fun z => h0 (.inr z))
      have hud : Lt2 u.den bD := hp.dd.le (Nat.le_mul_of_pos_right _ v.den_pos)
      have hvd : Lt2 v.den bD := hp.dd.le (Nat.le_mul_of_pos_left _ u.den_pos)
      refine db1 (dif_f (DT.is (dt_cmp cnotN (dv 3 rfl) dnon) rfl) db0) ?_
      refine db1 (dasg (dtup (dacons (dcall (ok_halves T) (hr.mono (by decide)) (dacons (dixT (dv 1 rfl) dint rfl) danil) ⟨u, rfl, rfl⟩) (dacons (dcall (ok_halves T) (hr.mono (by decide)) (dacons (dixT (dv 1 rfl) dint rfl) danil) ⟨v, rfl, rfl⟩) danil))) (dgT rfl (dgs1 (dgT rfl (dgs1 (dgN (i := 4) sc_placed.nd rfl) (dgs1 (dgN (i := 5) sc_placed.nd rfl) dgs0))) (dgs1 (dgT rfl (dgs1 (dgN (i := 6) sc_placed.nd rfl) (dgs1 (dgN (i := 7) sc_placed.nd rfl) dgs0))) dgs0)))) ?_
      refine db1 (dpar (i := 8) (j := 9) (d1 := .int (fL u v)) (d2 := .int (fM u v)) rfl sc_placed.nd rfl rfl (by decide) rfl rfl (dacons (dmul (dv 4 rfl) (dv 7 rfl) (cm1 hp.un hvd.nd)) (dacons (dmul (dv 6 rfl) (dv 5 rfl) (cm1 hp.vn hud.nd)) danil))) ?_
      refine db1 (dset (i := 10) (d := .int (fG u v)) sc_placed.nd rfl (dcall (ok_common T) (hr.mono (by decide)) (dacons (dv 8 rfl) (dacons (dv 9 rfl) danil)) ⟨_, _, rfl, rfl⟩)) ?_
      refine dbR (dret (DE.is (dtup (dacons (dv 0 rfl) (dacons (dtup (dacons (dfdiv (dv 8 rfl) (dv 10 rfl) (divG hg hp.g)) (dacons (dfdiv (dv 9 rfl) (dv 10 rfl) (divG hg hp.g)) danil))) (dacons (dcall (ok_product T) (hr.mono (by decide)) (dacons (dv 2 rfl) (dacons (dcall (ok_square T) (hr.mono (by decide)) (dacons (dcall (ok_lowest T) (hr.mono (by decide)) (dacons (dv 10 rfl) (dacons (dmul (dv 5 rfl) (dv 7 rfl) (cm1 hud.nd hvd.nd)) danil)) ⟨_, _, rfl, den_ne u v, by rw [den_abs]; exact hp.dd, rfl⟩) danil) ⟨_, rfl, hp.ff, rfl⟩) danil)) ⟨_, _, rfl, hp.rf, rfl⟩) danil)))) ?_))
      show D.tup [_, D.tup [D.int _, D.int _], _] = D.tup [_, ptD _ _, _]
      rw [ptD_int]
      rfl
/-- one root in terms of another one that is kin of it -/
def borQ (r s : Rat) : Rat := match rootQ (r * s) with
  | some k => k / s
  | none => 0
structure BorOk (u v r s : Rat) : Prop where
  rs : Pr r s
  pos : 0 ≤ r * s
  n : Lt2 (r * s).num.natAbs 13000
  d : Lt2 (r * s).den bD
  ex : ∃ k, rootQ (r * s) = some k ∧ Pd k s
  pu : Pr u (borQ r s)
  pv : Pr v (borQ r s)
def S_by_one_root (ds : List D) (d : D) : Prop := ∃ u v r s : Rat, ds = [ptD u v, numD r, numD s] ∧ (¬ (u = 0 ∧ v = 0) → BorOk u v r s) ∧ d = ptD (u * borQ r s) (v * borQ r s)
abbrev N_by_one_root : List Str := ["aside", "root", "other"]
theorem sc_by_one_root : FnScope N_by_one_root ["aside", "root", "other"] (defScope s_by_one_root) := ⟨rfl, rfl, rfl, by decide +kernel, rfl, by decide +kernel, by decide +kernel⟩
theorem ok_by_one_root (T : TB K mg) : Ok P w K mg base 6 "by_one_root" 3 S_by_one_root := by
  obtain ⟨fd, F⟩ := T.f_by_one_root
  refine ok_of (N := N_by_one_root) (ps := ["aside", "root", "other"]) F T.g_by_one_root sc_by_one_root rfl (fun _ _ _ _ _ _ us hl => match us, hl with | [_, _, _], _ => rfl) fun cdv A outer s H ds d E hr hl hS => ?_
  obtain ⟨u, v, r, s', rfl, hp, rfl⟩ := hS
  have hu := hr.units
  by_cases h0 : u = 0 ∧ v = 0
  · obtain ⟨rfl, rfl⟩ := h0
    have e : ptD (0 * borQ r s') (0 * borQ r s') = .tup [.int 0, .int 0] := by rw [Rat.zero_mul, ptD_zero]
    rw [e]
    exact ⟨_, dbR (dif_t (DT.is (dt_cmp (ceqP hu) (dv 0 rfl) (dNONE T)) (by simp)) (dbR (dret (dNONE T)))), .inl rfl⟩
  · obtain ⟨k, hk, pd⟩ := (hp h0).ex
    have hb := hp h0
    have eb : borQ r s' = k / s' := by unfold borQ; rw [hk]
    refine ⟨_, ?_, .inl rfl⟩
    refine db1 (dif_f (DT.is (dt_cmp (ceqP hu) (dv 0 rfl) (dNONE T)) (decide_eq_false h0)) db0) ?_
    exact dbR (dret (dcall (ok_grown T) (hr.mono (by decide)) (dacons (dv 0 rfl) (dacons (dcall (ok_part_by T) (hr.mono (by decide)) (dacons (dcall (ok_root_in T) (hr.mono (by decide)) (dacons (dcall (ok_product T) (hr.mono (by decide)) (dacons (dv 1 rfl) (dacons (dv 2 rfl) danil)) ⟨r, s', rfl, hb.rs, rfl⟩) danil) ⟨_, rfl, hb.pos, hb.n, hb.d, rfl⟩) (dacons (dv 2 rfl) danil)) ⟨k, s', by rw [hk]; rfl, pd, rfl⟩) danil)) ⟨u, v, _, by rw [← eb], eb ▸ hb.pu, eb ▸ hb.pv, by rw [eb]⟩))
/-- kin roots -/
def kinB (r s : Rat) : Bool := decide (r ≠ 0 ∧ s ≠ 0 ∧ (rootQ (r * s)).isSome)
structure KinOk (r s : Rat) : Prop where
  rs : Pr r s
  pos : 0 ≤ r * s
  n : Lt2 (r * s).num.natAbs 13000
  d : Lt2 (r * s).den bD
def S_are_kin_roots (ds : List D) (d : D) : Prop := ∃ r s : Rat, ds = [numD r, numD s] ∧ KinOk r s ∧ d = .bl (kinB r s)
abbrev N_are_kin_roots : List Str := ["root", "other"]
theorem sc_are_kin_roots : FnScope N_are_kin_roots ["root", "other"] (defScope s_are_kin_roots) := ⟨rfl, rfl, rfl, by decide +kernel, rfl, by decide +kernel, by decide +kernel⟩
theorem ok_are_kin_roots (T : TB K mg) : Ok P w K mg base 4 "are_kin_roots" 2 S_are_kin_roots := by
  obtain ⟨fd, F⟩ := T.f_are_kin_roots
  refine ok_of (N := N_are_kin_roots) (ps := ["root", "other"]) F T.g_are_kin_roots sc_are_kin_roots rfl (fun _ _ _ _ _ _ us hl => match us, hl with | [_, _], _ => rfl) fun cdv A outer s H ds d E hr hl hS => ?_
  obtain ⟨r, s', rfl, hp, rfl⟩ := hS
  have hu := hr.units
  refine ⟨_, dbR (dret (DE.is (de_and (de_cmp (cneN hu) (dv 0 rfl) dint) fun _ => (de_and (de_cmp (cneN hu) (dv 1 rfl) dint) fun _ => (de_one (de_cmp cnotN (dcall (ok_root_in T) (hr.mono (by decide)) (dacons (dcall (ok_product T) (hr.mono (by decide)) (dacons (dv 0 rfl) (dacons (dv 1 rfl) danil)) ⟨r, s', rfl, hp.rs, rfl⟩) danil) ⟨_, rfl, hp.pos, hp.n, hp.d, rfl⟩) dnon)))) ?_)), .inl rfl⟩
  unfold kinB
  rw [optD_isNon, Bool.not_not]
  congr 1
  show (!decide (r = ((0 : Int) : Rat)) && (!decide (s' = ((0 : Int) : Rat)) && _)) = _
  rw [Rat.intCast_zero]
  by_cases h1 : r = 0 <;> by_cases h2 : s' = 0 <;> simp [h1, h2]
end
end K31
end
section
set_option maxHeartbeats 2000000
set_option autoImplicit false
/-! Sizes of rationals, of places. -/
namespace K31
open PySem PySem.Spec PyProof.Rows L2
/-- numerator below 2^a, denominator below 2^b -/
structure Bd (a b : Nat) (q : Rat) : Prop where
  n : Lt2 q.num.natAbs a
  d : Lt2 q.den b
theorem Bd.up {a b c d : Nat} {q : Rat} (h : Bd a b q) (h1 : a ≤ c) (h2 : b ≤ d) : Bd c d q := ⟨h.n.up h1, h.d.up h2⟩
theorem Bd.divInt {x y : Int} {a b : Nat} (hy : y ≠ 0) (hx : Lt2 x.natAbs a) (hb : Lt2 y.natAbs b) : Bd a b (Rat.divInt x y) := by
  obtain ⟨h1, h2⟩ := low_num (a := x) hy
  have hg : 0 < x.natAbs.gcd y.natAbs := Nat.gcd_pos_of_pos_right _ (Int.natAbs_pos.mpr hy)
  have e1 : (Rat.divInt x y).num.natAbs ≤ x.natAbs := by
    rw [Rat.num_divInt]
    refine Nat.le_trans (Int.natAbs_ediv_le_natAbs _ _) ?_
    rw [Int.natAbs_mul]
    have : y.sign.natAbs ≤ 1 := by
      rcases Int.lt_trichotomy y 0 with h | h | h
      · rw [Int.sign_eq_neg_one_of_neg h]; decide
      · exact absurd h hy
      · rw [Int.sign_eq_one_of_pos h]; decide
    calc y.sign.natAbs * x.natAbs ≤ 1 * x.natAbs := Nat.mul_le_mul_right _ this
      _ = x.natAbs := Nat.one_mul _
  have e2 : (Rat.divInt x y).den ≤ y.natAbs := by
    rw [Rat.den_divInt, if_neg hy]
    exact Nat.div_le_self _ _
  exact ⟨hx.le e1, hb.le e2⟩
theorem Bd.neg {a b : Nat} {q : Rat} (h : Bd a b q) : Bd a b (-q) := ⟨by simpa using h.n, h.d⟩
theorem Bd.mul {a b c d : Nat} {p q : Rat} (h : Bd a b p) (h' : Bd c d q) : Bd (a + c) (b + d) (p * q) := by
  rw [← divInt_mul']
  exact .divInt (den_ne p q) (by rw [Int.natAbs_mul]; exact h.n.mul h'.n) (by rw [den_abs]; exact h.d.mul h'.d)
theorem Bd.add {a b c d m : Nat} {p q : Rat} (h : Bd a b p) (h' : Bd c d q) (h1 : a + d ≤ m) (h2 : c + b ≤ m) : Bd (m + 1) (b + d) (p + q) := by
  rw [← divInt_add']
  refine .divInt (den_ne p q) ?_ (by rw [den_abs]; exact h.d.mul h'.d)
  refine ((((h.n.mul h'.d).up h1).add ((h'.n.mul h.d).up h2))).le ?_
  refine Nat.le_trans (Int.natAbs_add_le _ _) ?_
  rw [Int.natAbs_mul, Int.natAbs_mul, Int.natAbs_natCast, Int.natAbs_natCast]
  exact Nat.le_refl _
theorem Bd.sub {a b c d m : Nat} {p q : Rat} (h : Bd a b p) (h' : Bd c d q) (h1 : a + d ≤ m) (h2 : c + b ≤ m) : Bd (m + 1) (b + d) (p - q) := by
  rw [Rat.sub_eq_add_neg]; exact h.add h'.neg h1 h2
theorem Bd.pr {a b c d : Nat} {p q : Rat} (h : Bd a b p) (h' : Bd c d q) (h1 : a ≤ bN := by decide) (h2 : c ≤ bN := by decide) (h3 : b + d ≤ bD := by decide) : Pr p q := ⟨h.n.up h1, h'.n.up h2, (h.d.mul h'.d).up h3⟩
theorem Bd.int {i : Int} {a : Nat} (h : Lt2 i.natAbs a) : Bd a 1 (i : Rat) := ⟨by simpa using h, by simp [Lt2]⟩
theorem Bd.zero : Bd 0 1 0 := ⟨Lt2.zero, by simp [Lt2]⟩
/-- a root's size -/
theorem Bd.root {a b : Nat} {q r : Rat} (h : Bd (2 * a) (2 * b) (r * r)) (hr : q = r * r) : Bd a b r := by
  have hp : r * r = r ^ 2 := by rw [Rat.pow_succ, Rat.pow_succ]; simp
  have e1 : (r * r).num = r.num * r.num := by rw [hp, Rat.num_pow, Int.pow_succ, Int.pow_succ]; simp
  have e2 : (r * r).den = r.den * r.den := by rw [hp, Rat.den_pow, Nat.pow_succ, Nat.pow_succ]; simp
  have sq : ∀ {x n : Nat}, Lt2 (x * x) (2 * n) → Lt2 x n := fun {x n} h => by
    unfold Lt2 at *
    rcases Nat.lt_or_ge x (2 ^ n) with z | z
    · exact z
    · have := Nat.mul_le_mul z z
      rw [← Nat.pow_add, show n + n = 2 * n by omega] at this
      omega
  refine ⟨sq ?_, sq ?_⟩
  · have := h.n
    rw [e1, Int.natAbs_mul] at this
    exact this
  · have := h.d
    rw [e2] at this
    exact this
/-- a place in its one form -/
def PlOk (p : Pl) : Prop := (p.a = 0 ∧ p.b = 0 ∧ p.r = 0) ∨ (gcdI p.a p.b = 1 ∧ 0 < p.r ∧ rootQ p.r = none)
/-- small enough to be reckoned with and shown -/
structure PlSz (p : Pl) : Prop where
  x : Bd 600 600 p.x
  y : Bd 600 600 p.y
  a : Lt2 p.a.natAbs 900
  b : Lt2 p.b.natAbs 900
  r : Bd 1760 1760 p.r
theorem PlOk.nonneg {p : Pl} (h : PlOk p) : 0 ≤ p.r := by
  rcases h with ⟨_, _, h⟩ | ⟨_, h, _⟩
  · rw [h]; exact Rat.le_refl
  · exact Rat.le_of_lt h
theorem KinOk.of {p q : Pl} (hp : PlOk p) (hq : PlOk q) (sp : PlSz p) (sq : PlSz q) : KinOk p.r q.r :=
  ⟨sp.r.pr sq.r, Rat.mul_nonneg hp.nonneg hq.nonneg, (sp.r.mul sq.r).n.up (by decide), (sp.r.mul sq.r).d.up (by decide)⟩
end K31
end
section
set_option maxHeartbeats 4000000
set_option autoImplicit false
/-! The walk: how far apart, beads. -/
namespace K31
open PySem PySem.Spec PyProof.Rows L2
theorem Lt2.gcd {a b n : Nat} (ha : Lt2 a n) (hb : Lt2 b n) : Lt2 (a.gcd b) n := by
  rcases Nat.eq_zero_or_pos a with z | z
  · rw [z, Nat.gcd_zero_left]; exact hb
  · exact ha.le (Nat.le_of_dvd z (Nat.gcd_dvd_left _ _))
theorem FormOk.of {x y u v r : Rat} (hx : Bd 1810 1810 x) (hy : Bd 1810 1810 y) (hu : Bd 2700 1768 u) (hv : Bd 2700 1768 v) (h0 : 0 ≤ r) (hr : Bd 1760 1760 r) : FormOk x y u v r := by
  have hl : Lt2 (fL u v).natAbs 4468 := by
    unfold fL
    rw [Int.natAbs_mul]
    exact hu.n.mul hv.d
  have hm : Lt2 (fM u v).natAbs 4468 := by
    unfold fM
    rw [Int.natAbs_mul]
    exact hv.n.mul hu.d
  have hg : Lt2 (fG u v).natAbs 4468 := by
    unfold fG gcdI
    rw [Int.natAbs_natCast]
    exact hl.gcd hm
  have hf : Bd 4468 3536 (fF u v) := .divInt (den_ne u v) hg (by rw [den_abs]; exact hu.d.mul hv.d)
  refine ⟨h0, hr.n.up (by decide), hr.d.up (by decide), fun k hk => ?_, hu.n.up (by decide), hv.n.up (by decide), (hu.d.mul hv.d).up (by decide), hg.up (by decide), hf.pr hf, hr.pr (hf.mul hf)⟩
  obtain ⟨_, e⟩ := rootQ_some h0 hk
  have bk : Bd 880 880 k := Bd.root (q := r) (e ▸ hr) e.symm
  exact ⟨hu.pr bk, hv.pr bk, hx.pr (hu.mul bk), hy.pr (hv.mul bk)⟩
theorem Bd.div {a b c d : Nat} {p q : Rat} (h : Bd a b p) (h' : Bd c d q) (hq : q ≠ 0) : Bd (a + d) (b + c) (p / q) := by
  have hn : q.num ≠ 0 := fun e => hq (Rat.num_eq_zero.mp e)
  rw [← divInt_div']
  refine .divInt (Int.mul_ne_zero (by have := p.den_pos; omega) hn) (by rw [Int.natAbs_mul]; exact h.n.mul h'.d) (by rw [Int.natAbs_mul]; exact h.d.mul h'.n)
theorem kin_sq {r s k : Rat} (hs : s ≠ 0) (h : k * k = r * s) : k / s * (k / s) = r / s := by grind
theorem BorOk.of {p q : Pl} {u v k : Rat} (hp : PlOk p) (hq : PlOk q) (sp : PlSz p) (sq : PlSz q) (hu : Bd 903 4 u) (hv : Bd 903 4 v) (hk : rootQ (p.r * q.r) = some k) (h0 : q.r ≠ 0) : BorOk u v p.r q.r ∧ Bd 1760 1760 (borQ p.r q.r) := by
  have K := KinOk.of hp hq sp sq
  obtain ⟨k0, e⟩ := rootQ_some K.pos hk
  have b2 := sp.r.mul sq.r
  have bk : Bd 1760 1760 k := Bd.root (q := p.r * q.r) (by rw [e]; exact b2) e.symm
  have eb : borQ p.r q.r = k / q.r := by unfold borQ; rw [hk]
  have bb : Bd 1760 1760 (borQ p.r q.r) := by
    rw [eb]
    refine Bd.root (q := p.r / q.r) ?_ (kin_sq h0 e).symm
    rw [kin_sq h0 e]
    exact sp.r.div sq.r h0
  exact ⟨⟨K.rs, K.pos, K.n, K.d, ⟨k, hk, ⟨bk.n.up (by decide), sq.r.d.up (by decide), (bk.d.mul sq.r.n).up (by decide), h0⟩⟩, hu.pr bb, hv.pr bb⟩, bb⟩
/-! ### the square of the distance from a point -/
def sqQ (x y : Rat) (p : Pl) : Option Rat := if (x - p.x) * p.a + (y - p.y) * p.b = 0 then some (((x - p.x) * (x - p.x) + (y - p.y) * (y - p.y)) + ((p.a : Rat) * p.a + p.b * p.b) * p.r) else none
def ptPl (x y : Rat) : Pl := ⟨x, y, 0, 0, 0⟩
section
variable {P : Program} {w : World} {K : PySem.W.Frag} {mg : Str → Option Value} {base : Heap}
def S_off_by (ds : List D) (d : D) : Prop := ∃ (x y : Rat) (p : Pl), ds = [plD (ptPl x y), plD p] ∧ Bd 600 600 x ∧ Bd 600 600 y ∧ PlOk p ∧ PlSz p ∧ d = optD (sqQ x y p)
abbrev N_off_by : List Str := ["one", "other", "point", "aside", "root", "its", "away", "last", "way", "by", "turn", "far"]
theorem sc_off_by : FnScope N_off_by ["one", "other"] (defScope s_off_by) := ⟨rfl, rfl, rfl, by decide +kernel, rfl, by decide +kernel, by decide +kernel⟩
theorem ok_off_by (T : TB K mg) : Ok P w K mg base 7 "off_by" 2 S_off_by := by
  obtain ⟨fd, F⟩ := T.f_off_by
  refine ok_of (N := N_off_by) (ps := ["one", "other"]) F T.g_off_by sc_off_by rfl (fun _ _ _ _ _ _ us hl => match us, hl with | [_, _], _ => rfl) fun cdv A outer s H ds d E hr hl hS => ?_
  obtain ⟨x, y, p, rfl, hx, hy, hp, sp, rfl⟩ := hS
  have hu := hr.units
  have wx : Bd 1201 1200 (x - p.x) := hx.sub sp.x (m := 1200) (by decide) (by decide)
  have wy : Bd 1201 1200 (y - p.y) := hy.sub sp.y (m := 1200) (by decide) (by decide)
  have ba : Bd 900 1 (p.a : Rat) := .int sp.a
  have bb : Bd 900 1 (p.b : Rat) := .int sp.b
  have k1 : (p.a : Rat) * borQ p.r p.r = p.a ∧ (p.b : Rat) * borQ p.r p.r = p.b := by
    rcases hp with ⟨h1, h2, _⟩ | ⟨_, h, _⟩
    · rw [h1, h2, Rat.intCast_zero, Rat.zero_mul]; exact ⟨rfl, rfl⟩
    · have : borQ p.r p.r = 1 := by
        unfold borQ
        rw [rootQ_sq (Rat.le_of_lt h)]
        show p.r / p.r = 1
        have := Rat.ne_of_gt h
        grind
      rw [this, Rat.mul_one, Rat.mul_one]; exact ⟨rfl, rfl⟩
  have tx : (0 : Rat) * borQ 0 p.r - p.a * borQ p.r p.r = -p.a := by rw [Rat.zero_mul, k1.1]; grind
  have ty : (0 : Rat) * borQ 0 p.r - p.b * borQ p.r p.r = -p.b := by rw [Rat.zero_mul, k1.2]; grind
  have za : Pr (0 * borQ 0 p.r) (p.a * borQ p.r p.r) := by rw [Rat.zero_mul, k1.1]; exact Bd.zero.pr ba
  have zb : Pr (0 * borQ 0 p.r) (p.b * borQ p.r p.r) := by rw [Rat.zero_mul, k1.2]; exact Bd.zero.pr bb
  refine ⟨_, ?_, .inl rfl⟩
  refine db1 (dasg (dtup (dacons (dv 0 rfl) (dacons (dv 1 rfl) danil))) (dgT rfl (dgs1 (dgT rfl (dgs1 (dgN (i := 2) sc_off_by.nd rfl) (dgs1 (dgN (i := 3) sc_off_by.nd rfl) (dgs1 (dgN (i := 4) sc_off_by.nd rfl) dgs0)))) (dgs1 (dgT rfl (dgs1 (dgN (i := 5) sc_off_by.nd rfl) (dgs1 (dgN (i := 6) sc_off_by.nd rfl) (dgs1 (dgN (i := 7) sc_off_by.nd rfl) dgs0)))) dgs0)))) ?_
  refine db1 (dset (i := 8) sc_off_by.nd rfl (dcall (ok_way_from T) (hr.mono (by decide)) (dacons (dv 2 rfl) (dacons (dv 5 rfl) danil)) ⟨x, y, p.x, p.y, rfl, hx.pr sp.x, hy.pr sp.y, rfl⟩)) ?_
  refine dbR (dif_t (dw_val (dw_or_t (DT.is (dt_cmp (ceqN hu) (dv 4 rfl) dint) rfl))) ?_)
  refine db1 (dset (i := 9) sc_off_by.nd rfl (de_if_f (DT.is (dt_cmp (cneN hu) (dv 4 rfl) dint) rfl) (dv 7 rfl))) ?_
  refine db1 (dset (i := 10) (d := ptD (-p.a) (-p.b)) sc_off_by.nd rfl (DE.is (dcall (ok_way_from T) (hr.mono (by decide)) (dacons (dcall (ok_by_one_root T) (hr.mono (by decide)) (dacons (dv 3 rfl) (dacons (dv 4 rfl) (dacons (dv 9 rfl) danil))) ⟨0, 0, 0, p.r, rfl, fun h => absurd ⟨rfl, rfl⟩ h, rfl⟩) (dacons (dcall (ok_by_one_root T) (hr.mono (by decide)) (dacons (dv 6 rfl) (dacons (dv 7 rfl) (dacons (dv 9 rfl) danil))) ⟨p.a, p.b, p.r, p.r, rfl, fun h => ?_, rfl⟩) danil)) ⟨_, _, _, _, rfl, za, zb, rfl⟩) ?_)) ?_
  · have h0 : p.r ≠ 0 := by
      rcases hp with ⟨h1, h2, _⟩ | ⟨_, h, _⟩
      · exact absurd ⟨by rw [h1]; rfl, by rw [h2]; rfl⟩ h
      · exact Rat.ne_of_gt h
    exact (BorOk.of hp hp sp sp (ba.up (by decide) (by decide)) (bb.up (by decide) (by decide)) (rootQ_sq hp.nonneg) h0).1
  · rw [tx, ty]
  have na : Bd 900 1 (-(p.a : Rat)) := ba.neg
  have nb : Bd 900 1 (-(p.b : Rat)) := bb.neg
  have s1 : Ps (x - p.x) (y - p.y) (-(p.a : Rat)) (-(p.b : Rat)) := ⟨wx.pr na, wy.pr nb, (wx.mul na).pr (wy.mul nb)⟩
  have s2 : Ps (x - p.x) (y - p.y) (x - p.x) (y - p.y) := ⟨wx.pr wx, wy.pr wy, (wx.mul wx).pr (wy.mul wy)⟩
  have s3 : Ps (-(p.a : Rat)) (-(p.b : Rat)) (-(p.a : Rat)) (-(p.b : Rat)) := ⟨na.pr na, nb.pr nb, (na.mul na).pr (nb.mul nb)⟩
  have b3 : Bd 1803 4 (-(p.a : Rat) * -(p.a : Rat) + -(p.b : Rat) * -(p.b : Rat)) := ((na.mul na).add (nb.mul nb) (m := 1802) (by decide) (by decide)).up (by decide) (by decide)
  have b2 : Bd 4803 4800 ((x - p.x) * (x - p.x) + (y - p.y) * (y - p.y)) := ((wx.mul wx).add (wy.mul wy) (m := 4802) (by decide) (by decide)).up (by decide) (by decide)
  refine dbR (dret (de_if (dt_cmp (cneN hu) (dcall (ok_summed T) (hr.mono (by decide)) (dacons (dv 8 rfl) (dacons (dv 10 rfl) danil)) ⟨_, _, _, _, rfl, s1, rfl⟩) dint) (fun h => DE.is dnon ?_) (fun h => DE.is (dcall (ok_added T) (hr.mono (by decide)) (dacons (dcall (ok_summed T) (hr.mono (by decide)) (dacons (dv 8 rfl) (dacons (dv 8 rfl) danil)) ⟨_, _, _, _, rfl, s2, rfl⟩) (dacons (dcall (ok_product T) (hr.mono (by decide)) (dacons (dcall (ok_summed T) (hr.mono (by decide)) (dacons (dv 10 rfl) (dacons (dv 10 rfl) danil)) ⟨_, _, _, _, rfl, s3, rfl⟩) (dacons (dv 9 rfl) danil)) ⟨_, _, rfl, b3.pr sp.r, rfl⟩) danil)) ⟨_, _, rfl, b2.pr (b3.mul sp.r), rfl⟩) ?_)))
  · have hne : ¬ ((x - p.x) * p.a + (y - p.y) * p.b = 0) := fun z => by
      have : (x - p.x) * -(p.a : Rat) + (y - p.y) * -(p.b : Rat) = ((0 : Int) : Rat) := by rw [Rat.intCast_zero]; grind
      rw [decide_eq_true this] at h
      cases h
    rw [sqQ, if_neg hne]; rfl
  · have hz : (x - p.x) * p.a + (y - p.y) * p.b = 0 := by
      have h' : decide ((x - p.x) * -(p.a : Rat) + (y - p.y) * -(p.b : Rat) = ((0 : Int) : Rat)) = true := by simpa using h
      have h2 := of_decide_eq_true h'
      rw [Rat.intCast_zero] at h2
      grind
    rw [sqQ, if_pos hz]
    show numD _ = numD _
    congr 1
    grind
/-! ### beads -/
def optPl : Option Pl → D
  | some p => plD p
  | none => .non
def goneQ (p q : Pl) (s : Rat) : Option Pl :=
  let sx := p.x + (q.x - p.x) * s
  let sy := p.y + (q.y - p.y) * s
  let m1 := (p.a : Rat) * (1 - s)
  let m2 := (p.b : Rat) * (1 - s)
  let n1 := (q.a : Rat) * s
  let n2 := (q.b : Rat) * s
  if (m1 = 0 ∧ m2 = 0) ∨ (n1 = 0 ∧ n2 = 0) then (if m1 = 0 ∧ m2 = 0 then some (formQ sx sy n1 n2 q.r) else some (formQ sx sy m1 m2 p.r))
  else if kinB p.r q.r = true then some (formQ sx sy (m1 + n1 * borQ q.r p.r) (m2 + n2 * borQ q.r p.r) p.r) else none
def S_gone (ds : List D) (d : D) : Prop := ∃ (p q : Pl) (s : Rat), ds = [plD p, plD q, numD s] ∧ PlOk p ∧ PlOk q ∧ PlSz p ∧ PlSz q ∧ Bd 3 3 s ∧ Bd 3 3 (1 - s) ∧ d = optPl (goneQ p q s)
abbrev N_gone : List Str := ["one", "other", "share", "point", "aside", "root", "its", "away", "last", "spot", "mine", "more"]
theorem sc_gone : FnScope N_gone ["one", "other", "share"] (defScope s_gone) := ⟨rfl, rfl, rfl, by decide +kernel, rfl, by decide +kernel, by decide +kernel⟩
theorem ok_gone (T : TB K mg) : Ok P w K mg base 7 "gone" 3 S_gone := by
  obtain ⟨fd, F⟩ := T.f_gone
  refine ok_of (N := N_gone) (ps := ["one", "other", "share"]) F T.g_gone sc_gone rfl (fun _ _ _ _ _ _ us hl => match us, hl with | [_, _, _], _ => rfl) fun cdv A outer s H ds d E hr hl hS => ?_
  obtain ⟨p, q, t, rfl, hp, hq, sp, sq, ht, ht1, rfl⟩ := hS
  have hu := hr.units
  have wx : Bd 1201 1200 (q.x - p.x) := sq.x.sub sp.x (m := 1200) (by decide) (by decide)
  have wy : Bd 1201 1200 (q.y - p.y) := sq.y.sub sp.y (m := 1200) (by decide) (by decide)
  have bsx : Bd 1810 1810 (p.x + (q.x - p.x) * t) := (sp.x.add (wx.mul ht) (m := 1804) (by decide) (by decide)).up (by decide) (by decide)
  have bsy : Bd 1810 1810 (p.y + (q.y - p.y) * t) := (sp.y.add (wy.mul ht) (m := 1804) (by decide) (by decide)).up (by decide) (by decide)
  have pa : Bd 900 1 (p.a : Rat) := .int sp.a
  have pb : Bd 900 1 (p.b : Rat) := .int sp.b
  have qa : Bd 900 1 (q.a : Rat) := .int sq.a
  have qb : Bd 900 1 (q.b : Rat) := .int sq.b
  have m1 : Bd 903 4 ((p.a : Rat) * (1 - t)) := pa.mul ht1
  have m2 : Bd 903 4 ((p.b : Rat) * (1 - t)) := pb.mul ht1
  have n1 : Bd 903 4 ((q.a : Rat) * t) := qa.mul ht
  have n2 : Bd 903 4 ((q.b : Rat) * t) := qb.mul ht
  have b1 : Bd 1 1 (1 : Rat) := ⟨by simp [Lt2], by simp [Lt2]⟩
  refine ⟨_, ?_, .inl rfl⟩
  refine db1 (dasg (dtup (dacons (dv 0 rfl) (dacons (dv 1 rfl) danil))) (dgT rfl (dgs1 (dgT rfl (dgs1 (dgN (i := 3) sc_gone.nd rfl) (dgs1 (dgN (i := 4) sc_gone.nd rfl) (dgs1 (dgN (i := 5) sc_gone.nd rfl) dgs0)))) (dgs1 (dgT rfl (dgs1 (dgN (i := 6) sc_gone.nd rfl) (dgs1 (dgN (i := 7) sc_gone.nd rfl) (dgs1 (dgN (i := 8) sc_gone.nd rfl) dgs0)))) dgs0)))) ?_
  refine db1 (dset (i := 9) sc_gone.nd rfl (dcall (ok_shifted T) (hr.mono (by decide)) (dacons (dv 3 rfl) (dacons (dcall (ok_grown T) (hr.mono (by decide)) (dacons (dcall (ok_way_from T) (hr.mono (by decide)) (dacons (dv 6 rfl) (dacons (dv 3 rfl) danil)) ⟨_, _, _, _, rfl, sq.x.pr sp.x, sq.y.pr sp.y, rfl⟩) (dacons (dv 2 rfl) danil)) ⟨_, _, _, rfl, wx.pr ht, wy.pr ht, rfl⟩) danil)) ⟨_, _, _, _, rfl, sp.x.pr (wx.mul ht), sp.y.pr (wy.mul ht), rfl⟩)) ?_
  refine db1 (dpar (i := 10) (j := 11) rfl sc_gone.nd rfl rfl (by decide) rfl rfl (dacons (dcall (ok_grown T) (hr.mono (by decide)) (dacons (dv 4 rfl) (dacons (dcall (ok_less_by T) (hr.mono (by decide)) (dacons dint (dacons (dv 2 rfl) danil)) ⟨1, t, by rw [numD_one], b1.pr ht, rfl⟩) danil)) ⟨_, _, _, rfl, pa.pr ht1, pb.pr ht1, rfl⟩) (dacons (dcall (ok_grown T) (hr.mono (by decide)) (dacons (dv 7 rfl) (dacons (dv 2 rfl) danil)) ⟨_, _, _, rfl, qa.pr ht, qb.pr ht, rfl⟩) danil))) ?_
  by_cases hm : (p.a : Rat) * (1 - t) = 0 ∧ (p.b : Rat) * (1 - t) = 0
  · refine dbR (dif_t (dw_val (dw_or_t (DT.is (dt_cmp (ceqP hu) (dv 10 rfl) (dNONE T)) (decide_eq_true hm)))) (dbR (dret (de_if_t (DT.is (dt_cmp (ceqP hu) (dv 10 rfl) (dNONE T)) (decide_eq_true hm)) (dcall (ok_placed T) (hr.mono (by decide)) (dacons (dv 9 rfl) (dacons (dv 11 rfl) (dacons (dv 8 rfl) danil))) ⟨_, _, _, _, _, rfl, FormOk.of bsx bsy (n1.up (by decide) (by decide)) (n2.up (by decide) (by decide)) hq.nonneg sq.r, ?_⟩)))))
    show optPl (goneQ p q t) = _
    unfold goneQ
    rw [if_pos (.inl hm), if_pos hm]; rfl
  · by_cases hn : (q.a : Rat) * t = 0 ∧ (q.b : Rat) * t = 0
    · refine dbR (dif_t (dw_val (dw_or_f (DT.is (dt_cmp (ceqP hu) (dv 10 rfl) (dNONE T)) (decide_eq_false hm)) (dw_or1 (DT.is (dt_cmp (ceqP hu) (dv 11 rfl) (dNONE T)) (decide_eq_true hn))))) (dbR (dret (de_if_f (DT.is (dt_cmp (ceqP hu) (dv 10 rfl) (dNONE T)) (decide_eq_false hm)) (dcall (ok_placed T) (hr.mono (by decide)) (dacons (dv 9 rfl) (dacons (dv 10 rfl) (dacons (dv 5 rfl) danil))) ⟨_, _, _, _, _, rfl, FormOk.of bsx bsy (m1.up (by decide) (by decide)) (m2.up (by decide) (by decide)) hp.nonneg sp.r, ?_⟩)))))
      show optPl (goneQ p q t) = _
      unfold goneQ
      rw [if_pos (.inr hn), if_neg hm]; rfl
    · refine db1 (dif_f (dw_val (dw_or_f (DT.is (dt_cmp (ceqP hu) (dv 10 rfl) (dNONE T)) (decide_eq_false hm)) (dw_or1 (DT.is (dt_cmp (ceqP hu) (dv 11 rfl) (dNONE T)) (decide_eq_false hn))))) db0) ?_
      have eg : goneQ p q t = if kinB p.r q.r = true then some (formQ (p.x + (q.x - p.x) * t) (p.y + (q.y - p.y) * t) ((p.a : Rat) * (1 - t) + (q.a : Rat) * t * borQ q.r p.r) ((p.b : Rat) * (1 - t) + (q.b : Rat) * t * borQ q.r p.r) p.r) else none := by
        unfold goneQ
        rw [if_neg (not_or.mpr ⟨hm, hn⟩)]
      cases hk : kinB p.r q.r with
      | false =>
        rw [hk, if_neg Bool.false_ne_true] at eg
        rw [eg]
        exact dbR (dif_t (DT.is (dt_not (dt_val (dcall (ok_are_kin_roots T) (hr.mono (by decide)) (dacons (dv 5 rfl) (dacons (dv 8 rfl) danil)) ⟨_, _, rfl, KinOk.of hp hq sp sq, rfl⟩))) (by rw [hk]; rfl)) (dbR (dret dnon)))
      | true =>
        rw [hk, if_pos rfl] at eg
        rw [eg]
        obtain ⟨h1, h2, h3⟩ := of_decide_eq_true hk
        obtain ⟨k, hk'⟩ := Option.isSome_iff_exists.mp h3
        have hk2 : rootQ (q.r * p.r) = some k := by rw [Rat.mul_comm]; exact hk'
        obtain ⟨bo, bb⟩ := BorOk.of (u := (q.a : Rat) * t) (v := (q.b : Rat) * t) hq hp sq sp n1 n2 hk2 h1
        refine db1 (dif_f (DT.is (dt_not (dt_val (dcall (ok_are_kin_roots T) (hr.mono (by decide)) (dacons (dv 5 rfl) (dacons (dv 8 rfl) danil)) ⟨_, _, rfl, KinOk.of hp hq sp sq, rfl⟩))) (by rw [hk]; rfl)) db0) ?_
        have c1 : Bd 2664 1764 ((q.a : Rat) * t * borQ q.r p.r) := (n1.mul bb).up (by decide) (by decide)
        have c2 : Bd 2664 1764 ((q.b : Rat) * t * borQ q.r p.r) := (n2.mul bb).up (by decide) (by decide)
        have u1 := m1.add c1 (m := 2668) (by decide) (by decide)
        have u2 := m2.add c2 (m := 2668) (by decide) (by decide)
        exact dbR (dret (dcall (ok_placed T) (hr.mono (by decide)) (dacons (dv 9 rfl) (dacons (dcall (ok_shifted T) (hr.mono (by decide)) (dacons (dv 10 rfl) (dacons (dcall (ok_by_one_root T) (hr.mono (by decide)) (dacons (dv 11 rfl) (dacons (dv 8 rfl) (dacons (dv 5 rfl) danil))) ⟨_, _, _, _, rfl, fun _ => bo, rfl⟩) danil)) ⟨_, _, _, _, rfl, m1.pr c1, m2.pr c2, rfl⟩) (dacons (dv 5 rfl) danil))) ⟨_, _, _, _, _, rfl, FormOk.of bsx bsy (u1.up (by decide) (by decide)) (u2.up (by decide) (by decide)) hp.nonneg sp.r, rfl⟩))
end
end K31
end
section
set_option maxHeartbeats 4000000
set_option autoImplicit false
/-! The walk: the law's own numbers. -/
namespace K31
open PySem PySem.Spec PyProof.Rows L2
section
variable {X : Cx} {ρ ρ' : Rho} {a b : Expr} {pos : Pos} {ds : List D}
/-- a block's end, names forgotten -/
theorem db0w (hl : ρ.length = ρ'.length) (hw : ∀ (i : Nat) (d : D), ρ'[i]? = some (some d) → ρ[i]? = some (some d)) : DB X [] ρ (.nx ρ') := .of pss_nil fun σ W E D q => q σ W (Le.refl W) (E.weak hl.symm hw)
/-- slots told less of -/
def Wk : Rho → Rho → Prop
  | [], [] => True
  | x :: r, y :: s => (y = none ∨ y = x) ∧ Wk r s
  | _, _ => False
theorem Wk.len : ∀ {r s : Rho}, Wk r s → r.length = s.length
  | [], [], _ => rfl
  | _ :: _, _ :: _, h => by simp [Wk.len h.2]
  | [], _ :: _, h => h.elim
  | _ :: _, [], h => h.elim
theorem Wk.at_ : ∀ {r s : Rho}, Wk r s → ∀ (i : Nat) (d : D), s[i]? = some (some d) → r[i]? = some (some d)
  | [], [], _, _, _, e => by simp at e
  | x :: r, y :: s, h, 0, d, e => by
    rcases h.1 with q | q
    · subst q; simp at e
    · subst q; exact e
  | _ :: _, _ :: _, h, i + 1, d, e => Wk.at_ h.2 i d e
  | [], _ :: _, h, _, _, _ => h.elim
  | _ :: _, [], h, _, _, _ => h.elim
theorem db0k (h : Wk ρ ρ') : DB X [] ρ (.nx ρ') := db0w h.len h.at_
theorem lt2l {x n : Nat} (k : Nat) (h : decide (x < 2 ^ k) = true) (hk : k ≤ n) : Lt2 x n := Lt2.up (n := k) (show x < 2 ^ k from of_decide_eq_true h) hk
theorem dbits {i : Int} {apos : Pos} (ha : DE X a ρ (.int i)) (hbase : attributeBase a "bit_length" X.env (eval a X.env) = eval a X.env := by rfl) (hline : (apos.endLine == pos.line) = true := by rfl) : DE X (.Call (.Attribute a "bit_length" apos) [] [] pos) ρ (.int ((Builtin.Int.intBits i : Nat) : Int)) :=
  .of (pe_bits (peW a) hbase hline) fun σ W E Q q => ha σ W E _ fun v W1 e1 r1 => ⟨i, r1, q _ W1 e1 rfl⟩
/-- a number times itself, of any size -/
theorem op_sq : OpR X (binaryOp .Pow) (rI (fun i j => j = 2 ∧ Lt2 i.natAbs 50000) fun i j => .int (i * i)) := opI fun i j t u s Q E hc q => by
  obtain ⟨rfl, hb⟩ := hc
  have e : i ^ (2 : Int).toNat = i * i := by show i ^ 2 = _; rw [Int.pow_succ, Int.pow_succ]; simp
  refine pow_int (by decide) ?_ (by rw [e]; exact q)
  have h1 := log2_lt' (n := 50000) (by decide) hb
  have h2 : Builtin.Int.intBits i ≤ i.natAbs.log2 + 1 := by
    unfold Builtin.Int.intBits
    split <;> omega
  have : ((Builtin.Int.intBits i : Nat) : Int) ≤ 50000 := by omega
  have h3 : (2 : Int) ^ 27 = 134217728 := by decide
  omega
theorem dsq {i : Int} (ha : DE X a ρ (.int i)) (hb : DE X b ρ (.int 2)) (hs : Lt2 i.natAbs 50000) : DE X (.BinOp a .Pow b pos) ρ (.int (i * i)) := .bin op_sq ha hb fun x y W hx hy Q q => ⟨i, 2, hx, hy, ⟨rfl, hs⟩, q _ W (Le.refl W) rfl⟩
end
section
variable {P : Program} {w : World} {K : PySem.W.Frag} {mg : Str → Option Value} {base : Heap}
def S__law_lowest (ds : List D) (d : D) : Prop := ∃ a b : Int, ds = [.int a, .int b] ∧ b ≠ 0 ∧ Lt2 b.natAbs bD ∧ d = numD (Rat.divInt a b)
abbrev N__law_lowest : List Str := ["_law_above", "_law_under", "_law_one", "_law_other", "_law_part"]
theorem sc__law_lowest : FnScope N__law_lowest ["_law_above", "_law_under"] (defScope s__law_lowest) := ⟨rfl, rfl, rfl, by decide +kernel, rfl, by decide +kernel, by decide +kernel⟩
theorem ok__law_lowest (T : TB K mg) : Ok P w K mg base 2 "_law_lowest" 2 S__law_lowest := by
  obtain ⟨fd, F⟩ := T.f__law_lowest
  refine ok_of (N := N__law_lowest) (ps := ["_law_above", "_law_under"]) F T.g__law_lowest sc__law_lowest rfl (fun _ _ _ _ _ _ us hl => match us, hl with | [_, _], _ => rfl) fun cdv A outer s H ds d E hr hl hS => ?_
  obtain ⟨a, b, rfl, hb, hs, rfl⟩ := hS
  obtain ⟨h1, h2⟩ := low_num (a := a) hb
  have hg : 0 < a.natAbs.gcd b.natAbs := Nat.gcd_pos_of_pos_right _ (Int.natAbs_pos.mpr hb)
  have hl2 : Lt2 (a.natAbs.gcd b.natAbs) bD := hs.le (Nat.le_of_dvd (Int.natAbs_pos.mpr hb) (Nat.gcd_dvd_right _ _))
  refine ⟨_, ?_, .inl rfl⟩
  refine db1 (dpar (i := 2) (j := 3) rfl sc__law_lowest.nd rfl rfl (by decide) rfl rfl (dacons (dabs T.b_abs (dv 0 rfl)) (dacons (dabs T.b_abs (dv 1 rfl)) danil))) ?_
  refine db1 (ρ' := [some (.int a), some (.int b), some (.int (gcdI a b)), some (.int 0), none]) (dwhile (fun s : Nat × Nat => [some (.int a), some (.int b), some (.int (s.1 : Int)), some (.int (s.2 : Int)), none]) (fun s => decide ((0 : Int) < s.2)) (fun s => (s.2, s.1 % s.2)) (fun s => s.2) (fun s => s.1.gcd s.2 = a.natAbs.gcd b.natAbs) (a.natAbs, b.natAbs) PassesOwn.never (fun s hs => (dt_cmp cgt (dv 3 rfl) dint)) (fun s hs ht => ⟨?_, ?_, ?_⟩) ?_ rfl ?_) ?_
  · have h0 : 0 < s.2 := by simpa using ht
    refine db1 (dpar (i := 2) (j := 3) rfl sc__law_lowest.nd rfl rfl (by decide) rfl rfl (dacons (dv 3 rfl) (dacons (dmod (dintI T.b_int (dv 2 rfl)) (dv 3 rfl) (by omega)) danil))) ?_
    have e : Int.fmod (s.1 : Int) (s.2 : Int) = ((s.1 % s.2 : Nat) : Int) := by rw [Int.fmod_eq_emod_of_nonneg _ (by omega)]; rfl
    rw [e]
    exact db0
  · have h0 : 0 < s.2 := by simpa using ht
    exact Nat.mod_lt _ h0
  · show s.2.gcd (s.1 % s.2) = _
    rw [← hs, Nat.gcd_comm, ← Nat.gcd_rec, Nat.gcd_comm]
  · rw [abs_eq, abs_eq]; rfl
  · intro s hs ht
    have h0 : s.2 = 0 := by
      have : ¬ (0 : Int) < s.2 := by simpa using ht
      omega
    rw [h0, Nat.gcd_zero_right] at hs
    show [some (D.int a), some (D.int b), some (D.int (s.1 : Int)), some (D.int (s.2 : Int)), none] = _
    rw [h0, hs]; rfl
  refine db1 (dset (i := 4) (d := .int (if b < 0 then -gcdI a b else gcdI a b)) sc__law_lowest.nd rfl (de_if (dt_cmp cgt (dv 1 rfl) dint) (fun h => DE.is (dv 2 rfl) (by have := of_decide_eq_true h; rw [if_neg (by omega)])) (fun h => DE.is (dneg (dv 2 rfl)) (by have := of_decide_eq_false h; rw [if_pos (by omega)])))) ?_
  have hp : (if b < 0 then -gcdI a b else gcdI a b) ≠ 0 := by
    have : gcdI a b ≠ 0 := by unfold gcdI; omega
    split <;> omega
  have hps : Lt2 (if b < 0 then -gcdI a b else gcdI a b).natAbs bD := by
    refine hl2.le ?_
    unfold gcdI
    split <;> omega
  refine db1 (dpar (i := 0) (j := 1) (d1 := .int (Rat.divInt a b).num) (d2 := .int (Rat.divInt a b).den) rfl sc__law_lowest.nd rfl rfl (by decide) rfl rfl (dacons (DE.is (dfdiv (dv 0 rfl) (dv 4 rfl) (divG hp hps)) (congrArg D.int h1)) (dacons (DE.is (dfdiv (dv 1 rfl) (dv 4 rfl) (divG hp hps)) (congrArg D.int h2)) danil))) ?_
  refine dbR (dret (d := numD (Rat.divInt a b)) (de_if (dt_cmp ceqI (dv 1 rfl) dint) (fun h => DE.is (dv 0 rfl) ?_) (fun h => DE.is (dtup (dacons (dv 0 rfl) (dacons (dv 1 rfl) danil))) ?_)))
  · have : (Rat.divInt a b).den = 1 := by have := of_decide_eq_true h; omega
    rw [numD_int this]
  · have : (Rat.divInt a b).den ≠ 1 := by have := of_decide_eq_false h; omega
    rw [numD_pair this]
def S__law_halves (ds : List D) (d : D) : Prop := ∃ q : Rat, ds = [numD q] ∧ d = .lst [.int q.num, .int q.den]
abbrev N__law_halves : List Str := ["_law_number"]
theorem sc__law_halves : FnScope N__law_halves ["_law_number"] (defScope s__law_halves) := ⟨rfl, rfl, rfl, by decide +kernel, rfl, by decide +kernel, by decide +kernel⟩
theorem ok__law_halves (T : TB K mg) : Ok P w K mg base 1 "_law_halves" 1 S__law_halves := by
  obtain ⟨fd, F⟩ := T.f__law_halves
  refine ok_of (N := N__law_halves) (ps := ["_law_number"]) F T.g__law_halves sc__law_halves rfl (fun _ _ _ _ _ _ us hl => match us, hl with | [_], _ => rfl) fun cdv A outer s H ds d E hr hl hS => ?_
  obtain ⟨q, rfl, rfl⟩ := hS
  by_cases h : q.den = 1
  · rw [numD_int h, h]
    exact ⟨_, dbR (dret (de_if_t (dt_val (disi (z := true) T.b_isinstance T.b_int boot_int (dv 0 rfl) rfl)) (dlst (dacons (dv 0 rfl) (dacons dint danil))))), .inl rfl⟩
  · rw [numD_pair h]
    exact ⟨_, dbR (dret (de_if_f (dt_val (disi (z := false) T.b_isinstance T.b_int boot_int (dv 0 rfl) rfl)) (dlst (dacons (dixT (dv 0 rfl) dint rfl) (dacons (dixT (dv 0 rfl) dint rfl) danil))))), .inl rfl⟩
def S__law_plus (ds : List D) (d : D) : Prop := ∃ p q : Rat, ds = [numD p, numD q] ∧ Pr p q ∧ d = numD (p + q)
abbrev N__law_plus : List Str := ["_law_one", "_law_other", "_law_mine", "_law_its"]
theorem sc__law_plus : FnScope N__law_plus ["_law_one", "_law_other"] (defScope s__law_plus) := ⟨rfl, rfl, rfl, by decide +kernel, rfl, by decide +kernel, by decide +kernel⟩
theorem ok__law_plus (T : TB K mg) : Ok P w K mg base 3 "_law_plus" 2 S__law_plus := by
  obtain ⟨fd, F⟩ := T.f__law_plus
  refine ok_of (N := N__law_plus) (ps := ["_law_one", "_law_other"]) F T.g__law_plus sc__law_plus rfl (fun _ _ _ _ _ _ us hl => match us, hl with | [_, _], _ => rfl) fun cdv A outer s H ds d E hr hl hS => ?_
  obtain ⟨p, q, rfl, hp, rfl⟩ := hS
  refine ⟨_, ?_, .inl rfl⟩
  refine db1 (dpar (i := 2) (j := 3) rfl sc__law_plus.nd rfl rfl (by decide) rfl rfl (dacons (dcall (ok__law_halves T) (hr.mono (by decide)) (dacons (dv 0 rfl) danil) ⟨p, rfl, rfl⟩) (dacons (dcall (ok__law_halves T) (hr.mono (by decide)) (dacons (dv 1 rfl) danil) ⟨q, rfl, rfl⟩) danil))) ?_
  refine dbR (dret (dcall (ok__law_lowest T) (hr.mono (by decide)) (dacons (dadd (dmul (dixL (dv 2 rfl) dint rfl) (dixL (dv 3 rfl) dint rfl) (cm1 hp.np hp.dq.nd)) (dmul (dixL (dv 3 rfl) dint rfl) (dixL (dv 2 rfl) dint rfl) (cm1 hp.nq hp.dp.nd))) (dacons (dmul (dixL (dv 2 rfl) dint rfl) (dixL (dv 3 rfl) dint rfl) (cm1 hp.dp.nd hp.dq.nd)) danil)) ⟨_, _, rfl, den_ne p q, by rw [den_abs]; exact hp.dd, ?_⟩))
  rw [divInt_add']
def S__law_times (ds : List D) (d : D) : Prop := ∃ p q : Rat, ds = [numD p, numD q] ∧ Pr p q ∧ d = numD (p * q)
abbrev N__law_times : List Str := ["_law_one", "_law_other", "_law_mine", "_law_its"]
theorem sc__law_times : FnScope N__law_times ["_law_one", "_law_other"] (defScope s__law_times) := ⟨rfl, rfl, rfl, by decide +kernel, rfl, by decide +kernel, by decide +kernel⟩
theorem ok__law_times (T : TB K mg) : Ok P w K mg base 3 "_law_times" 2 S__law_times := by
  obtain ⟨fd, F⟩ := T.f__law_times
  refine ok_of (N := N__law_times) (ps := ["_law_one", "_law_other"]) F T.g__law_times sc__law_times rfl (fun _ _ _ _ _ _ us hl => match us, hl with | [_, _], _ => rfl) fun cdv A outer s H ds d E hr hl hS => ?_
  obtain ⟨p, q, rfl, hp, rfl⟩ := hS
  refine ⟨_, ?_, .inl rfl⟩
  refine db1 (dpar (i := 2) (j := 3) rfl sc__law_times.nd rfl rfl (by decide) rfl rfl (dacons (dcall (ok__law_halves T) (hr.mono (by decide)) (dacons (dv 0 rfl) danil) ⟨p, rfl, rfl⟩) (dacons (dcall (ok__law_halves T) (hr.mono (by decide)) (dacons (dv 1 rfl) danil) ⟨q, rfl, rfl⟩) danil))) ?_
  refine dbR (dret (dcall (ok__law_lowest T) (hr.mono (by decide)) (dacons (dmul (dixL (dv 2 rfl) dint rfl) (dixL (dv 3 rfl) dint rfl) (cm1 hp.np hp.nq)) (dacons (dmul (dixL (dv 2 rfl) dint rfl) (dixL (dv 3 rfl) dint rfl) (cm1 hp.dp.nd hp.dq.nd)) danil)) ⟨_, _, rfl, den_ne p q, by rw [den_abs]; exact hp.dd, ?_⟩))
  rw [divInt_mul']
/-- the root by halves -/
def bis (n : Nat) : Nat → Nat × Nat
  | 0 => (0, n + 1)
  | k + 1 => if ((bis n k).1 + (bis n k).2) / 2 * (((bis n k).1 + (bis n k).2) / 2) ≤ n then (((bis n k).1 + (bis n k).2) / 2, (bis n k).2) else ((bis n k).1, ((bis n k).1 + (bis n k).2) / 2)
theorem bis_inv (n : Nat) : ∀ k, (bis n k).1 * (bis n k).1 ≤ n ∧ n < (bis n k).2 * (bis n k).2 ∧ (bis n k).1 < (bis n k).2 ∧ (bis n k).2 ≤ n + 1
  | 0 => ⟨by simp [bis], by show n < (n + 1) * (n + 1); rw [Nat.add_mul, Nat.mul_add]; omega, by simp [bis], Nat.le_refl _⟩
  | k + 1 => by
    obtain ⟨h1, h2, h3, h4⟩ := bis_inv n k
    unfold bis
    split
    · rename_i h
      refine ⟨h, h2, ?_, h4⟩
      have hlt : ((bis n k).1 + (bis n k).2) / 2 < (bis n k).2 := by omega
      exact hlt
    · rename_i h
      have hne : (bis n k).1 ≠ ((bis n k).1 + (bis n k).2) / 2 := fun e => h (e ▸ h1)
      refine ⟨h1, ?_, ?_, ?_⟩
      · show n < ((bis n k).1 + (bis n k).2) / 2 * (((bis n k).1 + (bis n k).2) / 2)
        exact Nat.lt_of_not_le h
      · show (bis n k).1 < ((bis n k).1 + (bis n k).2) / 2
        omega
      · show ((bis n k).1 + (bis n k).2) / 2 ≤ n + 1
        omega
theorem bis_width (n L : Nat) (hL : n + 1 ≤ 2 ^ L) : ∀ k, k ≤ L → (bis n k).2 - (bis n k).1 ≤ 2 ^ (L - k)
  | 0, _ => by simpa [bis] using hL
  | k + 1, hk => by
    have ih := bis_width n L hL k (by omega)
    obtain ⟨_, _, h3, _⟩ := bis_inv n k
    have e : 2 ^ (L - k) = 2 * 2 ^ (L - (k + 1)) := by rw [← Nat.pow_succ']; congr 1; omega
    rw [e] at ih
    unfold bis
    split
    · show (bis n k).2 - ((bis n k).1 + (bis n k).2) / 2 ≤ _
      omega
    · show ((bis n k).1 + (bis n k).2) / 2 - (bis n k).1 ≤ _
      omega
theorem bis_stay (n k : Nat) (h : (bis n k).2 - (bis n k).1 ≤ 1) : (bis n (k + 1)).2 - (bis n (k + 1)).1 ≤ 1 := by
  obtain ⟨_, _, h3, _⟩ := bis_inv n k
  unfold bis
  split
  · show (bis n k).2 - ((bis n k).1 + (bis n k).2) / 2 ≤ _
    omega
  · show ((bis n k).1 + (bis n k).2) / 2 - (bis n k).1 ≤ _
    omega
theorem bis_root (n L : Nat) (hL : n + 1 ≤ 2 ^ L) : (bis n (L + 2)).1 = Float64.isqrt n := by
  have h0 := bis_width n L hL L (Nat.le_refl _)
  rw [Nat.sub_self, Nat.pow_zero] at h0
  have h2 : (bis n (L + 2)).2 - (bis n (L + 2)).1 ≤ 1 := bis_stay n _ (bis_stay n _ h0)
  obtain ⟨a, b, c, _⟩ := bis_inv n (L + 2)
  have e : (bis n (L + 2)).2 = (bis n (L + 2)).1 + 1 := by omega
  rw [e] at b
  exact (isq_unique a b).symm
theorem bits_le (n : Nat) : n + 1 ≤ 2 ^ Builtin.Int.intBits (n : Int) := by
  unfold Builtin.Int.intBits
  by_cases h : n = 0
  · subst h; decide
  · have e : ((n : Int) == 0) = false := by simpa using h
    rw [e, Int.natAbs_natCast]
    exact Nat.lt_log2_self
theorem bits_small {n m : Nat} (h0 : 0 < m) (h : Lt2 n m) : Builtin.Int.intBits (n : Int) ≤ m := by
  unfold Builtin.Int.intBits
  have := log2_lt' h0 h
  rw [Int.natAbs_natCast]
  split <;> omega
def S__law_whole_root (ds : List D) (d : D) : Prop := ∃ n : Nat, ds = [.int n] ∧ Lt2 n 13000 ∧ d = .int (Float64.isqrt n : Nat)
abbrev N__law_whole_root : List Str := ["_law_number", "_law_low", "_law_high", "_law_turn", "_law_half"]
theorem sc__law_whole_root : FnScope N__law_whole_root ["_law_number"] (defScope s__law_whole_root) := ⟨rfl, rfl, rfl, by decide +kernel, rfl, by decide +kernel, by decide +kernel⟩
theorem ok__law_whole_root (T : TB K mg) : Ok P w K mg base 1 "_law_whole_root" 1 S__law_whole_root := by
  obtain ⟨fd, F⟩ := T.f__law_whole_root
  refine ok_of (N := N__law_whole_root) (ps := ["_law_number"]) F T.g__law_whole_root sc__law_whole_root rfl (fun _ _ _ _ _ _ us hl => match us, hl with | [_], _ => rfl) fun cdv A outer s H ds d E hr hl hS => ?_
  obtain ⟨n, rfl, hn, rfl⟩ := hS
  have hb := bits_small (by decide) hn
  refine ⟨_, ?_, .inl rfl⟩
  refine db1 (dpar (i := 1) (j := 2) rfl sc__law_whole_root.nd rfl rfl (by decide) rfl rfl (dacons dint (dacons (dadd (dv 0 rfl) dint) danil))) ?_
  refine db1 (ρ' := [some (.int n), some (.int ((bis n (Builtin.Int.intBits (n : Int) + 2)).1 : Nat)), some (.int ((bis n (Builtin.Int.intBits (n : Int) + 2)).2 : Nat)), none, none]) (dfor (fun i => [some (.int n), some (.int ((bis n i).1 : Nat)), some (.int ((bis n i).2 : Nat)), none, none]) (fun _ => none) PassesOwn.never rfl (diR (n := Builtin.Int.intBits (n : Int) + 2) T.b_range (DE.is (dadd (dbits (dintI T.b_int (dv 0 rfl))) dint) (by rw [Int.natCast_add]; rfl)) (by omega)) ?_ ?_ (.inr ⟨?_, fun _ _ => rfl⟩)) ?_
  · rfl
  · intro i d hd _
    obtain ⟨h1, h2, h3, h4⟩ := bis_inv n i
    refine ⟨_, dgN (i := 3) sc__law_whole_root.nd rfl, fun _ => ?_, fun _ h => nomatch h⟩
    have hh : ((bis n i).1 + (bis n i).2) / 2 ≤ n + 1 := by omega
    have hl : Lt2 (((bis n i).1 + (bis n i).2) / 2) 13001 := by
      refine Nat.lt_of_le_of_lt hh ?_
      have : n < 2 ^ 13000 := hn
      rw [Nat.pow_succ]
      omega
    refine db1 (dset (i := 4) (d := .int (((bis n i).1 + (bis n i).2) / 2 : Nat)) sc__law_whole_root.nd rfl (DE.is (dfdiv (dadd (dv 1 rfl) (dv 2 rfl)) dint (divG (by decide) (lt2l 4 (by decide) (by decide)))) ?_)) ?_
    · rw [Int.fdiv_eq_ediv_of_nonneg _ (by decide)]; rfl
    have hc : CMulW ((((bis n i).1 + (bis n i).2) / 2 : Nat) : Int) ((((bis n i).1 + (bis n i).2) / 2 : Nat) : Int) := cm1 (hl.up (by decide)) (hl.up (by decide))
    refine db1 (dasg (d := .tup [.int ((bis n (i + 1)).1 : Nat), .int ((bis n (i + 1)).2 : Nat)]) (de_if (dt_cmp cle (dmul (dv 4 rfl) (dv 4 rfl) hc) (dv 0 rfl)) (fun h => DE.is (dtup (dacons (dv 4 rfl) (dacons (dv 2 rfl) danil))) ?_) (fun h => DE.is (dtup (dacons (dv 1 rfl) (dacons (dv 4 rfl) danil))) ?_)) (dgT rfl (dgs1 (dgN (i := 1) sc__law_whole_root.nd rfl) (dgs1 (dgN (i := 2) sc__law_whole_root.nd rfl) dgs0)))) (db0k ⟨.inr rfl, .inr rfl, .inr rfl, .inl rfl, .inl rfl, trivial⟩)
    · have h' := of_decide_eq_true h
      have h'' : ((bis n i).1 + (bis n i).2) / 2 * (((bis n i).1 + (bis n i).2) / 2) ≤ n := by
        rw [← Int.natCast_mul] at h'; exact Int.ofNat_le.mp h'
      rw [bis, if_pos h'']
    · have h' := of_decide_eq_false h
      have h'' : ¬ ((bis n i).1 + (bis n i).2) / 2 * (((bis n i).1 + (bis n i).2) / 2) ≤ n := fun z => h' (by
        rw [← Int.natCast_mul]; exact Int.ofNat_le.mpr z)
      rw [bis, if_neg h'']
  · rw [List.length_map, List.length_range]
  · refine dbR (dret (DE.is (dv 1 rfl) ?_))
    rw [bis_root n _ (bits_le n)]
def S__law_root (ds : List D) (d : D) : Prop := ∃ q : Rat, ds = [numD q] ∧ 0 ≤ q ∧ Lt2 q.num.natAbs 13000 ∧ Lt2 q.den bD ∧ d = optD (rootQ q)
abbrev N__law_root : List Str := ["_law_number", "_law_pair", "_law_roots"]
theorem sc__law_root : FnScope N__law_root ["_law_number"] (defScope s__law_root) := ⟨rfl, rfl, rfl, by decide +kernel, rfl, by decide +kernel, by decide +kernel⟩
theorem ok__law_root (T : TB K mg) : Ok P w K mg base 3 "_law_root" 1 S__law_root := by
  obtain ⟨fd, F⟩ := T.f__law_root
  refine ok_of (N := N__law_root) (ps := ["_law_number"]) F T.g__law_root sc__law_root rfl (fun _ _ _ _ _ _ us hl => match us, hl with | [_], _ => rfl) fun cdv A outer s H ds d E hr hl hS => ?_
  obtain ⟨q, rfl, hq, hn, hd, rfl⟩ := hS
  have hu := hr.units
  have h0 : 0 ≤ q.num := Rat.num_nonneg.mpr hq
  have e0 : q.num = ((q.num.toNat : Nat) : Int) := by omega
  have hn' : Lt2 q.num.toNat 13000 := hn.le (by omega)
  have ln : Lt2 (Float64.isqrt q.num.toNat) 13000 := by
    refine hn.le ?_
    have h1 := (isq_spec q.num.toNat).1
    have h2 := Nat.le_mul_self (Float64.isqrt q.num.toNat)
    omega
  have ld : Lt2 (Float64.isqrt q.den) bD := by
    refine hd.le ?_
    have h1 := (isq_spec q.den).1
    have h2 := Nat.le_mul_self (Float64.isqrt q.den)
    omega
  have dpos : 0 < Float64.isqrt q.den := by
    rcases Nat.eq_zero_or_pos (Float64.isqrt q.den) with z | z
    · have h1 := (isq_spec q.den).2
      rw [z] at h1
      have := q.den_pos
      omega
    · exact z
  refine ⟨_, ?_, .inl rfl⟩
  refine db1 (dset (i := 1) sc__law_root.nd rfl (dcall (ok__law_halves T) (hr.mono (by decide)) (dacons (dv 0 rfl) danil) ⟨q, rfl, rfl⟩)) ?_
  refine db1 (dset (i := 2) sc__law_root.nd rfl (dlst (dacons (dcall (ok__law_whole_root T) (hr.mono (by decide)) (dacons (dixL (dv 1 rfl) dint rfl) danil) ⟨q.num.toNat, by rw [← e0], hn', rfl⟩) (dacons (dcall (ok__law_whole_root T) (hr.mono (by decide)) (dacons (dixL (dv 1 rfl) dint rfl) danil) ⟨q.den, rfl, hd.up (by decide), rfl⟩) danil)))) ?_
  refine dbR (dret (d := optD (rootQ q)) (de_if (z := decide (Float64.isqrt q.num.toNat * Float64.isqrt q.num.toNat = q.num.toNat ∧ Float64.isqrt q.den * Float64.isqrt q.den = q.den)) (dt_cmp (ceq hu (by exact ⟨trivial, trivial, trivial⟩) (by exact ⟨trivial, trivial, trivial⟩) ?_) (dlst (dacons (dsq (dixL (dv 2 rfl) dint rfl) dint (ln.up (by decide))) (dacons (dsq (dixL (dv 2 rfl) dint rfl) dint (ld.up (by decide))) danil))) (dv 1 rfl)) (fun h => ?_) (fun h => ?_)))
  · rw [decide_eq_true_iff]
    constructor
    · rintro ⟨h1, h2⟩
      show D.lst [.int _, .int _] = .lst [.int _, .int _]
      rw [← Int.natCast_mul, ← Int.natCast_mul, h1, h2, ← e0]
    · intro h
      injection h with h
      injection h with h1 h2
      injection h2 with h2 _
      injection h1 with h1
      injection h2 with h2
      rw [← Int.natCast_mul] at h1 h2
      exact ⟨by omega, by omega⟩
  · have e : rootQ q = some (Rat.divInt (Float64.isqrt q.num.toNat) (Float64.isqrt q.den)) := if_pos (of_decide_eq_true h)
    rw [e]
    exact dcall (ok__law_lowest T) (hr.mono (by decide)) (dacons (dixL (dv 2 rfl) dint rfl) (dacons (dixL (dv 2 rfl) dint rfl) danil)) ⟨_, _, rfl, by omega, ld, rfl⟩
  · have e : rootQ q = none := if_neg (of_decide_eq_false h)
    rw [e]
    exact dnon
/-- maps over numbers -/
def q1 (g : Rat → Rat) (d : D) : D := numD (g (qOf d))
def q2 (g : Rat → Rat → Rat) : D → D
  | .tup [x, y] => numD (g (qOf x) (qOf y))
  | _ => .non
theorem q1_num (g : Rat → Rat) (q : Rat) : q1 g (numD q) = numD (g q) := by unfold q1; rw [qOf_numD]
theorem q2_num (g : Rat → Rat → Rat) (p q : Rat) : q2 g (.tup [numD p, numD q]) = numD (g p q) := by show numD (g (qOf (numD p)) (qOf (numD q))) = _; rw [qOf_numD, qOf_numD]
theorem in2 {a b : D} {P : D → Prop} (h1 : P a) (h2 : P b) : ∀ d ∈ [a, b], P d := fun d hd => by
  rcases List.mem_cons.mp hd with rfl | hd
  · exact h1
  · rcases List.mem_cons.mp hd with rfl | hd
    · exact h2
    · cases hd
/-- a pair as a list -/
def ltD (x y : Rat) : D := .lst [numD x, numD y]
theorem ltD_good9 (x y : Rat) : Good (ltD x y) 9 := ⟨numD_good x 7, numD_good y 7, trivial⟩
theorem ltD_inj {x y u v : Rat} (h : ltD x y = ltD u v) : x = u ∧ y = v := by
  unfold ltD at h
  injection h with h
  injection h with h1 h2
  injection h2 with h2 _
  exact ⟨numD_inj h1, numD_inj h2⟩
theorem ltD_zero : ltD 0 0 = .lst [.int 0, .int 0] := by unfold ltD; rw [numD_zero]
def S__law_form (ds : List D) (d : D) : Prop := ∃ (x y u v r : Rat) (as : D), ds = [ltD x y, as, numD r] ∧ (as = ltD u v ∨ (as = .tup [.int 0, .int 0] ∧ u = 0 ∧ v = 0)) ∧ FormOk x y u v r ∧ d = plD (formQ x y u v r)
abbrev N__law_form : List Str := ["_law_point", "_law_aside", "_law_root_here", "_law_whole", "_law_mine", "_law_its", "_law_one", "_law_other", "_law_left", "_law_right", "_law_under", "_law_part", "_law_more", "_law_factor"]
theorem sc__law_form : FnScope N__law_form ["_law_point", "_law_aside", "_law_root_here"] (defScope s__law_form) := ⟨rfl, rfl, rfl, by decide +kernel, rfl, by decide +kernel, by decide +kernel⟩
theorem ok__law_form (T : TB K mg) : Ok P w K mg base 4 "_law_form" 3 S__law_form := by
  obtain ⟨fd, F⟩ := T.f__law_form
  refine ok_of (N := N__law_form) (ps := ["_law_point", "_law_aside", "_law_root_here"]) F T.g__law_form sc__law_form rfl (fun _ _ _ _ _ _ us hl => match us, hl with | [_, _, _], _ => rfl) fun cdv A outer s H ds d E hr hl hS => ?_
  obtain ⟨x, y, u, v, r, as, rfl, hk, hp, rfl⟩ := hS
  have hu := hr.units
  have ai : as.items = some [numD u, numD v] := by
    rcases hk with rfl | ⟨rfl, rfl, rfl⟩
    · rfl
    · rw [numD_zero]; rfl
  by_cases h0 : r = 0 ∨ (u = 0 ∧ v = 0)
  · have e : formQ x y u v r = ⟨x, y, 0, 0, 0⟩ := if_pos h0
    rw [e]
    refine ⟨_, dbR (dif_t (DT.is (dw_val (dw_or (dt_cmp (ceqP hu) (dtupleOf T.b_tuple (dv 1 rfl) ai) (dtup (dacons dint (dacons dint danil)))) fun _ => (dw_or1 (dt_cmp (ceqN hu) (dv 2 rfl) dint)))) ?_) (dbR (dret (DE.is (dtup (dacons (dtupleOf T.b_tuple (dv 0 rfl) rfl) (dacons (dtup (dacons dint (dacons dint danil))) (dacons dint danil)))) ?_)))), .inl rfl⟩
    · rw [Bool.or_eq_true, decide_eq_true_iff, decide_eq_true_iff]; exact h0.symm
    · show D.tup [ptD x y, .tup [.int 0, .int 0], .int 0] = .tup [ptD x y, ptD ((0 : Int) : Rat) ((0 : Int) : Rat), numD 0]
      rw [ptD_int, numD_zero]
  · have e : formQ x y u v r = match rootQ r with
      | some k => ⟨x + u * k, y + v * k, 0, 0, 0⟩
      | none => ⟨x, y, (fL u v).fdiv (fG u v), (fM u v).fdiv (fG u v), r * (fF u v * fF u v)⟩ := if_neg h0
    have ha : as = ltD u v := by
      rcases hk with q | ⟨_, q⟩
      · exact q
      · exact absurd (.inr q) h0
    subst ha
    refine ⟨_, ?_, .inl rfl⟩
    refine db1 (dif_f (DT.is (dw_val (dw_or (dt_cmp (ceqP hu) (dtupleOf T.b_tuple (dv 1 rfl) ai) (dtup (dacons dint (dacons dint danil)))) fun _ => (dw_or1 (dt_cmp (ceqN hu) (dv 2 rfl) dint)))) ?_) db0) ?_
    · rw [Bool.or_eq_false_iff, decide_eq_false_iff_not, decide_eq_false_iff_not]; exact (not_or.mp h0).symm
    refine db1 (dset (i := 3) sc__law_form.nd rfl (dcall (ok__law_root T) (hr.mono (by decide)) (dacons (dv 2 rfl) danil) ⟨r, rfl, hp.pos, hp.rn, hp.rd, rfl⟩)) ?_
    cases hk : rootQ r with
    | some k =>
      rw [hk] at e
      rw [e]
      obtain ⟨h1, h2, h3, h4⟩ := hp.some_ k hk
      refine dbR (dif_t (DT.is (dt_cmp cnotN (dv 3 rfl) dnon) ?_) (dbR (dret (DE.is (dtup (dacons (dtupleOf T.b_tuple (dlc (own := [("_law_mine", 4), ("_law_its", 5)]) (q2 fun a b => a + b * k) rfl sc__law_form.nd (diZL T.b_zip (dv 0 rfl) (dv 1 rfl)) (blkOk_by (N := N__law_form) (sc := defScope s__law_form) (by decide +kernel)) (pgP (i := 4) (j := 5) rfl sc__law_form.nd rfl rfl) (by simp [zipD]) (in2 ⟨_, bcP (by decide), fun _ _ _ _ _ => ?_⟩ ⟨_, bcP (by decide), fun _ _ _ _ _ => ?_⟩)) rfl) (dacons (dtup (dacons dint (dacons dint danil))) (dacons dint danil)))) ?_))))
      · rw [optD_isNon]; rfl
      · exact dcall (ok__law_plus T) (hr.mono (by decide)) (dacons (dv 4 rfl) (dacons (dcall (ok__law_times T) (hr.mono (by decide)) (dacons (dv 5 rfl) (dacons (dv 3 rfl) danil)) ⟨u, k, rfl, h1, rfl⟩) danil)) ⟨x, _, rfl, h3, q2_num _ _ _⟩
      · exact dcall (ok__law_plus T) (hr.mono (by decide)) (dacons (dv 4 rfl) (dacons (dcall (ok__law_times T) (hr.mono (by decide)) (dacons (dv 5 rfl) (dacons (dv 3 rfl) danil)) ⟨v, k, rfl, h2, rfl⟩) danil)) ⟨y, _, rfl, h4, q2_num _ _ _⟩
      · show D.tup [.tup [q2 _ _, q2 _ _], .tup [.int 0, .int 0], .int 0] = .tup [ptD _ _, ptD ((0 : Int) : Rat) ((0 : Int) : Rat), numD 0]
        rw [ptD_int, numD_zero, q2_num, q2_num]; rfl
    | none =>
      rw [hk] at e
      rw [e]
      have hg := fG_pos (fun z => h0 (.inr z))
      have hud : Lt2 u.den bD := hp.dd.le (Nat.le_mul_of_pos_right _ v.den_pos)
      have hvd : Lt2 v.den bD := hp.dd.le (Nat.le_mul_of_pos_left _ u.den_pos)
      refine db1 (dif_f (DT.is (dt_cmp cnotN (dv 3 rfl) dnon) rfl) db0) ?_
      refine db1 (dpar (i := 6) (j := 7) rfl sc__law_form.nd rfl rfl (by decide) rfl rfl (dacons (dcall (ok__law_halves T) (hr.mono (by decide)) (dacons (dixL (dv 1 rfl) dint rfl) danil) ⟨u, rfl, rfl⟩) (dacons (dcall (ok__law_halves T) (hr.mono (by decide)) (dacons (dixL (dv 1 rfl) dint rfl) danil) ⟨v, rfl, rfl⟩) danil))) ?_
      refine db1 (dpar3 (i := 8) (j := 9) (l := 10) (d1 := .int (fL u v)) (d2 := .int (fM u v)) rfl sc__law_form.nd rfl rfl rfl (by decide) (by decide) (by decide) rfl rfl rfl (dacons (dmul (dixL (dv 6 rfl) dint rfl) (dixL (dv 7 rfl) dint rfl) (cm1 hp.un hvd.nd)) (dacons (dmul (dixL (dv 7 rfl) dint rfl) (dixL (dv 6 rfl) dint rfl) (cm1 hp.vn hud.nd)) (dacons (dmul (dixL (dv 6 rfl) dint rfl) (dixL (dv 7 rfl) dint rfl) (cm1 hud.nd hvd.nd)) danil)))) ?_
      refine db1 (dset (i := 11) (d := .int (fL u v).natAbs) sc__law_form.nd rfl (DE.is (dabs T.b_abs (dv 8 rfl)) (congrArg D.int (abs_eq _)))) ?_
      refine db1 (dset (i := 12) (d := .int (fM u v).natAbs) sc__law_form.nd rfl (DE.is (dabs T.b_abs (dv 9 rfl)) (congrArg D.int (abs_eq _)))) ?_
      refine db1 (ρ' := [some (ltD x y), some (ltD u v), some (numD r), some .non, none, none, some (.lst [.int u.num, .int u.den]), some (.lst [.int v.num, .int v.den]), some (.int (fL u v)), some (.int (fM u v)), some (.int ((u.den : Int) * (v.den : Int))), some (.int (fG u v)), some (.int 0), none]) (dwhile (fun s : Nat × Nat => [some (ltD x y), some (ltD u v), some (numD r), some .non, none, none, some (.lst [.int u.num, .int u.den]), some (.lst [.int v.num, .int v.den]), some (.int (fL u v)), some (.int (fM u v)), some (.int ((u.den : Int) * (v.den : Int))), some (.int (s.1 : Nat)), some (.int (s.2 : Nat)), none]) (fun s => decide ((0 : Int) < s.2)) (fun s => (s.2, s.1 % s.2)) (fun s => s.2) (fun s => s.1.gcd s.2 = (fL u v).natAbs.gcd (fM u v).natAbs) ((fL u v).natAbs, (fM u v).natAbs) PassesOwn.never (fun s hs => (dt_cmp cgt (dv 12 rfl) dint)) (fun s hs ht => ⟨?_, ?_, ?_⟩) rfl rfl ?_) ?_
      · have h0 : 0 < s.2 := by simpa using ht
        refine db1 (dpar (i := 11) (j := 12) rfl sc__law_form.nd rfl rfl (by decide) rfl rfl (dacons (dv 12 rfl) (dacons (dmod (dintI T.b_int (dv 11 rfl)) (dv 12 rfl) (by omega)) danil))) ?_
        have e : Int.fmod (s.1 : Int) (s.2 : Int) = ((s.1 % s.2 : Nat) : Int) := by rw [Int.fmod_eq_emod_of_nonneg _ (by omega)]; rfl
        rw [e]
        exact db0
      · have h0 : 0 < s.2 := by simpa using ht
        exact Nat.mod_lt _ h0
      · show s.2.gcd (s.1 % s.2) = _
        rw [← hs, Nat.gcd_comm, ← Nat.gcd_rec, Nat.gcd_comm]
      · intro s hs ht
        have h0 : s.2 = 0 := by
          have : ¬ (0 : Int) < s.2 := by simpa using ht
          omega
        rw [h0, Nat.gcd_zero_right] at hs
        show [some (ltD x y), some (ltD u v), some (numD r), some .non, none, none, some (.lst [.int u.num, .int u.den]), some (.lst [.int v.num, .int v.den]), some (.int (fL u v)), some (.int (fM u v)), some (.int ((u.den : Int) * (v.den : Int))), some (D.int (s.1 : Nat)), some (.int (s.2 : Nat)), none] = _
        rw [h0, hs]; rfl
      refine db1 (dset (i := 13) sc__law_form.nd rfl (dcall (ok__law_lowest T) (hr.mono (by decide)) (dacons (dv 11 rfl) (dacons (dv 10 rfl) danil)) ⟨_, _, rfl, den_ne u v, by rw [den_abs]; exact hp.dd, rfl⟩)) ?_
      refine dbR (dret (DE.is (dtup (dacons (dtupleOf T.b_tuple (dv 0 rfl) rfl) (dacons (dtup (dacons (dfdiv (dv 8 rfl) (dv 11 rfl) (divG hg hp.g)) (dacons (dfdiv (dv 9 rfl) (dv 11 rfl) (divG hg hp.g)) danil))) (dacons (dcall (ok__law_times T) (hr.mono (by decide)) (dacons (dv 2 rfl) (dacons (dcall (ok__law_times T) (hr.mono (by decide)) (dacons (dv 13 rfl) (dacons (dv 13 rfl) danil)) ⟨_, _, rfl, hp.ff, rfl⟩) danil)) ⟨_, _, rfl, hp.rf, rfl⟩) danil)))) ?_))
      show D.tup [_, D.tup [D.int _, D.int _], _] = D.tup [_, ptD _ _, _]
      rw [ptD_int]
      rfl
end
end K31
end
section
set_option maxHeartbeats 4000000
set_option autoImplicit false
/-! The walk: the law's own places. -/
namespace K31
open PySem PySem.Spec PyProof.Rows L2
section
variable {X : Cx} {ρ : Rho} {a b : Expr} {pos : Pos} {ds : List D} {d d1 : D}
theorem dixS {i : Int} (ha : DE X a ρ d) (hd : d.items = some ds) (hb : DE X b ρ (.int i)) (h : atI ds i = some d1) (hp : PlainIx b := by exact fun _ _ => rfl) : DE X (.Subscript a b pos) ρ d1 := by
  cases d with
  | lst es => cases hd; exact dixL ha hb h hp
  | tup es => cases hd; exact dixT ha hb h hp
  | _ => cases hd
end
theorem Pr.lit {i : Int} {p q : Rat} (hp : Pr p q) (h : decide (i.natAbs < 2 ^ 8) = true) : Pr (i : Rat) q := ⟨by
  have : Lt2 i.natAbs bN := lt2l 8 h (by decide)
  simpa using this, hp.nq, by
  have e : ((i : Rat)).den = 1 := by simp
  rw [e, Nat.one_mul]; exact hp.dq⟩
theorem Bd.lit {i : Int} (h : decide (i.natAbs < 2 ^ 8) = true) : Bd 8 1 (i : Rat) := .int (show i.natAbs < 2 ^ 8 from of_decide_eq_true h)
section
variable {P : Program} {w : World} {K : PySem.W.Frag} {mg : Str → Option Value} {base : Heap}
def S__law_dot (ds : List D) (d : D) : Prop := ∃ (a b c e : Rat) (A B : D), ds = [A, B] ∧ A.items = some [numD a, numD b] ∧ B.items = some [numD c, numD e] ∧ Ps a b c e ∧ d = numD (a * c + b * e)
abbrev N__law_dot : List Str := ["_law_one", "_law_other"]
theorem sc__law_dot : FnScope N__law_dot ["_law_one", "_law_other"] (defScope s__law_dot) := ⟨rfl, rfl, rfl, by decide +kernel, rfl, by decide +kernel, by decide +kernel⟩
theorem ok__law_dot (T : TB K mg) : Ok P w K mg base 4 "_law_dot" 2 S__law_dot := by
  obtain ⟨fd, F⟩ := T.f__law_dot
  refine ok_of (N := N__law_dot) (ps := ["_law_one", "_law_other"]) F T.g__law_dot sc__law_dot rfl (fun _ _ _ _ _ _ us hl => match us, hl with | [_, _], _ => rfl) fun cdv A outer s H ds d E hr hl hS => ?_
  obtain ⟨a, b, c, e, A, B, rfl, hA, hB, hp, rfl⟩ := hS
  exact ⟨_, dbR (dret (dcall (ok__law_plus T) (hr.mono (by decide)) (dacons (dcall (ok__law_times T) (hr.mono (by decide)) (dacons (dixS (dv 0 rfl) hA dint rfl) (dacons (dixS (dv 1 rfl) hB dint rfl) danil)) ⟨_, _, rfl, hp.ac, rfl⟩) (dacons (dcall (ok__law_times T) (hr.mono (by decide)) (dacons (dixS (dv 0 rfl) hA dint rfl) (dacons (dixS (dv 1 rfl) hB dint rfl) danil)) ⟨_, _, rfl, hp.bd, rfl⟩) danil)) ⟨_, _, rfl, hp.s, rfl⟩)), .inl rfl⟩
theorem neg1_mul (q : Rat) : ((-1 : Int) : Rat) * q = -q := by
  rw [Rat.intCast_neg]
  grind
def S__law_way (ds : List D) (d : D) : Prop := ∃ x y u v : Rat, ds = [ptD x y, ptD u v] ∧ Pr x u ∧ Pr y v ∧ d = ltD (x - u) (y - v)
abbrev N__law_way : List Str := ["_law_one", "_law_other", "_law_mine", "_law_its"]
theorem sc__law_way : FnScope N__law_way ["_law_one", "_law_other"] (defScope s__law_way) := ⟨rfl, rfl, rfl, by decide +kernel, rfl, by decide +kernel, by decide +kernel⟩
theorem ok__law_way (T : TB K mg) : Ok P w K mg base 4 "_law_way" 2 S__law_way := by
  obtain ⟨fd, F⟩ := T.f__law_way
  refine ok_of (N := N__law_way) (ps := ["_law_one", "_law_other"]) F T.g__law_way sc__law_way rfl (fun _ _ _ _ _ _ us hl => match us, hl with | [_, _], _ => rfl) fun cdv A outer s H ds d E hr hl hS => ?_
  obtain ⟨x, y, u, v, rfl, hp, hq, rfl⟩ := hS
  refine ⟨_, dbR (dret (DE.is (dlc (own := [("_law_mine", 2), ("_law_its", 3)]) (q2 fun a b => a - b) rfl sc__law_way.nd (diZT T.b_zip (dv 0 rfl) (dv 1 rfl)) (blkOk_by (N := N__law_way) (sc := defScope s__law_way) (by decide +kernel)) (pgP (i := 2) (j := 3) rfl sc__law_way.nd rfl rfl) (by simp [zipD]) (in2 ⟨_, bcP (by decide), fun _ _ _ _ _ => ?_⟩ ⟨_, bcP (by decide), fun _ _ _ _ _ => ?_⟩)) ?_)), .inl rfl⟩
  · exact dcall (ok__law_plus T) (hr.mono (by decide)) (dacons (dv 2 rfl) (dacons (dcall (ok__law_times T) (hr.mono (by decide)) (dacons (dneg dint) (dacons (dv 3 rfl) danil)) ⟨((-1 : Int) : Rat), u, by rw [numD_intCast], hp.lit (by decide), rfl⟩) danil)) ⟨x, -u, by rw [neg1_mul], hp.neg, by rw [q2_num, Rat.sub_eq_add_neg]⟩
  · exact dcall (ok__law_plus T) (hr.mono (by decide)) (dacons (dv 2 rfl) (dacons (dcall (ok__law_times T) (hr.mono (by decide)) (dacons (dneg dint) (dacons (dv 3 rfl) danil)) ⟨((-1 : Int) : Rat), v, by rw [numD_intCast], hq.lit (by decide), rfl⟩) danil)) ⟨y, -v, by rw [neg1_mul], hq.neg, by rw [q2_num, Rat.sub_eq_add_neg]⟩
  · show D.lst [q2 _ _, q2 _ _] = _
    rw [q2_num, q2_num]; rfl
def kinT (r s : Rat) : Option Rat := if kinB r s = true then some (borQ s r) else none
def S__law_kin (ds : List D) (d : D) : Prop := ∃ p q : Pl, ds = [numD p.r, numD q.r] ∧ PlOk p ∧ PlOk q ∧ PlSz p ∧ PlSz q ∧ d = optD (kinT p.r q.r)
abbrev N__law_kin : List Str := ["_law_root_here", "_law_other", "_law_found"]
theorem sc__law_kin : FnScope N__law_kin ["_law_root_here", "_law_other"] (defScope s__law_kin) := ⟨rfl, rfl, rfl, by decide +kernel, rfl, by decide +kernel, by decide +kernel⟩
theorem ok__law_kin (T : TB K mg) : Ok P w K mg base 4 "_law_kin" 2 S__law_kin := by
  obtain ⟨fd, F⟩ := T.f__law_kin
  refine ok_of (N := N__law_kin) (ps := ["_law_root_here", "_law_other"]) F T.g__law_kin sc__law_kin rfl (fun _ _ _ _ _ _ us hl => match us, hl with | [_, _], _ => rfl) fun cdv A outer s H ds d E hr hl hS => ?_
  obtain ⟨p, q, rfl, hp, hq, sp, sq, rfl⟩ := hS
  have hu := hr.units
  have KK := KinOk.of hp hq sp sq
  by_cases h0 : p.r = 0 ∨ q.r = 0
  · have e : kinT p.r q.r = none := if_neg fun h => by
      obtain ⟨h1, h2, _⟩ := of_decide_eq_true h
      rcases h0 with z | z
      · exact h1 z
      · exact h2 z
    rw [e]
    refine ⟨_, db1 (dset (i := 2) (d := .non) sc__law_kin.nd rfl (de_if_t (DT.is (dw_val (dw_or (dt_cmp (ceqN hu) (dv 0 rfl) dint) fun _ => (dw_or1 (dt_cmp (ceqN hu) (dv 1 rfl) dint)))) ?_) dnon)) (dbR (dret (de_if_t (dt_cmp cisN (dv 2 rfl) dnon) dnon))), .inl rfl⟩
    rw [Bool.or_eq_true, decide_eq_true_iff, decide_eq_true_iff]; exact h0
  · have h1 : p.r ≠ 0 := fun z => h0 (.inl z)
    have h2 : q.r ≠ 0 := fun z => h0 (.inr z)
    refine ⟨_, db1 (dset (i := 2) (d := optD (rootQ (p.r * q.r))) sc__law_kin.nd rfl (de_if_f (DT.is (dw_val (dw_or (dt_cmp (ceqN hu) (dv 0 rfl) dint) fun _ => (dw_or1 (dt_cmp (ceqN hu) (dv 1 rfl) dint)))) ?_) (dcall (ok__law_root T) (hr.mono (by decide)) (dacons (dcall (ok__law_times T) (hr.mono (by decide)) (dacons (dv 0 rfl) (dacons (dv 1 rfl) danil)) ⟨_, _, rfl, KK.rs, rfl⟩) danil) ⟨_, rfl, KK.pos, KK.n, KK.d, rfl⟩))) ?_, .inl rfl⟩
    · rw [Bool.or_eq_false_iff, decide_eq_false_iff_not, decide_eq_false_iff_not]; exact ⟨h1, h2⟩
    cases hk : rootQ (p.r * q.r) with
    | none =>
      have e : kinT p.r q.r = none := if_neg fun h => by
        obtain ⟨_, _, h3⟩ := of_decide_eq_true h
        rw [hk] at h3; cases h3
      rw [e]
      exact dbR (dret (de_if_t (dt_cmp cisN (dv 2 rfl) dnon) dnon))
    | some k =>
      have e : kinT p.r q.r = some (k / p.r) := by
        have hkb : kinB p.r q.r = true := decide_eq_true ⟨h1, h2, by rw [hk]; rfl⟩
        unfold kinT
        rw [if_pos hkb]
        unfold borQ
        rw [Rat.mul_comm, hk]
      rw [e]
      obtain ⟨k0, ek⟩ := rootQ_some KK.pos hk
      have bk : Bd 1760 1760 k := Bd.root (q := p.r * q.r) (by rw [ek]; exact sp.r.mul sq.r) ek.symm
      have hn : p.r.num ≠ 0 := fun z => h1 (Rat.num_eq_zero.mp z)
      have bi : Bd 1760 1760 (Rat.divInt p.r.den p.r.num) := .divInt hn (by rw [Int.natAbs_natCast]; exact sp.r.d) sp.r.n
      refine dbR (dret (de_if_f (DT.is (dt_cmp cisN (dv 2 rfl) dnon) (by rw [optD_isNon]; rfl)) (dcall (ok__law_times T) (hr.mono (by decide)) (dacons (dv 2 rfl) (dacons (dcall (ok__law_lowest T) (hr.mono (by decide)) (dacons (dixL (dcall (ok__law_halves T) (hr.mono (by decide)) (dacons (dv 0 rfl) danil) ⟨_, rfl, rfl⟩) dint rfl) (dacons (dixL (dcall (ok__law_halves T) (hr.mono (by decide)) (dacons (dv 0 rfl) danil) ⟨_, rfl, rfl⟩) dint rfl) danil)) ⟨_, _, rfl, hn, sp.r.n.up (by decide), rfl⟩) danil)) ⟨k, _, rfl, bk.pr bi, ?_⟩)))
      show numD (k / p.r) = _
      congr 1
      rw [Rat.div_def]
      congr 1
      have := divInt_div' (p := 1) (q := p.r)
      rw [show (1 : Rat).num = 1 from rfl, show (1 : Rat).den = 1 from rfl] at this
      simpa [Rat.div_def] using this.symm
def S__law_square (ds : List D) (d : D) : Prop := ∃ (x y : Rat) (p : Pl), ds = [plD (ptPl x y), plD p] ∧ Bd 600 600 x ∧ Bd 600 600 y ∧ PlOk p ∧ PlSz p ∧ d = optD (sqQ x y p)
theorem PlOk.pt (x y : Rat) : PlOk (ptPl x y) := .inl ⟨rfl, rfl, rfl⟩
theorem PlSz.pt {x y : Rat} (hx : Bd 600 600 x) (hy : Bd 600 600 y) : PlSz (ptPl x y) := ⟨hx, hy, (Lt2.zero : Lt2 0 900), (Lt2.zero : Lt2 0 900), Bd.zero.up (by decide) (by decide)⟩
abbrev N__law_square : List Str := ["_law_one", "_law_other", "_law_way_here", "_law_times_here", "_law_turn", "_law_each"]
theorem sc__law_square : FnScope N__law_square ["_law_one", "_law_other"] (defScope s__law_square) := ⟨rfl, rfl, rfl, by decide +kernel, rfl, by decide +kernel, by decide +kernel⟩
theorem ok__law_square (T : TB K mg) : Ok P w K mg base 5 "_law_square" 2 S__law_square := by
  obtain ⟨fd, F⟩ := T.f__law_square
  refine ok_of (N := N__law_square) (ps := ["_law_one", "_law_other"]) F T.g__law_square sc__law_square rfl (fun _ _ _ _ _ _ us hl => match us, hl with | [_, _], _ => rfl) fun cdv A outer s H ds d E hr hl hS => ?_
  obtain ⟨x, y, p, rfl, hx, hy, hp, sp, rfl⟩ := hS
  have hu := hr.units
  have wx : Bd 1201 1200 (x - p.x) := hx.sub sp.x (m := 1200) (by decide) (by decide)
  have wy : Bd 1201 1200 (y - p.y) := hy.sub sp.y (m := 1200) (by decide) (by decide)
  have ba : Bd 900 1 (p.a : Rat) := .int sp.a
  have bb : Bd 900 1 (p.b : Rat) := .int sp.b
  have z0 : Bd 1 1 ((0 : Int) : Rat) := (Bd.int (a := 1) (lt2l 1 (by decide) (by decide)))
  have ek : kinT (ptPl x y).r p.r = none := if_neg fun h => (of_decide_eq_true h).1 rfl
  have i0 : (ptD ((0 : Int) : Rat) ((0 : Int) : Rat)).items = some [numD ((0 : Int) : Rat), numD ((0 : Int) : Rat)] := rfl
  have s1 : Ps (x - p.x) (y - p.y) ((0 : Int) : Rat) ((0 : Int) : Rat) := ⟨wx.pr z0, wy.pr z0, (wx.mul z0).pr (wy.mul z0)⟩
  have s2 : Ps (x - p.x) (y - p.y) (p.a : Rat) (p.b : Rat) := ⟨wx.pr ba, wy.pr bb, (wx.mul ba).pr (wy.mul bb)⟩
  have s3 : Ps ((0 : Int) : Rat) ((0 : Int) : Rat) (p.a : Rat) (p.b : Rat) := ⟨z0.pr ba, z0.pr bb, (z0.mul ba).pr (z0.mul bb)⟩
  have s4 : Ps (x - p.x) (y - p.y) (x - p.x) (y - p.y) := ⟨wx.pr wx, wy.pr wy, (wx.mul wx).pr (wy.mul wy)⟩
  have s5 : Ps (p.a : Rat) (p.b : Rat) (p.a : Rat) (p.b : Rat) := ⟨ba.pr ba, bb.pr bb, (ba.mul ba).pr (bb.mul bb)⟩
  have s6 : Ps ((0 : Int) : Rat) ((0 : Int) : Rat) ((0 : Int) : Rat) ((0 : Int) : Rat) := ⟨z0.pr z0, z0.pr z0, (z0.mul z0).pr (z0.mul z0)⟩
  have b5 : Bd 1803 4 ((p.a : Rat) * p.a + p.b * p.b) := ((ba.mul ba).add (bb.mul bb) (m := 1802) (by decide) (by decide)).up (by decide) (by decide)
  have b6 : Bd 8 4 (((0 : Int) : Rat) * ((0 : Int) : Rat) + ((0 : Int) : Rat) * ((0 : Int) : Rat)) := ((z0.mul z0).add (z0.mul z0) (m := 7) (by decide) (by decide)).up (by decide) (by decide)
  have b4 : Bd 4803 4800 ((x - p.x) * (x - p.x) + (y - p.y) * (y - p.y)) := ((wx.mul wx).add (wy.mul wy) (m := 4802) (by decide) (by decide)).up (by decide) (by decide)
  have b7 : Bd 8 5 ((ptPl x y).r * (((0 : Int) : Rat) * ((0 : Int) : Rat) + ((0 : Int) : Rat) * ((0 : Int) : Rat))) := (Bd.zero.mul b6).up (by decide) (by decide)
  have b8 : Bd 3563 1764 (p.r * ((p.a : Rat) * p.a + p.b * p.b)) := (sp.r.mul b5).up (by decide) (by decide)
  have b9 := b7.add b8 (m := 3600) (by decide) (by decide)
  refine ⟨_, ?_, .inl rfl⟩
  refine db1 (dasg (dtup (dacons (dcall (ok__law_way T) (hr.mono (by decide)) (dacons (dixT (dv 0 rfl) dint rfl) (dacons (dixT (dv 1 rfl) dint rfl) danil)) ⟨x, y, p.x, p.y, rfl, hx.pr sp.x, hy.pr sp.y, rfl⟩) (dacons (dcall (ok__law_kin T) (hr.mono (by decide)) (dacons (dixT (dv 0 rfl) dint rfl) (dacons (dixT (dv 1 rfl) dint rfl) danil)) ⟨ptPl x y, p, rfl, PlOk.pt x y, hp, PlSz.pt hx hy, sp, rfl⟩) danil))) (dgT rfl (dgs1 (dgN (i := 2) sc__law_square.nd rfl) (dgs1 (dgN (i := 3) sc__law_square.nd rfl) dgs0)))) ?_
  refine db1 (dif_f (DT.is (dt_cmp cnotN (dv 3 rfl) dnon) (by rw [ek]; rfl)) db0) ?_
  have hz : decide (((x - p.x) * ((0 : Int) : Rat) + (y - p.y) * ((0 : Int) : Rat)) = ((0 : Int) : Rat)) = true := decide_eq_true (by rw [Rat.intCast_zero]; grind)
  have hz2 : decide ((((0 : Int) : Rat) * p.a + ((0 : Int) : Rat) * p.b) = ((0 : Int) : Rat)) = true := decide_eq_true (by rw [Rat.intCast_zero]; grind)
  by_cases hc : (x - p.x) * p.a + (y - p.y) * p.b = 0
  · have e : sqQ x y p = some (((x - p.x) * (x - p.x) + (y - p.y) * (y - p.y)) + ((p.a : Rat) * p.a + p.b * p.b) * p.r) := if_pos hc
    rw [e]
    have hc2 : decide ((x - p.x) * p.a + (y - p.y) * p.b = ((0 : Int) : Rat)) = true := decide_eq_true (by rw [Rat.intCast_zero]; exact hc)
    refine db1 (dif_f (dw_val (dw_or_f (DT.is (dt_cmp (cneN hu) (dcall (ok__law_dot T) (hr.mono (by decide)) (dacons (dv 2 rfl) (dacons (dixT (dv 0 rfl) dint rfl) danil)) ⟨_, _, _, _, _, _, rfl, rfl, i0, s1, rfl⟩) dint) (by rw [hz]; rfl)) (dw_or_f (DT.is (dt_cmp (cneN hu) (dcall (ok__law_dot T) (hr.mono (by decide)) (dacons (dv 2 rfl) (dacons (dixT (dv 1 rfl) dint rfl) danil)) ⟨_, _, _, _, _, _, rfl, rfl, rfl, s2, rfl⟩) dint) (by rw [hc2]; rfl)) (dw_or1 (DT.is (dt_cmp (cneN hu) (dcall (ok__law_dot T) (hr.mono (by decide)) (dacons (dixT (dv 0 rfl) dint rfl) (dacons (dixT (dv 1 rfl) dint rfl) danil)) ⟨_, _, _, _, _, _, rfl, i0, rfl, s3, rfl⟩) dint) (by rw [hz2]; rfl)))))) db0) ?_
    refine dbR (dret (DE.is (dcall (ok__law_plus T) (hr.mono (by decide)) (dacons (dcall (ok__law_dot T) (hr.mono (by decide)) (dacons (dv 2 rfl) (dacons (dv 2 rfl) danil)) ⟨_, _, _, _, _, _, rfl, rfl, rfl, s4, rfl⟩) (dacons (dcall (ok__law_plus T) (hr.mono (by decide)) (dacons (dcall (ok__law_times T) (hr.mono (by decide)) (dacons (dixT (dv 0 rfl) dint rfl) (dacons (dcall (ok__law_dot T) (hr.mono (by decide)) (dacons (dixT (dv 0 rfl) dint rfl) (dacons (dixT (dv 0 rfl) dint rfl) danil)) ⟨_, _, _, _, _, _, rfl, i0, i0, s6, rfl⟩) danil)) ⟨_, _, rfl, Bd.zero.pr b6, rfl⟩) (dacons (dcall (ok__law_times T) (hr.mono (by decide)) (dacons (dixT (dv 1 rfl) dint rfl) (dacons (dcall (ok__law_dot T) (hr.mono (by decide)) (dacons (dixT (dv 1 rfl) dint rfl) (dacons (dixT (dv 1 rfl) dint rfl) danil)) ⟨_, _, _, _, _, _, rfl, rfl, rfl, s5, rfl⟩) danil)) ⟨_, _, rfl, sp.r.pr b5, rfl⟩) danil)) ⟨_, _, rfl, b7.pr b8, rfl⟩) danil)) ⟨_, _, rfl, b4.pr b9, rfl⟩) ?_))
    show numD _ = numD _
    congr 1
    show _ + ((0 : Rat) * _ + _) = _
    rw [Rat.intCast_zero]
    grind
  · have e : sqQ x y p = none := if_neg hc
    rw [e]
    have hc2 : decide ((x - p.x) * p.a + (y - p.y) * p.b = ((0 : Int) : Rat)) = false := decide_eq_false (by rw [Rat.intCast_zero]; exact hc)
    exact dbR (dif_t (dw_val (dw_or_f (DT.is (dt_cmp (cneN hu) (dcall (ok__law_dot T) (hr.mono (by decide)) (dacons (dv 2 rfl) (dacons (dixT (dv 0 rfl) dint rfl) danil)) ⟨_, _, _, _, _, _, rfl, rfl, i0, s1, rfl⟩) dint) (by rw [hz]; rfl)) (dw_or_t (DT.is (dt_cmp (cneN hu) (dcall (ok__law_dot T) (hr.mono (by decide)) (dacons (dv 2 rfl) (dacons (dixT (dv 1 rfl) dint rfl) danil)) ⟨_, _, _, _, _, _, rfl, rfl, rfl, s2, rfl⟩) dint) (by rw [hc2]; rfl))))) (dbR (dret dnon)))
/-! ### beads -/
def beadQ (p q : Pl) (s : Rat) : Option Pl :=
  let sx := (1 - s) * p.x + s * q.x
  let sy := (1 - s) * p.y + s * q.y
  let m1 := (1 - s) * (p.a : Rat)
  let m2 := (1 - s) * (p.b : Rat)
  let n1 := s * (q.a : Rat)
  let n2 := s * (q.b : Rat)
  match kinT p.r q.r with
  | some t => some (formQ sx sy (m1 + t * n1) (m2 + t * n2) p.r)
  | none => if (m1 = 0 ∧ m2 = 0) ∨ (n1 = 0 ∧ n2 = 0) then (if m1 = 0 ∧ m2 = 0 then some (formQ sx sy n1 n2 q.r) else some (formQ sx sy m1 m2 p.r)) else none
def S__law_bead (ds : List D) (d : D) : Prop := ∃ (p q : Pl) (s : Rat), ds = [plD p, plD q, numD s] ∧ PlOk p ∧ PlOk q ∧ PlSz p ∧ PlSz q ∧ Bd 3 3 s ∧ Bd 3 3 (1 - s) ∧ d = optPl (beadQ p q s)
theorem ceqL {X : Cx} (hu : X.A.units + 64 < cLine) {x y : Rat} : CmpD X .Eq (ltD x y) (.lst [.int 0, .int 0]) (decide (x = 0 ∧ y = 0)) := ceq hu (ltD_good9 x y) ⟨trivial, trivial, trivial⟩ (decide_eq_true_iff.trans ⟨fun h => by rw [h.1, h.2, ltD_zero], fun h => ltD_inj (h.trans ltD_zero.symm)⟩)
abbrev N__law_bead : List Str := ["_law_one", "_law_other", "_law_share", "_law_rest", "_law_times_here", "_law_point", "_law_mine", "_law_its", "_law_more", "_law_each"]
theorem sc__law_bead : FnScope N__law_bead ["_law_one", "_law_other", "_law_share"] (defScope s__law_bead) := ⟨rfl, rfl, rfl, by decide +kernel, rfl, by decide +kernel, by decide +kernel⟩
theorem ok__law_bead (T : TB K mg) : Ok P w K mg base 6 "_law_bead" 3 S__law_bead := by
  obtain ⟨fd, F⟩ := T.f__law_bead
  refine ok_of (N := N__law_bead) (ps := ["_law_one", "_law_other", "_law_share"]) F T.g__law_bead sc__law_bead rfl (fun _ _ _ _ _ _ us hl => match us, hl with | [_, _, _], _ => rfl) fun cdv A outer s H ds d E hr hl hS => ?_
  obtain ⟨p, q, t, rfl, hp, hq, sp, sq, ht, ht1, rfl⟩ := hS
  have hu := hr.units
  have ax : Bd 603 603 ((1 - t) * p.x) := (ht1.mul sp.x).up (by decide) (by decide)
  have ay : Bd 603 603 ((1 - t) * p.y) := (ht1.mul sp.y).up (by decide) (by decide)
  have cx : Bd 603 603 (t * q.x) := (ht.mul sq.x).up (by decide) (by decide)
  have cy : Bd 603 603 (t * q.y) := (ht.mul sq.y).up (by decide) (by decide)
  have bsx : Bd 1810 1810 ((1 - t) * p.x + t * q.x) := (ax.add cx (m := 1206) (by decide) (by decide)).up (by decide) (by decide)
  have bsy : Bd 1810 1810 ((1 - t) * p.y + t * q.y) := (ay.add cy (m := 1206) (by decide) (by decide)).up (by decide) (by decide)
  have pa : Bd 900 1 (p.a : Rat) := .int sp.a
  have pb : Bd 900 1 (p.b : Rat) := .int sp.b
  have qa : Bd 900 1 (q.a : Rat) := .int sq.a
  have qb : Bd 900 1 (q.b : Rat) := .int sq.b
  have m1 : Bd 903 4 ((1 - t) * (p.a : Rat)) := ht1.mul pa
  have m2 : Bd 903 4 ((1 - t) * (p.b : Rat)) := ht1.mul pb
  have n1 : Bd 903 4 (t * (q.a : Rat)) := ht.mul qa
  have n2 : Bd 903 4 (t * (q.b : Rat)) := ht.mul qb
  have b1 : Bd 1 1 (1 : Rat) := ⟨by simp [Lt2], by simp [Lt2]⟩
  refine ⟨_, ?_, .inl rfl⟩
  refine db1 (dasg (d := .tup [numD (1 - t), optD (kinT p.r q.r)]) (dtup (dacons (dcall (ok__law_plus T) (hr.mono (by decide)) (dacons dint (dacons (dcall (ok__law_times T) (hr.mono (by decide)) (dacons (dneg dint) (dacons (dv 2 rfl) danil)) ⟨((-1 : Int) : Rat), t, by rw [numD_intCast], (b1.pr ht).lit (by decide), rfl⟩) danil)) ⟨1, -t, by rw [neg1_mul, numD_one], (b1.pr ht).neg, by rw [Rat.sub_eq_add_neg]⟩) (dacons (dcall (ok__law_kin T) (hr.mono (by decide)) (dacons (dixT (dv 0 rfl) dint rfl) (dacons (dixT (dv 1 rfl) dint rfl) danil)) ⟨p, q, rfl, hp, hq, sp, sq, rfl⟩) danil))) (dgT rfl (dgs1 (dgN (i := 3) sc__law_bead.nd rfl) (dgs1 (dgN (i := 4) sc__law_bead.nd rfl) dgs0)))) ?_
  refine db1 (dsetLc (i := 5) (own := [("_law_mine", 6), ("_law_its", 7)]) (q2 fun a b => (1 - t) * a + t * b) rfl sc__law_bead.nd rfl rfl (sw_true rfl rfl rfl (by decide +kernel)) (diZT (ds := [numD p.x, numD p.y]) (ds2 := [numD q.x, numD q.y]) T.b_zip (dixT (dv 0 rfl) dint rfl) (dixT (dv 1 rfl) dint rfl)) (blkOk_by (N := N__law_bead) (sc := defScope s__law_bead) (by decide +kernel)) (pgP (i := 6) (j := 7) rfl sc__law_bead.nd rfl rfl) (by simp [zipD]) (in2 ⟨_, bcP (by decide), fun _ _ _ _ _ => ?_⟩ ⟨_, bcP (by decide), fun _ _ _ _ _ => ?_⟩)) ?_
  · exact dcall (ok__law_plus T) (hr.mono (by decide)) (dacons (dcall (ok__law_times T) (hr.mono (by decide)) (dacons (dv 3 rfl) (dacons (dv 6 rfl) danil)) ⟨_, _, rfl, ht1.pr sp.x, rfl⟩) (dacons (dcall (ok__law_times T) (hr.mono (by decide)) (dacons (dv 2 rfl) (dacons (dv 7 rfl) danil)) ⟨_, _, rfl, ht.pr sq.x, rfl⟩) danil)) ⟨_, _, rfl, ax.pr cx, q2_num _ _ _⟩
  · exact dcall (ok__law_plus T) (hr.mono (by decide)) (dacons (dcall (ok__law_times T) (hr.mono (by decide)) (dacons (dv 3 rfl) (dacons (dv 6 rfl) danil)) ⟨_, _, rfl, ht1.pr sp.y, rfl⟩) (dacons (dcall (ok__law_times T) (hr.mono (by decide)) (dacons (dv 2 rfl) (dacons (dv 7 rfl) danil)) ⟨_, _, rfl, ht.pr sq.y, rfl⟩) danil)) ⟨_, _, rfl, ay.pr cy, q2_num _ _ _⟩
  have e5 : D.lst ((zipD [numD p.x, numD p.y] [numD q.x, numD q.y]).map (q2 fun a b => (1 - t) * a + t * b)) = ltD ((1 - t) * p.x + t * q.x) ((1 - t) * p.y + t * q.y) := by
    show D.lst [q2 _ _, q2 _ _] = _
    rw [q2_num, q2_num]; rfl
  rw [e5]
  refine db1 (dpar (i := 6) (j := 8) (d1 := ltD ((1 - t) * (p.a : Rat)) ((1 - t) * (p.b : Rat))) (d2 := ltD (t * (q.a : Rat)) (t * (q.b : Rat))) rfl sc__law_bead.nd rfl rfl (by decide) rfl rfl (dacons (DE.is (dlc (own := [("_law_each", 9)]) (q1 fun a => (1 - t) * a) rfl sc__law_bead.nd (diT (items := [numD (p.a : Rat), numD (p.b : Rat)]) (dixT (dv 0 rfl) dint rfl)) (blkOk_by (N := N__law_bead) (sc := defScope s__law_bead) (by decide +kernel)) (pgN (i := 9) sc__law_bead.nd rfl) (by simp) (in2 ⟨_, bcN, fun _ _ _ _ _ => ?_⟩ ⟨_, bcN, fun _ _ _ _ _ => ?_⟩)) ?_) (dacons (DE.is (dlc (own := [("_law_each", 9)]) (q1 fun a => t * a) rfl sc__law_bead.nd (diT (items := [numD (q.a : Rat), numD (q.b : Rat)]) (dixT (dv 1 rfl) dint rfl)) (blkOk_by (N := N__law_bead) (sc := defScope s__law_bead) (by decide +kernel)) (pgN (i := 9) sc__law_bead.nd rfl) (by simp) (in2 ⟨_, bcN, fun _ _ _ _ _ => ?_⟩ ⟨_, bcN, fun _ _ _ _ _ => ?_⟩)) ?_) danil))) ?_
  · exact dcall (ok__law_times T) (hr.mono (by decide)) (dacons (dv 3 rfl) (dacons (dv 9 rfl) danil)) ⟨_, _, rfl, ht1.pr pa, q1_num _ _⟩
  · exact dcall (ok__law_times T) (hr.mono (by decide)) (dacons (dv 3 rfl) (dacons (dv 9 rfl) danil)) ⟨_, _, rfl, ht1.pr pb, q1_num _ _⟩
  · show D.lst [q1 _ _, q1 _ _] = _
    rw [q1_num, q1_num]; rfl
  · exact dcall (ok__law_times T) (hr.mono (by decide)) (dacons (dv 2 rfl) (dacons (dv 9 rfl) danil)) ⟨_, _, rfl, ht.pr qa, q1_num _ _⟩
  · exact dcall (ok__law_times T) (hr.mono (by decide)) (dacons (dv 2 rfl) (dacons (dv 9 rfl) danil)) ⟨_, _, rfl, ht.pr qb, q1_num _ _⟩
  · show D.lst [q1 _ _, q1 _ _] = _
    rw [q1_num, q1_num]; rfl
  cases hk : kinT p.r q.r with
  | some c =>
    have e : beadQ p q t = some (formQ ((1 - t) * p.x + t * q.x) ((1 - t) * p.y + t * q.y) ((1 - t) * (p.a : Rat) + c * (t * (q.a : Rat))) ((1 - t) * (p.b : Rat) + c * (t * (q.b : Rat))) p.r) := by unfold beadQ; rw [hk]
    rw [e]
    have hkb : kinB p.r q.r = true := by
      unfold kinT at hk
      split at hk
      · rename_i h; exact h
      · cases hk
    have hc : c = borQ q.r p.r := by
      unfold kinT at hk
      rw [if_pos hkb] at hk
      cases hk; rfl
    obtain ⟨h1, h2, h3⟩ := of_decide_eq_true hkb
    obtain ⟨k, hk'⟩ := Option.isSome_iff_exists.mp h3
    have hk2 : rootQ (q.r * p.r) = some k := by rw [Rat.mul_comm]; exact hk'
    obtain ⟨bo, bb⟩ := BorOk.of (u := t * (q.a : Rat)) (v := t * (q.b : Rat)) hq hp sq sp n1 n2 hk2 h1
    rw [← hc] at bb
    have c1 : Bd 2664 1764 (c * (t * (q.a : Rat))) := (bb.mul n1).up (by decide) (by decide)
    have c2 : Bd 2664 1764 (c * (t * (q.b : Rat))) := (bb.mul n2).up (by decide) (by decide)
    have u1 := m1.add c1 (m := 2668) (by decide) (by decide)
    have u2 := m2.add c2 (m := 2668) (by decide) (by decide)
    refine dbR (dif_t (DT.is (dt_cmp cnotN (dv 4 rfl) dnon) (by rw [optD_isNon]; rfl)) (dbR (dret (dcall (ok__law_form T) (hr.mono (by decide)) (dacons (dv 5 rfl) (dacons (dlc (own := [("_law_each", 9), ("_law_its", 7)]) (q2 fun a b => a + c * b) rfl sc__law_bead.nd (diZL (ds := [numD ((1 - t) * (p.a : Rat)), numD ((1 - t) * (p.b : Rat))]) (ds2 := [numD (t * (q.a : Rat)), numD (t * (q.b : Rat))]) T.b_zip (dv 6 rfl) (dv 8 rfl)) (blkOk_by (N := N__law_bead) (sc := defScope s__law_bead) (by decide +kernel)) (pgP (i := 9) (j := 7) rfl sc__law_bead.nd rfl rfl) (by simp [zipD]) (in2 ⟨_, bcP (by decide), fun _ _ _ _ _ => ?_⟩ ⟨_, bcP (by decide), fun _ _ _ _ _ => ?_⟩)) (dacons (dixT (dv 0 rfl) dint rfl) danil))) ⟨_, _, _, _, _, _, rfl, .inl ?_, FormOk.of bsx bsy (u1.up (by decide) (by decide)) (u2.up (by decide) (by decide)) hp.nonneg sp.r, rfl⟩))))
    · exact dcall (ok__law_plus T) (hr.mono (by decide)) (dacons (dv 9 rfl) (dacons (dcall (ok__law_times T) (hr.mono (by decide)) (dacons (dv 4 rfl) (dacons (dv 7 rfl) danil)) ⟨c, _, rfl, bb.pr n1, rfl⟩) danil)) ⟨_, _, rfl, m1.pr c1, q2_num _ _ _⟩
    · exact dcall (ok__law_plus T) (hr.mono (by decide)) (dacons (dv 9 rfl) (dacons (dcall (ok__law_times T) (hr.mono (by decide)) (dacons (dv 4 rfl) (dacons (dv 7 rfl) danil)) ⟨c, _, rfl, bb.pr n2, rfl⟩) danil)) ⟨_, _, rfl, m2.pr c2, q2_num _ _ _⟩
    · show D.lst [q2 _ _, q2 _ _] = _
      rw [q2_num, q2_num]; rfl
  | none =>
    refine db1 (dif_f (DT.is (dt_cmp cnotN (dv 4 rfl) dnon) rfl) db0) ?_
    have e : beadQ p q t = if ((1 - t) * (p.a : Rat) = 0 ∧ (1 - t) * (p.b : Rat) = 0) ∨ (t * (q.a : Rat) = 0 ∧ t * (q.b : Rat) = 0) then (if (1 - t) * (p.a : Rat) = 0 ∧ (1 - t) * (p.b : Rat) = 0 then some (formQ ((1 - t) * p.x + t * q.x) ((1 - t) * p.y + t * q.y) (t * (q.a : Rat)) (t * (q.b : Rat)) q.r) else some (formQ ((1 - t) * p.x + t * q.x) ((1 - t) * p.y + t * q.y) ((1 - t) * (p.a : Rat)) ((1 - t) * (p.b : Rat)) p.r)) else none := by unfold beadQ; rw [hk]
    by_cases hm : (1 - t) * (p.a : Rat) = 0 ∧ (1 - t) * (p.b : Rat) = 0
    · rw [if_pos (.inl hm), if_pos hm] at e
      rw [e]
      exact dbR (dif_t (dw_val (dw_or_t (DT.is (dt_cmp (ceqL hu) (dv 6 rfl) (dlst (dacons dint (dacons dint danil)))) (decide_eq_true hm)))) (dbR (dret (de_if_t (DT.is (dt_cmp (ceqL hu) (dv 6 rfl) (dlst (dacons dint (dacons dint danil)))) (decide_eq_true hm)) (dcall (ok__law_form T) (hr.mono (by decide)) (dacons (dv 5 rfl) (dacons (dv 8 rfl) (dacons (dixT (dv 1 rfl) dint rfl) danil))) ⟨_, _, _, _, _, _, rfl, .inl rfl, FormOk.of bsx bsy (n1.up (by decide) (by decide)) (n2.up (by decide) (by decide)) hq.nonneg sq.r, rfl⟩)))))
    · by_cases hn : t * (q.a : Rat) = 0 ∧ t * (q.b : Rat) = 0
      · rw [if_pos (.inr hn), if_neg hm] at e
        rw [e]
        exact dbR (dif_t (dw_val (dw_or_f (DT.is (dt_cmp (ceqL hu) (dv 6 rfl) (dlst (dacons dint (dacons dint danil)))) (decide_eq_false hm)) (dw_or1 (DT.is (dt_cmp (ceqL hu) (dv 8 rfl) (dlst (dacons dint (dacons dint danil)))) (decide_eq_true hn))))) (dbR (dret (de_if_f (DT.is (dt_cmp (ceqL hu) (dv 6 rfl) (dlst (dacons dint (dacons dint danil)))) (decide_eq_false hm)) (dcall (ok__law_form T) (hr.mono (by decide)) (dacons (dv 5 rfl) (dacons (dv 6 rfl) (dacons (dixT (dv 0 rfl) dint rfl) danil))) ⟨_, _, _, _, _, _, rfl, .inl rfl, FormOk.of bsx bsy (m1.up (by decide) (by decide)) (m2.up (by decide) (by decide)) hp.nonneg sp.r, rfl⟩)))))
      · rw [if_neg (not_or.mpr ⟨hm, hn⟩)] at e
        rw [e]
        exact db1 (dif_f (dw_val (dw_or_f (DT.is (dt_cmp (ceqL hu) (dv 6 rfl) (dlst (dacons dint (dacons dint danil)))) (decide_eq_false hm)) (dw_or1 (DT.is (dt_cmp (ceqL hu) (dv 8 rfl) (dlst (dacons dint (dacons dint danil)))) (decide_eq_false hn))))) db0) (dbR (dret dnon))
end
end K31
end
section
set_option maxHeartbeats 1000000
set_option autoImplicit false
/-! Plain: the one form of a place. -/
namespace K31
open PySem PySem.Spec PyProof.Rows
theorem num_eq (q : Rat) : (q.num : Rat) = q * ((q.den : Int) : Rat) := by
  have h := Rat.num_divInt_den q
  rw [Rat.divInt_eq_div] at h
  have hd : ((q.den : Int) : Rat) ≠ 0 := by
    have := q.den_pos
    intro z
    have : (q.den : Int) = 0 := Rat.intCast_eq_zero_iff.mp z
    omega
  have h2 : (q.num : Rat) / ((q.den : Int) : Rat) = q := h
  rw [← h2] 
  rw [h2]
  grind
theorem den0 (q : Rat) : ((q.den : Int) : Rat) ≠ 0 := fun z => by
  have : (q.den : Int) = 0 := Rat.intCast_eq_zero_iff.mp z
  have := q.den_pos
  omega
theorem fL_eq (u v : Rat) : ((fL u v : Int) : Rat) = u * (((u.den : Int) * (v.den : Int) : Int) : Rat) := by
  unfold fL
  have := num_eq u
  push_cast at *
  grind
theorem fM_eq (u v : Rat) : ((fM u v : Int) : Rat) = v * (((u.den : Int) * (v.den : Int) : Int) : Rat) := by
  unfold fM
  have := num_eq v
  push_cast at *
  grind
theorem gcdI_dvd_left (a b : Int) : gcdI a b ∣ a := natCast_dvd' (Nat.gcd_dvd_left _ _)
theorem gcdI_dvd_right (a b : Int) : gcdI a b ∣ b := natCast_dvd' (Nat.gcd_dvd_right _ _)
theorem gcdI_nonneg (a b : Int) : 0 ≤ gcdI a b := by unfold gcdI; omega
theorem gcdI_pos {a b : Int} (h : ¬ (a = 0 ∧ b = 0)) : 0 < gcdI a b := by
  unfold gcdI
  have : 0 < a.natAbs.gcd b.natAbs := by
    rcases Nat.eq_zero_or_pos (a.natAbs.gcd b.natAbs) with z | z
    · obtain ⟨h1, h2⟩ := Nat.gcd_eq_zero_iff.mp z
      exact absurd ⟨Int.natAbs_eq_zero.mp h1, Int.natAbs_eq_zero.mp h2⟩ h
    · exact z
  omega
theorem gcdI_mul (a b c : Int) (hc : 0 ≤ c) : gcdI (a * c) (b * c) = gcdI a b * c := by
  unfold gcdI
  rw [Int.natAbs_mul, Int.natAbs_mul, Nat.gcd_mul_right, Int.natCast_mul]
  congr 1
  omega
theorem gcdI_neg (a b : Int) : gcdI (-a) (-b) = gcdI a b := by unfold gcdI; rw [Int.natAbs_neg, Int.natAbs_neg]
theorem fdiv_dvd {a g : Int} (hg : 0 < g) (h : g ∣ a) : a.fdiv g * g = a := by
  rw [Int.fdiv_eq_ediv_of_nonneg _ (by omega)]
  exact Int.ediv_mul_cancel h
theorem int_eq {a b : Int} (h : (a : Rat) = (b : Rat)) : a = b := Rat.intCast_inj.mp h
theorem mul_cancelI {a b c : Int} (hc : c ≠ 0) (h : a * c = b * c) : a = b := Int.eq_of_mul_eq_mul_right hc h
/-- numbers over one denominator: the form's parts -/
theorem form_int {u v : Rat} {x y D : Int} (hD : 0 < D) (hu : u * (D : Rat) = x) (hv : v * (D : Rat) = y) (h0 : ¬ (u = 0 ∧ v = 0)) :
    (fL u v).fdiv (fG u v) * gcdI x y = x ∧ (fM u v).fdiv (fG u v) * gcdI x y = y ∧ fF u v * (D : Rat) = (gcdI x y : Int) ∧ 0 < gcdI x y := by
  have hE : (0 : Int) < (u.den : Int) * (v.den : Int) := Int.mul_pos (by have := u.den_pos; omega) (by have := v.den_pos; omega)
  have eL : fL u v * D = x * ((u.den : Int) * (v.den : Int)) := int_eq (by
    have := fL_eq u v
    push_cast at *
    grind)
  have eM : fM u v * D = y * ((u.den : Int) * (v.den : Int)) := int_eq (by
    have := fM_eq u v
    push_cast at *
    grind)
  have eG : fG u v * D = gcdI x y * ((u.den : Int) * (v.den : Int)) := by
    have h1 := gcdI_mul (fL u v) (fM u v) D (by omega)
    have h2 := gcdI_mul x y ((u.den : Int) * (v.den : Int)) (by omega)
    rw [eL, eM] at h1
    unfold fG
    rw [← h1, h2]
  have hG : 0 < fG u v := by
    have h1 := fG_pos h0
    have h2 : 0 ≤ fG u v := gcdI_nonneg _ _
    omega
  have dL := fdiv_dvd hG (gcdI_dvd_left (fL u v) (fM u v))
  have dM := fdiv_dvd hG (gcdI_dvd_right (fL u v) (fM u v))
  have k1 : ∀ a b : Int, a * fG u v = b → ∀ z : Int, b * D = z * ((u.den : Int) * (v.den : Int)) → a * gcdI x y = z := fun a b h1 z h2 => by
    refine mul_cancelI (c := (u.den : Int) * (v.den : Int)) (by omega) ?_
    rw [← h2, ← h1, Int.mul_assoc, ← eG, Int.mul_assoc]
  refine ⟨k1 _ _ dL _ eL, k1 _ _ dM _ eM, ?_, ?_⟩
  · unfold fF
    rw [Rat.divInt_eq_div]
    have hE' : (((u.den : Int) * (v.den : Int) : Int) : Rat) ≠ 0 := fun z => by
      have := Rat.intCast_eq_zero_iff.mp z
      omega
    have eG' : (fG u v : Rat) * (D : Rat) = (gcdI x y : Rat) * (((u.den : Int) * (v.den : Int) : Int) : Rat) := by exact_mod_cast eG
    grind
  · refine gcdI_pos fun ⟨hx, hy⟩ => h0 ?_
    have hD' : (D : Rat) ≠ 0 := fun z => by
      have := Rat.intCast_eq_zero_iff.mp z
      omega
    subst hx hy
    push_cast at hu hv
    constructor <;> grind
theorem rootQ_nonneg {q k : Rat} (hq : 0 ≤ q) (h : rootQ q = some k) : 0 ≤ k := (rootQ_some hq h).1
theorem rat_mul_pos {a b : Rat} (ha : 0 < a) (hb : 0 < b) : 0 < a * b := Rat.mul_pos ha hb
/-- no root: none either times a square -/
theorem rootQ_scale {r c : Rat} (hr : 0 ≤ r) (hc : 0 < c) (h : rootQ r = none) : rootQ (r * (c * c)) = none := by
  cases hk : rootQ (r * (c * c)) with
  | none => rfl
  | some k =>
    have hcc : 0 ≤ c * c := Rat.mul_nonneg (Rat.le_of_lt hc) (Rat.le_of_lt hc)
    obtain ⟨h1, h2⟩ := rootQ_some (Rat.mul_nonneg hr hcc) hk
    have hc0 : c ≠ 0 := fun z => by rw [z] at hc; exact absurd hc (by decide)
    have h3 : (k / c) * (k / c) = r := by grind
    have h4 : 0 ≤ k / c := by
      rw [Rat.div_def]
      exact Rat.mul_nonneg h1 (Rat.le_of_lt (Rat.inv_pos.mpr hc))
    have := rootQ_sq h4
    rw [h3, h] at this
    cases this
theorem Fpos {u v : Rat} (h0 : ¬ (u = 0 ∧ v = 0)) : 0 < fF u v := by
  have hE : (0 : Int) < (u.den : Int) * (v.den : Int) := Int.mul_pos (by have := u.den_pos; omega) (by have := v.den_pos; omega)
  have hG : 0 < fG u v := by
    have h1 := fG_pos h0
    have h2 : 0 ≤ fG u v := gcdI_nonneg _ _
    omega
  unfold fF
  rw [Rat.divInt_eq_div, Rat.div_def]
  exact Rat.mul_pos (Rat.intCast_pos.mpr hG) (Rat.inv_pos.mpr (Rat.intCast_pos.mpr hE))
/-- the form, no root whole -/
theorem formQ_none {x y u v r : Rat} (h0 : ¬ (u = 0 ∧ v = 0)) (hr : r ≠ 0) (hk : rootQ r = none) : formQ x y u v r = ⟨x, y, (fL u v).fdiv (fG u v), (fM u v).fdiv (fG u v), r * (fF u v * fF u v)⟩ := by
  unfold formQ
  rw [if_neg (fun h => h.elim hr h0), hk]
theorem formQ_zero {x y r : Rat} : formQ x y 0 0 r = ⟨x, y, 0, 0, 0⟩ := by
  unfold formQ
  rw [if_pos (.inr ⟨rfl, rfl⟩)]
theorem formQ_r0 {x y u v : Rat} : formQ x y u v 0 = ⟨x, y, 0, 0, 0⟩ := by
  unfold formQ
  rw [if_pos (.inl rfl)]
theorem gcdI_form {a b : Int} (h : ¬ (a = 0 ∧ b = 0)) : gcdI (a.fdiv (gcdI a b)) (b.fdiv (gcdI a b)) = 1 := by
  have hG := gcdI_pos h
  have h1 := fdiv_dvd hG (gcdI_dvd_left a b)
  have h2 := fdiv_dvd hG (gcdI_dvd_right a b)
  have h3 := gcdI_mul (a.fdiv (gcdI a b)) (b.fdiv (gcdI a b)) (gcdI a b) (by omega)
  rw [h1, h2] at h3
  exact mul_cancelI (c := gcdI a b) (by omega) (by rw [← h3, Int.one_mul])
theorem formQ_ok {x y u v r : Rat} (hr : 0 ≤ r) : PlOk (formQ x y u v r) := by
  by_cases h : r = 0 ∨ (u = 0 ∧ v = 0)
  · unfold formQ
    rw [if_pos h]
    exact .inl ⟨rfl, rfl, rfl⟩
  · have hr0 : r ≠ 0 := fun z => h (.inl z)
    have h0 : ¬ (u = 0 ∧ v = 0) := fun z => h (.inr z)
    cases hk : rootQ r with
    | some k =>
      unfold formQ
      rw [if_neg h, hk]
      exact .inl ⟨rfl, rfl, rfl⟩
    | none =>
      rw [formQ_none h0 hr0 hk]
      have hF := Fpos h0
      have hp : 0 < r := by
        rcases Rat.le_iff_lt_or_eq.mp hr with z | z
        · exact z
        · exact absurd z.symm hr0
      have hLM : ¬ (fL u v = 0 ∧ fM u v = 0) := fun ⟨z1, z2⟩ => by
        have := fG_pos h0
        unfold fG at this
        rw [z1, z2] at this
        exact this (by decide)
      exact .inr ⟨gcdI_form hLM, Rat.mul_pos hp (Rat.mul_pos hF hF), rootQ_scale hr hF hk⟩
theorem fL_neg (u v : Rat) : fL (-u) (-v) = -fL u v := by unfold fL; simp [Int.neg_mul]
theorem fM_neg (u v : Rat) : fM (-u) (-v) = -fM u v := by unfold fM; simp [Int.neg_mul]
theorem fG_neg (u v : Rat) : fG (-u) (-v) = fG u v := by unfold fG; rw [fL_neg, fM_neg, gcdI_neg]
theorem fF_neg (u v : Rat) : fF (-u) (-v) = fF u v := by unfold fF; rw [fG_neg]; simp
theorem fdiv_neg_dvd {a g : Int} (hg : 0 < g) (h : g ∣ a) : (-a).fdiv g = -(a.fdiv g) := by
  have h1 := fdiv_dvd hg h
  have h2 := fdiv_dvd hg (Int.dvd_neg.mpr h)
  refine mul_cancelI (c := g) (by omega) ?_
  rw [h2, Int.neg_mul, h1]
def flip' (p : Pl) : Pl := ⟨p.x, p.y, -p.a, -p.b, p.r⟩
theorem formQ_neg {x y u v r : Rat} (hk : r = 0 ∨ rootQ r = none) : formQ x y (-u) (-v) r = flip' (formQ x y u v r) := by
  by_cases h : r = 0 ∨ (u = 0 ∧ v = 0)
  · have h' : r = 0 ∨ (-u = 0 ∧ -v = 0) := h.imp id fun ⟨a, b⟩ => by rw [a, b]; exact ⟨by simp, by simp⟩
    unfold formQ
    rw [if_pos h, if_pos h']
    rfl
  · have hr0 : r ≠ 0 := fun z => h (.inl z)
    have h0 : ¬ (u = 0 ∧ v = 0) := fun z => h (.inr z)
    have h0' : ¬ (-u = 0 ∧ -v = 0) := fun ⟨a, b⟩ => h0 (by constructor <;> grind)
    have hk' : rootQ r = none := hk.resolve_left hr0
    rw [formQ_none h0 hr0 hk', formQ_none h0' hr0 hk', fL_neg, fM_neg, fG_neg, fF_neg]
    have hG : 0 < fG u v := by
      have h1 := fG_pos h0
      have h2 : 0 ≤ fG u v := gcdI_nonneg _ _
      omega
    unfold flip'
    rw [fdiv_neg_dvd hG (gcdI_dvd_left _ _), fdiv_neg_dvd hG (gcdI_dvd_right _ _)]
/-- the form of a place's own aside, c times as long -/
theorem formQ_scale {x y r c : Rat} {a b : Int} (hg : gcdI a b = 1) (hc : 0 < c) (hr : r ≠ 0) (hk : rootQ r = none) : formQ x y (c * a) (c * b) r = ⟨x, y, a, b, r * (c * c)⟩ := by
  have hc0 : c ≠ 0 := fun z => by rw [z] at hc; exact absurd hc (by decide)
  have hab : ¬ (a = 0 ∧ b = 0) := fun ⟨z1, z2⟩ => by rw [z1, z2] at hg; exact absurd hg (by decide)
  have h0 : ¬ (c * (a : Rat) = 0 ∧ c * (b : Rat) = 0) := fun ⟨z1, z2⟩ => hab ⟨Rat.intCast_eq_zero_iff.mp (by grind), Rat.intCast_eq_zero_iff.mp (by grind)⟩
  have hn := num_eq c
  have hn0 : 0 < c.num := by
    have q1 := Rat.num_nonneg.mpr (Rat.le_of_lt hc)
    have q2 : c.num ≠ 0 := fun z => hc0 (Rat.num_eq_zero.mp z)
    omega
  obtain ⟨h1, h2, h3, h4⟩ := form_int (u := c * a) (v := c * b) (x := a * c.num) (y := b * c.num) (D := (c.den : Int)) (by have := c.den_pos; omega) (by push_cast; push_cast at hn; grind) (by push_cast; push_cast at hn; grind) h0
  rw [gcdI_mul a b c.num (by omega), hg, Int.one_mul] at h1 h2 h3
  rw [formQ_none h0 hr hk]
  have e1 := mul_cancelI (c := c.num) (by omega) h1
  have e2 := mul_cancelI (c := c.num) (by omega) h2
  have e3 : fF (c * a) (c * b) = c := by
    have := den0 c
    grind
  rw [e1, e2, e3]
end K31
end
section
set_option maxHeartbeats 4000000
set_option autoImplicit false
/-! The walk: places asked for, the other side. -/
namespace K31
open PySem PySem.Spec PyProof.Rows L2
/-- a place as a list -/
def plL (p : Pl) : D := .lst [ptD p.x p.y, ptD p.a p.b, numD p.r]
/-- what is a place, what is none -/
def IsPl (X : D) (b : Bool) : Prop := (b = true ∧ ∃ p : Pl, (X = plD p ∨ X = plL p) ∧ PlOk p ∧ PlSz p) ∨ (b = false ∧ (X = .non ∨ X = .tup [.tup [.int 0, .int 0], .tup [.int 0, .int 0]] ∨ ∃ p : Pl, X = plD p ∧ ¬ (p.a = 0 ∧ p.b = 0) ∧ gcdI p.a p.b ≠ 1))
theorem int_zero {i : Int} : ((i : Rat) = 0) ↔ i = 0 := by
  rw [show (0 : Rat) = ((0 : Int) : Rat) from Rat.intCast_zero.symm]
  exact Rat.intCast_inj
theorem ceqII {X : Cx} (hu : X.A.units + 64 < cLine) {a b : Int} : CmpD X .Eq (.tup [.int a, .int b]) (.tup [.int 0, .int 0]) (decide (a = 0 ∧ b = 0)) := ceq hu ⟨trivial, trivial, trivial⟩ ⟨trivial, trivial, trivial⟩ (decide_eq_true_iff.trans ⟨fun h => by rw [h.1, h.2], fun h => by
  injection h with h
  injection h with h1 h2
  injection h1 with h1
  injection h2 with h2 _
  injection h2 with h2
  exact ⟨h1, h2⟩⟩)
section
variable {P : Program} {w : World} {K : PySem.W.Frag} {mg : Str → Option Value} {base : Heap}
def S_is_place (ds : List D) (d : D) : Prop := ∃ (X : D) (b : Bool), ds = [X] ∧ IsPl X b ∧ d = .bl b
abbrev N_is_place : List Str := ["value", "point", "aside", "root", "each"]
theorem sc_is_place : FnScope N_is_place ["value"] (defScope s_is_place) := ⟨rfl, rfl, rfl, by decide +kernel, rfl, by decide +kernel, by decide +kernel⟩
theorem ok_is_place (T : TB K mg) : Ok P w K mg base 5 "is_place" 1 S_is_place := by
  obtain ⟨fd, F⟩ := T.f_is_place
  refine ok_of (N := N_is_place) (ps := ["value"]) F T.g_is_place sc_is_place rfl (fun _ _ _ _ _ _ us hl => match us, hl with | [_], _ => rfl) fun cdv A outer s H ds d E hr hl hS => ?_
  obtain ⟨X, b, rfl, hX, rfl⟩ := hS
  have hu := hr.units
  have full : ∀ p : Pl, (X = plD p ∨ X = plL p) → ∀ o, DB (cxOf CX0 P w K mg base N_is_place "is_place" (defScope s_is_place) (He.ga K "is_place") cdv A outer s H E).nox ((defBody s_is_place).drop 3) [some X, some (ptD p.x p.y), some (.tup [.int p.a, .int p.b]), some (numD p.r), none] o →
      DB (cxOf CX0 P w K mg base N_is_place "is_place" (defScope s_is_place) (He.ga K "is_place") cdv A outer s H E).nox (defBody s_is_place) [some X, none, none, none, none] o := by
    intro p hX o h
    have hI : X.items = some [ptD p.x p.y, .tup [.int p.a, .int p.b], numD p.r] := by
      rw [← ptD_int]
      rcases hX with rfl | rfl <;> rfl
    have hL : X.len = some 3 := by rcases hX with rfl | rfl <;> rfl
    obtain ⟨t, hT⟩ : ∃ t, X.ty = some t := by rcases hX with rfl | rfl <;> exact ⟨_, rfl⟩
    have hs : isSeq X = true := by rcases hX with rfl | rfl <;> rfl
    refine db1 (dif_f (dw_val (dw_or_f (DT.is (dt_not (dt_val (dcall (ok_is_list T) (hr.mono (by decide)) (dacons (dv 0 rfl) danil) ⟨_, _, rfl, hT, rfl⟩))) (by rw [hs]; rfl)) (dw_or_f (dt_cmp cneI (dlen T.b_len (dv 0 rfl) hL) dint) (dw_or_f (dt_not (z := true) (dt_val (dcall (ok_is_point T) (hr.mono (by decide)) (dacons (dixS (dv 0 rfl) hI dint rfl) danil) ⟨p.x, p.y, rfl, rfl⟩))) (dw_or1 (dt_not (z := true) (dt_val (dcall (ok_is_number T) (hr.mono (by decide)) (dacons (dixS (dv 0 rfl) hI dint rfl) danil) ⟨p.r, rfl, rfl⟩)))))))) db0) ?_
    refine db1 (dasg (dv 0 rfl) (dgS rfl hI (dgs1 (dgN (i := 1) sc_is_place.nd rfl) (dgs1 (dgN (i := 2) sc_is_place.nd rfl) (dgs1 (dgN (i := 3) sc_is_place.nd rfl) dgs0))))) ?_
    refine db1 (dif_f (dw_val (dw_or_f (dt_not (z := true) (dt_val (dcall (ok_is_list T) (hr.mono (by decide)) (dacons (dv 2 rfl) danil) ⟨_, _, rfl, rfl, rfl⟩))) (dw_or_f (dt_cmp cneI (dlen T.b_len (dv 2 rfl) rfl) dint) (dw_or1 (dt_not (z := true) (dt_val (dall (bs := [true, true]) rfl T.b_all (DE.is (dlc (own := [("each", 4)]) (fun d => .bl true) rfl sc_is_place.nd (diT (dv 2 rfl)) (blkOk_by (N := N_is_place) (sc := defScope s_is_place) (by decide +kernel)) (pgN (i := 4) sc_is_place.nd rfl) (by simp) (in2 ⟨_, bcN, fun _ _ _ _ _ => (dcall (ok_is_integer T) (hr.mono (by decide)) (dacons (dv 4 rfl) danil) ⟨_, _, rfl, rfl, rfl⟩)⟩ ⟨_, bcN, fun _ _ _ _ _ => (dcall (ok_is_integer T) (hr.mono (by decide)) (dacons (dv 4 rfl) danil) ⟨_, _, rfl, rfl, rfl⟩)⟩)) rfl)))))))) db0) ?_
    exact h
  rcases hX with ⟨rfl, p, hX, hp, sp⟩ | ⟨rfl, hX⟩
  · refine ⟨_, full p hX _ ?_, .inl rfl⟩
    rcases hp with ⟨ha, hb, hr0⟩ | ⟨hg, hpos, hk⟩
    · rw [ha, hb, hr0, numD_zero]
      refine dbR (dif_t (DT.is (dt_cmp (ceqII hu) (dtupleOf T.b_tuple (dv 2 rfl) rfl) (dNONE T)) rfl) (dbR (dret (DE.is (de_and (dcall (ok_is_integer T) (hr.mono (by decide)) (dacons (dv 3 rfl) danil) ⟨_, _, rfl, rfl, rfl⟩) fun _ => (de_one (de_cmp ceqI (dv 3 rfl) dint))) rfl))))
    · have hne : ¬ (p.a = 0 ∧ p.b = 0) := fun h => by
        rw [h.1, h.2] at hg
        exact absurd hg (by decide)
      refine db1 (dif_f (DT.is (dt_cmp (ceqII hu) (dtupleOf T.b_tuple (dv 2 rfl) rfl) (dNONE T)) (decide_eq_false hne)) db0) ?_
      refine dbR (dret (DE.is (de_and (de_cmp ceqI (dcall (ok_common T) (hr.mono (by decide)) (dacons (dixT (dv 2 rfl) dint rfl) (dacons (dixT (dv 2 rfl) dint rfl) danil)) ⟨_, _, rfl, rfl⟩) dint) fun _ => (de_and (de_cmp cgt (dcall (ok_sign_in T) (hr.mono (by decide)) (dacons (dcall (ok_kept T) (hr.mono (by decide)) (dacons (dv 3 rfl) danil) ⟨p.r, rfl, rfl⟩) danil) ⟨p.r, rfl, rfl⟩) dint) fun _ => (de_one (de_cmp cisN (dcall (ok_root_in T) (hr.mono (by decide)) (dacons (dcall (ok_kept T) (hr.mono (by decide)) (dacons (dv 3 rfl) danil) ⟨p.r, rfl, rfl⟩) danil) ⟨p.r, rfl, Rat.le_of_lt hpos, sp.r.n.up (by decide), sp.r.d.up (by decide), rfl⟩) dnon)))) ?_))
      have h1 : 0 < p.r.num := by
        have q1 := Rat.num_nonneg.mpr (Rat.le_of_lt hpos)
        have q2 : p.r.num ≠ 0 := fun z => by
          rw [Rat.num_eq_zero.mp z] at hpos
          exact absurd hpos (by decide)
        omega
      rw [hg, hk, Int.sign_eq_one_of_pos h1]
      rfl
  · rcases hX with rfl | rfl | ⟨p, rfl, h0, hg⟩
    · exact ⟨_, dbR (dif_t (dw_val (dw_or_t (DT.is (dt_not (dt_val (dcall (ok_is_list T) (hr.mono (by decide)) (dacons (dv 0 rfl) danil) ⟨_, _, rfl, rfl, rfl⟩))) rfl))) (dbR (dret dbl))), .inl rfl⟩
    · exact ⟨_, dbR (dif_t (dw_val (dw_or_f (DT.is (dt_not (dt_val (dcall (ok_is_list T) (hr.mono (by decide)) (dacons (dv 0 rfl) danil) ⟨_, _, rfl, rfl, rfl⟩))) rfl) (dw_or_t (DT.is (dt_cmp cneI (dlen T.b_len (dv 0 rfl) rfl) dint) rfl)))) (dbR (dret dbl))), .inl rfl⟩
    · refine ⟨_, full p (.inl rfl) _ ?_, .inl rfl⟩
      have hne := h0
      refine db1 (dif_f (DT.is (dt_cmp (ceqII hu) (dtupleOf T.b_tuple (dv 2 rfl) rfl) (dNONE T)) (decide_eq_false hne)) db0) ?_
      exact dbR (dret (de_and_f (DE.is (de_cmp ceqI (dcall (ok_common T) (hr.mono (by decide)) (dacons (dixT (dv 2 rfl) dint rfl) (dacons (dixT (dv 2 rfl) dint rfl) danil)) ⟨_, _, rfl, rfl⟩) dint) (congrArg D.bl (decide_eq_false hg)))))
def S_kept_place (ds : List D) (d : D) : Prop := ∃ (X : D) (p : Pl), ds = [X] ∧ (X = plD p ∨ X = plL p) ∧ d = plD p
abbrev N_kept_place : List Str := ["place"]
theorem sc_kept_place : FnScope N_kept_place ["place"] (defScope s_kept_place) := ⟨rfl, rfl, rfl, by decide +kernel, rfl, by decide +kernel, by decide +kernel⟩
theorem ok_kept_place (T : TB K mg) : Ok P w K mg base 3 "kept_place" 1 S_kept_place := by
  obtain ⟨fd, F⟩ := T.f_kept_place
  refine ok_of (N := N_kept_place) (ps := ["place"]) F T.g_kept_place sc_kept_place rfl (fun _ _ _ _ _ _ us hl => match us, hl with | [_], _ => rfl) fun cdv A outer s H ds d E hr hl hS => ?_
  obtain ⟨X, p, rfl, hX, rfl⟩ := hS
  have hI : X.items = some [ptD p.x p.y, ptD p.a p.b, numD p.r] := by rcases hX with rfl | rfl <;> rfl
  exact ⟨_, dbR (dret (dtup (dacons (dcall (ok_kept_row T) (hr.mono (by decide)) (dacons (dixS (dv 0 rfl) hI dint rfl) danil) ⟨p.x, p.y, rfl, rfl⟩) (dacons (dtupleOf T.b_tuple (dixS (dv 0 rfl) hI dint rfl) rfl) (dacons (dcall (ok_kept T) (hr.mono (by decide)) (dacons (dixS (dv 0 rfl) hI dint rfl) danil) ⟨p.r, rfl, rfl⟩) danil))))), .inl rfl⟩
/-- the other side of a place -/
def flip (p : Pl) : Pl := ⟨p.x, p.y, -p.a, -p.b, p.r⟩
theorem flip_D (p : Pl) : plD (flip p) = .tup [ptD p.x p.y, .tup [.int (-p.a), .int (-p.b)], numD p.r] := by
  unfold plD flip
  rw [ptD_int]
def S_other_side (ds : List D) (d : D) : Prop := ∃ p : Pl, ds = [plD p] ∧ d = plD (flip p)
abbrev N_other_side : List Str := ["place", "point", "aside", "root"]
theorem sc_other_side : FnScope N_other_side ["place"] (defScope s_other_side) := ⟨rfl, rfl, rfl, by decide +kernel, rfl, by decide +kernel, by decide +kernel⟩
theorem ok_other_side (T : TB K mg) : Ok P w K mg base 1 "other_side" 1 S_other_side := by
  obtain ⟨fd, F⟩ := T.f_other_side
  refine ok_of (N := N_other_side) (ps := ["place"]) F T.g_other_side sc_other_side rfl (fun _ _ _ _ _ _ us hl => match us, hl with | [_], _ => rfl) fun cdv A outer s H ds d E hr hl hS => ?_
  obtain ⟨p, rfl, rfl⟩ := hS
  have e : plD p = .tup [ptD p.x p.y, .tup [.int p.a, .int p.b], numD p.r] := by unfold plD; rw [ptD_int]
  rw [flip_D, e]
  refine ⟨_, db1 (dasg (dv 0 rfl) (dgT rfl (dgs1 (dgN (i := 1) sc_other_side.nd rfl) (dgs1 (dgN (i := 2) sc_other_side.nd rfl) (dgs1 (dgN (i := 3) sc_other_side.nd rfl) dgs0))))) ?_, .inl rfl⟩
  exact dbR (dret (dtup (dacons (dv 1 rfl) (dacons (dtup (dacons (dneg (dixT (dv 2 rfl) dint rfl)) (dacons (dneg (dixT (dv 2 rfl) dint rfl)) danil))) (dacons (dv 3 rfl) danil)))))
def S__law_other_side (ds : List D) (d : D) : Prop := ∃ p : Pl, ds = [plD p] ∧ d = plD (flip p)
abbrev N__law_other_side : List Str := ["_law_place"]
theorem sc__law_other_side : FnScope N__law_other_side ["_law_place"] (defScope s__law_other_side) := ⟨rfl, rfl, rfl, by decide +kernel, rfl, by decide +kernel, by decide +kernel⟩
theorem ok__law_other_side (T : TB K mg) : Ok P w K mg base 1 "_law_other_side" 1 S__law_other_side := by
  obtain ⟨fd, F⟩ := T.f__law_other_side
  refine ok_of (N := N__law_other_side) (ps := ["_law_place"]) F T.g__law_other_side sc__law_other_side rfl (fun _ _ _ _ _ _ us hl => match us, hl with | [_], _ => rfl) fun cdv A outer s H ds d E hr hl hS => ?_
  obtain ⟨p, rfl, rfl⟩ := hS
  have e : plD p = .tup [ptD p.x p.y, .tup [.int p.a, .int p.b], numD p.r] := by unfold plD; rw [ptD_int]
  rw [flip_D, e]
  exact ⟨_, dbR (dret (dtup (dacons (dixT (dv 0 rfl) dint rfl) (dacons (dtup (dacons (dneg (dixT (dixT (dv 0 rfl) dint rfl) dint rfl)) (dacons (dneg (dixT (dixT (dv 0 rfl) dint rfl) dint rfl)) danil))) (dacons (dixT (dv 0 rfl) dint rfl) danil))))), .inl rfl⟩
/-- what are places, what are none -/
def ArePl (X : D) (b : Bool) : Prop := (isSeq X = false ∧ b = false ∧ ∃ t, X.ty = some t) ∨ ∃ (es : List D) (f : D → Bool), X.items = some es ∧ es.length ≤ 1000 ∧ (∀ e ∈ es, IsPl e (f e)) ∧ b = (es.map f).all id
def S_are_places (ds : List D) (d : D) : Prop := ∃ (X : D) (b : Bool), ds = [X] ∧ ArePl X b ∧ d = .bl b
abbrev N_are_places : List Str := ["value", "each"]
theorem sc_are_places : FnScope N_are_places ["value"] (defScope s_are_places) := ⟨rfl, rfl, rfl, by decide +kernel, rfl, by decide +kernel, by decide +kernel⟩
theorem ok_are_places (T : TB K mg) : Ok P w K mg base 6 "are_places" 1 S_are_places := by
  obtain ⟨fd, F⟩ := T.f_are_places
  refine ok_of (N := N_are_places) (ps := ["value"]) F T.g_are_places sc_are_places rfl (fun _ _ _ _ _ _ us hl => match us, hl with | [_], _ => rfl) fun cdv A outer s H ds d E hr hl hS => ?_
  obtain ⟨X, b, rfl, hX, rfl⟩ := hS
  rcases hX with ⟨hs, rfl, t, ht⟩ | ⟨es, f, hI, hl, hf, rfl⟩
  · exact ⟨_, dbR (dret (de_and_f (DE.is (dcall (ok_is_list T) (hr.mono (by decide)) (dacons (dv 0 rfl) danil) ⟨_, _, rfl, ht, rfl⟩) (by rw [hs])))), .inl rfl⟩
  · obtain ⟨t, hT⟩ : ∃ t, X.ty = some t := by cases X <;> cases hI <;> exact ⟨_, rfl⟩
    have hs : isSeq X = true := by cases X <;> cases hI <;> rfl
    exact ⟨_, dbR (dret (de_and_t (DE.is (dcall (ok_is_list T) (hr.mono (by decide)) (dacons (dv 0 rfl) danil) ⟨_, _, rfl, hT, rfl⟩) (by rw [hs])) (de_one (dall rfl T.b_all (DE.is (dlc (own := [("each", 1)]) (fun d => .bl (f d)) rfl sc_are_places.nd (diS (dv 0 rfl) hI) (blkOk_by (N := N_are_places) (sc := defScope s_are_places) (by decide +kernel)) (pgN (i := 1) sc_are_places.nd rfl) hl (fun d hd => ⟨_, bcN, fun _ _ _ _ _ => (dcall (ok_is_place T) (hr.mono (by decide)) (dacons (dv 1 rfl) danil) ⟨_, _, rfl, hf d hd, rfl⟩)⟩)) (by rw [List.map_map]; rfl)))))), .inl rfl⟩
/-- places given in one of the ways -/
structure Pls (X : D) (ps : List Pl) : Prop where
  as : X = .tup (ps.map plD) ∨ X = .lst (ps.map plD) ∨ X = .lst (ps.map plL)
  ok : ∀ p ∈ ps, PlOk p ∧ PlSz p
  ne : ps ≠ []
  len : ps.length ≤ 100
theorem Pls.items {X : D} {ps : List Pl} (h : Pls X ps) : ∃ es, X.items = some es ∧ es.length = ps.length ∧ ∀ (i : Nat) (e : D), es[i]? = some e → ∃ p, ps[i]? = some p ∧ (e = plD p ∨ e = plL p) := by
  have key : ∀ (g : Pl → D) (hg : ∀ p, g p = plD p ∨ g p = plL p) (i : Nat) (e : D), (ps.map g)[i]? = some e → ∃ p, ps[i]? = some p ∧ (e = plD p ∨ e = plL p) := fun g hg i e he => by
    rw [List.getElem?_map] at he
    cases hp : ps[i]? with
    | none => rw [hp] at he; cases he
    | some p =>
      rw [hp] at he
      cases he
      exact ⟨p, rfl, hg p⟩
  rcases h.as with rfl | rfl | rfl
  · exact ⟨_, rfl, by simp, key plD fun p => .inl rfl⟩
  · exact ⟨_, rfl, by simp, key plD fun p => .inl rfl⟩
  · exact ⟨_, rfl, by simp, key plL fun p => .inr rfl⟩
theorem Pls.are {X : D} {ps : List Pl} (h : Pls X ps) : ArePl X true := by
  obtain ⟨es, h1, h2, h3⟩ := h.items
  refine .inr ⟨es, fun _ => true, h1, by have := h.len; omega, fun e he => ?_, by simp⟩
  obtain ⟨i, hi⟩ := List.mem_iff_getElem?.mp he
  obtain ⟨p, hp, hf⟩ := h3 i e hi
  obtain ⟨o1, o2⟩ := h.ok p (List.mem_of_getElem? hp)
  exact .inl ⟨rfl, p, hf, o1, o2⟩
theorem Pls.len' {X : D} {ps : List Pl} (h : Pls X ps) : X.len = some ps.length := by rcases h.as with rfl | rfl | rfl <;> simp [D.len]
/-- what a place, given in one of the ways, is kept as -/
def keepD : D → D
  | .lst ds => .tup ds
  | d => d
theorem keepD_pl {e : D} {p : Pl} (h : e = plD p ∨ e = plL p) : keepD e = plD p := by rcases h with rfl | rfl <;> rfl
theorem Pls.kept {X : D} {ps : List Pl} (h : Pls X ps) {es : List D} (he : X.items = some es) : es.map keepD = ps.map plD := by
  rcases h.as with rfl | rfl | rfl <;> cases he <;> rw [List.map_map] <;> rfl
def S_need_integer (ds : List D) (d : D) : Prop := ∃ (i lo hi : Int) (part : Str), ds = [.int i, .str part, .int lo, .int hi] ∧ lo ≤ i ∧ i ≤ hi ∧ d = .non
abbrev N_need_integer : List Str := ["value", "part", "least", "most"]
theorem sc_need_integer : FnScope N_need_integer ["value", "part", "least", "most"] (defScope s_need_integer) := ⟨rfl, rfl, rfl, by decide +kernel, rfl, by decide +kernel, by decide +kernel⟩
theorem ok_need_integer (T : TB K mg) : Ok P w K mg base 3 "need_integer" 4 S_need_integer := by
  obtain ⟨fd, F⟩ := T.f_need_integer
  refine ok_of (N := N_need_integer) (ps := ["value", "part", "least", "most"]) F T.g_need_integer sc_need_integer rfl (fun _ _ _ _ _ _ us hl => match us, hl with | [_, _, _, _], _ => rfl) fun cdv A outer s H ds d E hr hl hS => ?_
  obtain ⟨i, lo, hi, part, rfl, h1, h2, rfl⟩ := hS
  refine ⟨_, db1 (dif_f (DT.is (dt_not (dt_val (dcall (ok_is_within T) (hr.mono (by decide)) (dacons (dv 0 rfl) (dacons (dv 2 rfl) (dacons (dv 3 rfl) danil))) ⟨_, _, _, _, rfl, rfl, trivial, trivial, rfl⟩))) ?_) db0) db0, .inr ⟨rfl, _, rfl⟩⟩
  show (!(decide (lo ≤ i) && decide (i ≤ hi))) = false
  rw [decide_eq_true h1, decide_eq_true h2]; rfl
def S_need_joint (ds : List D) (d : D) : Prop := ∃ (X : D) (ps : List Pl) (j : Nat), ds = [X, .int j] ∧ Pls X ps ∧ j < ps.length ∧ d = .tup (ps.map plD)
abbrev N_need_joint : List Str := ["value", "joint", "place"]
theorem sc_need_joint : FnScope N_need_joint ["value", "joint"] (defScope s_need_joint) := ⟨rfl, rfl, rfl, by decide +kernel, rfl, by decide +kernel, by decide +kernel⟩
theorem ok_need_joint (T : TB K mg) : Ok P w K mg base 7 "need_joint" 2 S_need_joint := by
  obtain ⟨fd, F⟩ := T.f_need_joint
  refine ok_of (N := N_need_joint) (ps := ["value", "joint"]) F T.g_need_joint sc_need_joint rfl (fun _ _ _ _ _ _ us hl => match us, hl with | [_, _], _ => rfl) fun cdv A outer s H ds d E hr hl hS => ?_
  obtain ⟨X, ps, j, rfl, hX, hj, rfl⟩ := hS
  obtain ⟨es, hI, hl, hi⟩ := hX.items
  refine ⟨_, ?_, .inl rfl⟩
  refine db1 (dif_f (dw_val (dw_or_f (DT.is (dt_not (dt_val (dcall (ok_are_places T) (hr.mono (by decide)) (dacons (dv 0 rfl) danil) ⟨_, _, rfl, hX.are, rfl⟩))) rfl) (dw_or1 (DT.is (dt_cmp ceqI (dlen T.b_len (dv 0 rfl) hX.len') dint) ?_)))) db0) ?_
  · exact decide_eq_false (by omega)
  refine db1 (dexpr (dcall (ok_need_integer T) (hr.mono (by decide)) (dacons (dv 1 rfl) (dacons dstr (dacons dint (dacons (dsub (dlen T.b_len (dv 0 rfl) hX.len') dint) danil)))) ⟨_, _, _, _, rfl, by omega, by omega, rfl⟩)) ?_
  refine dbR (dret (dtupleOf T.b_tuple (dlc (own := [("place", 2)]) keepD rfl sc_need_joint.nd (diS (dv 0 rfl) hI) (blkOk_by (N := N_need_joint) (sc := defScope s_need_joint) (by decide +kernel)) (pgN (i := 2) sc_need_joint.nd rfl) (by have := hX.len; omega) (fun d hd => ?_)) (by show some _ = some _; rw [hX.kept hI])))
  obtain ⟨i, hd'⟩ := List.mem_iff_getElem?.mp hd
  obtain ⟨p, hp, hf⟩ := hi i d hd'
  exact ⟨_, bcN, fun _ _ _ _ _ => (dcall (ok_kept_place T) (hr.mono (by decide)) (dacons (dv 2 rfl) danil) ⟨_, p, rfl, hf, keepD_pl hf⟩)⟩
def plOf : D → Pl
  | .tup [.tup [x, y], .tup [a, b], r] => ⟨qOf x, qOf y, (qOf a).num, (qOf b).num, qOf r⟩
  | _ => ⟨0, 0, 0, 0, 0⟩
theorem plOf_plD (p : Pl) : plOf (plD p) = p := by
  show Pl.mk (qOf (numD p.x)) (qOf (numD p.y)) (qOf (numD (p.a : Rat))).num (qOf (numD (p.b : Rat))).num (qOf (numD p.r)) = p
  rw [qOf_numD, qOf_numD, qOf_numD, qOf_numD, qOf_numD]
  simp
theorem filterMap_congr' {α β : Type} {f g : α → Option β} : ∀ {l : List α}, (∀ a ∈ l, f a = g a) → l.filterMap f = l.filterMap g
  | [], _ => rfl
  | a :: l, h => by
    rw [List.filterMap_cons, List.filterMap_cons, h a (List.mem_cons_self ..), filterMap_congr' fun b hb => h b (List.mem_cons_of_mem _ hb)]
theorem plD_inj {p q : Pl} (h : plD p = plD q) : p = q := by rw [← plOf_plD p, h, plOf_plD]
theorem atI_nat {α : Type} {xs : List α} {j : Nat} {d : α} (h : xs[j]? = some d) : atI xs (j : Int) = some d := by
  have hj : j < xs.length := (List.getElem?_eq_some_iff.mp h).1
  unfold atI ixN
  rw [if_pos (by omega), if_pos (by omega)]
  simpa using h
theorem enumD_get {ds : List D} {i : Nat} {e : D} (h : (enumD ds)[i]? = some e) : ∃ d, ds[i]? = some d ∧ e = .tup [.int i, d] := by
  have hi : i < ds.length := by
    have := (List.getElem?_eq_some_iff.mp h).1
    rw [enumD_length] at this; exact this
  have hd : ds[i]? = some ds[i] := List.getElem?_eq_getElem hi
  have h2 := zipD_get (ds := (List.range ds.length).map fun (i : Nat) => D.int (i : Int)) (i := i) (d1 := .int (i : Int)) (by rw [List.getElem?_map, List.getElem?_range hi]; rfl) hd
  have h3 : (enumD ds)[i]? = some (.tup [.int i, ds[i]]) := h2
  rw [h3] at h
  cases h
  exact ⟨_, hd, rfl⟩
theorem enumD_eq (ds : List D) : enumD ds = (List.range ds.length).map fun (i : Nat) => .tup [.int i, ds.getD i .non] := by
  refine List.ext_getElem? fun i => ?_
  by_cases hi : i < ds.length
  · have hd : ds[i]? = some ds[i] := List.getElem?_eq_getElem hi
    have h2 := zipD_get (ds := (List.range ds.length).map fun (i : Nat) => D.int (i : Int)) (i := i) (d1 := .int (i : Int)) (by rw [List.getElem?_map, List.getElem?_range hi]; rfl) hd
    have h3 : (enumD ds)[i]? = some (.tup [.int i, ds[i]]) := h2
    rw [h3, List.getElem?_map, List.getElem?_range hi]
    show _ = some (D.tup [.int (i : Int), ds.getD i .non])
    rw [List.getD_eq_getElem?_getD, hd]; rfl
  · rw [List.getElem?_eq_none (by rw [enumD_length]; omega), List.getElem?_eq_none (by simp; omega)]
/-- which places have roots kin of r -/
def kinD (r : Rat) (ps : List Pl) : List D := (List.range ps.length).filterMap fun i => match ps[i]? with
  | some p => if kinB r p.r = true then some (.int (i : Int)) else none
  | none => none
def kinF (r : Rat) : D → Option D
  | .tup [i, e] => if kinB r (plOf e).r = true then some i else none
  | _ => none
theorem kinD_eq (r : Rat) (ps : List Pl) : (enumD (ps.map plD)).filterMap (kinF r) = kinD r ps := by
  rw [enumD_eq, List.filterMap_map, List.length_map]
  unfold kinD
  refine filterMap_congr' fun i hi => ?_
  have hi' : i < ps.length := List.mem_range.mp hi
  have hp : ps[i]? = some ps[i] := List.getElem?_eq_getElem hi'
  rw [hp]
  show kinF r (.tup [.int (i : Int), (ps.map plD).getD i .non]) = _
  rw [List.getD_eq_getElem?_getD, List.getElem?_map, hp]
  show (if kinB r (plOf (plD ps[i])).r = true then some (D.int (i : Int)) else none) = _
  rw [plOf_plD]
def turnOver (r : Rat) (ps : List Pl) : List Pl := ps.map fun p => if kinB r p.r = true then flip p else p
def mirrorAt (j : Nat) (ps : List Pl) : List Pl := ps.mapIdx fun i p => if i = j then flip p else p
def mirF (j : Nat) : D → D
  | .tup [.int i, e] => plD (if i = (j : Int) then flip (plOf e) else plOf e)
  | d => d
theorem mir_eq (j : Nat) (ps : List Pl) : (enumD (ps.map plD)).map (mirF j) = (mirrorAt j ps).map plD := by
  refine List.ext_getElem? fun i => ?_
  unfold mirrorAt
  rw [enumD_eq, List.map_map, List.getElem?_map, List.length_map, List.getElem?_map, List.getElem?_mapIdx]
  by_cases hi : i < ps.length
  · have hp : ps[i]? = some ps[i] := List.getElem?_eq_getElem hi
    rw [List.getElem?_range hi, hp]
    show some (mirF j (.tup [.int (i : Int), (ps.map plD).getD i .non])) = _
    rw [List.getD_eq_getElem?_getD, List.getElem?_map, hp]
    show some (plD (if (i : Int) = (j : Int) then flip (plOf (plD ps[i])) else plOf (plD ps[i]))) = some (plD (if i = j then flip ps[i] else ps[i]))
    rw [plOf_plD]
    by_cases h : i = j
    · rw [if_pos h, if_pos (by omega)]
    · rw [if_neg h, if_neg (by omega)]
  · rw [List.getElem?_eq_none (by simp; omega), List.getElem?_eq_none (by omega)]; rfl
def S_kin_of (ds : List D) (d : D) : Prop := ∃ (X : D) (ps : List Pl) (j : Nat) (p : Pl), ds = [X, .int j] ∧ Pls X ps ∧ ps[j]? = some p ∧ d = .tup (kinD p.r ps)
abbrev N_kin_of : List Str := ["places", "joint", "pose", "root", "at", "place"]
theorem sc_kin_of : FnScope N_kin_of ["places", "joint"] (defScope s_kin_of) := ⟨rfl, rfl, rfl, by decide +kernel, rfl, by decide +kernel, by decide +kernel⟩
theorem ok_kin_of (T : TB K mg) : Ok P w K mg base 8 "kin_of" 2 S_kin_of := by
  obtain ⟨fd, F⟩ := T.f_kin_of
  refine ok_of (N := N_kin_of) (ps := ["places", "joint"]) F T.g_kin_of sc_kin_of rfl (fun _ _ _ _ _ _ us hl => match us, hl with | [_, _], _ => rfl) fun cdv A outer s H ds d E hr hl hS => ?_
  obtain ⟨X, ps, j, p, rfl, hX, hp, rfl⟩ := hS
  have hj : j < ps.length := (List.getElem?_eq_some_iff.mp hp).1
  have hl := hX.len
  refine ⟨_, ?_, .inl rfl⟩
  refine db1 (dset (i := 2) sc_kin_of.nd rfl (dcall (ok_need_joint T) (hr.mono (by decide)) (dacons (dv 0 rfl) (dacons (dv 1 rfl) danil)) ⟨X, ps, j, rfl, hX, hj, rfl⟩)) ?_
  refine db1 (dset (i := 3) (d := numD p.r) sc_kin_of.nd rfl (dixT (ds := [ptD p.x p.y, ptD p.a p.b, numD p.r]) (dixT (d := plD p) (dv 2 rfl) (dv 1 rfl) (atI_nat (by rw [List.getElem?_map, hp]; rfl))) dint rfl)) ?_
  refine dbR (dret (dtupleOf T.b_tuple (dlcIf (own := [("at", 4), ("place", 5)]) (kinF p.r) rfl sc_kin_of.nd (diET T.b_enumerate (dv 2 rfl)) (blkOk_by (N := N_kin_of) (sc := defScope s_kin_of) (by decide +kernel)) (pgP (i := 4) (j := 5) rfl sc_kin_of.nd rfl rfl) (by rw [enumD_length, List.length_map]; omega) (fun d hd => ?_)) (by show some _ = some _; rw [kinD_eq])))
  obtain ⟨i, hi⟩ := List.mem_iff_getElem?.mp hd
  obtain ⟨e, he, rfl⟩ := enumD_get hi
  rw [List.getElem?_map] at he
  cases hq : ps[i]? with
  | none => rw [hq] at he; cases he
  | some q =>
    rw [hq] at he
    cases he
    obtain ⟨o1, s1⟩ := hX.ok p (List.mem_of_getElem? hp)
    obtain ⟨o2, s2⟩ := hX.ok q (List.mem_of_getElem? hq)
    have ef : kinF p.r (.tup [.int (i : Int), plD q]) = if kinB p.r q.r = true then some (.int (i : Int)) else none := by
      show (if kinB p.r (plOf (plD q)).r = true then some (D.int (i : Int)) else none) = _
      rw [plOf_plD]
    refine ⟨_, kinB p.r q.r, bcP (by decide), fun _ _ _ _ _ => (dt_val (dcall (ok_are_kin_roots T) (hr.mono (by decide)) (dacons (dv 3 rfl) (dacons (dixT (ds := [ptD q.x q.y, ptD q.a q.b, numD q.r]) (dv 5 rfl) dint rfl) danil)) ⟨p.r, q.r, rfl, KinOk.of o1 o2 s1 s2, rfl⟩)), fun h => ?_, fun h => ⟨.int i, ?_, fun _ _ _ _ _ => (dv 4 rfl)⟩⟩
    · show kinF p.r (.tup [.int (i : Int), plD q]) = none
      rw [ef, h]; rfl
    · show kinF p.r (.tup [.int (i : Int), plD q]) = some (.int i)
      rw [ef, if_pos h]
def S_mirrored_aside (ds : List D) (d : D) : Prop := ∃ (X : D) (ps : List Pl) (j : Nat), ds = [X, .int j] ∧ Pls X ps ∧ j < ps.length ∧ d = .tup ((mirrorAt j ps).map plD)
abbrev N_mirrored_aside : List Str := ["places", "joint", "pose", "at", "place"]
theorem sc_mirrored_aside : FnScope N_mirrored_aside ["places", "joint"] (defScope s_mirrored_aside) := ⟨rfl, rfl, rfl, by decide +kernel, rfl, by decide +kernel, by decide +kernel⟩
theorem ok_mirrored_aside (T : TB K mg) : Ok P w K mg base 8 "mirrored_aside" 2 S_mirrored_aside := by
  obtain ⟨fd, F⟩ := T.f_mirrored_aside
  refine ok_of (N := N_mirrored_aside) (ps := ["places", "joint"]) F T.g_mirrored_aside sc_mirrored_aside rfl (fun _ _ _ _ _ _ us hl => match us, hl with | [_, _], _ => rfl) fun cdv A outer s H ds d E hr hl hS => ?_
  obtain ⟨X, ps, j, rfl, hX, hj, rfl⟩ := hS
  have hl := hX.len
  refine ⟨_, ?_, .inl rfl⟩
  refine db1 (dset (i := 2) sc_mirrored_aside.nd rfl (dcall (ok_need_joint T) (hr.mono (by decide)) (dacons (dv 0 rfl) (dacons (dv 1 rfl) danil)) ⟨X, ps, j, rfl, hX, hj, rfl⟩)) ?_
  refine dbR (dret (dtupleOf T.b_tuple (dlc (own := [("at", 3), ("place", 4)]) (mirF j) rfl sc_mirrored_aside.nd (diET T.b_enumerate (dv 2 rfl)) (blkOk_by (N := N_mirrored_aside) (sc := defScope s_mirrored_aside) (by decide +kernel)) (pgP (i := 3) (j := 4) rfl sc_mirrored_aside.nd rfl rfl) (by rw [enumD_length, List.length_map]; omega) (fun d hd => ?_)) (by show some _ = some _; rw [mir_eq])))
  obtain ⟨i, hi⟩ := List.mem_iff_getElem?.mp hd
  obtain ⟨e, he, rfl⟩ := enumD_get hi
  rw [List.getElem?_map] at he
  cases hq : ps[i]? with
  | none => rw [hq] at he; cases he
  | some q =>
    rw [hq] at he
    cases he
    have ef : mirF j (.tup [.int (i : Int), plD q]) = plD (if (i : Int) = (j : Int) then flip q else q) := by
      show plD (if (i : Int) = (j : Int) then flip (plOf (plD q)) else plOf (plD q)) = _
      rw [plOf_plD]
    refine ⟨_, bcP (by decide), fun _ _ _ _ _ => (de_if (dt_cmp ceqI (dv 3 rfl) (dv 1 rfl)) (fun h => ?_) (fun h => ?_))⟩
    · exact dcall (ok_other_side T) (hr.mono (by decide)) (dacons (dv 4 rfl) danil) ⟨q, rfl, by
        show mirF j (.tup [.int (i : Int), plD q]) = _
        rw [ef, if_pos (of_decide_eq_true h)]⟩
    · exact DE.is (dv 4 rfl) (by
        show plD q = mirF j (.tup [.int (i : Int), plD q])
        rw [ef, if_neg (of_decide_eq_false h)])
def turnF (r : Rat) (d : D) : D := plD (if kinB r (plOf d).r = true then flip (plOf d) else plOf d)
theorem turn_eq (r : Rat) (ps : List Pl) : (ps.map plD).map (turnF r) = (turnOver r ps).map plD := by
  unfold turnOver
  rw [List.map_map, List.map_map]
  refine List.map_congr_left fun p _ => ?_
  show turnF r (plD p) = _
  unfold turnF
  rw [plOf_plD]; rfl
def S_turned_over (ds : List D) (d : D) : Prop := ∃ (X : D) (ps : List Pl) (j : Nat) (p : Pl), ds = [X, .int j] ∧ Pls X ps ∧ ps[j]? = some p ∧ d = .tup ((turnOver p.r ps).map plD)
abbrev N_turned_over : List Str := ["places", "joint", "pose", "root", "place"]
theorem sc_turned_over : FnScope N_turned_over ["places", "joint"] (defScope s_turned_over) := ⟨rfl, rfl, rfl, by decide +kernel, rfl, by decide +kernel, by decide +kernel⟩
theorem ok_turned_over (T : TB K mg) : Ok P w K mg base 8 "turned_over" 2 S_turned_over := by
  obtain ⟨fd, F⟩ := T.f_turned_over
  refine ok_of (N := N_turned_over) (ps := ["places", "joint"]) F T.g_turned_over sc_turned_over rfl (fun _ _ _ _ _ _ us hl => match us, hl with | [_, _], _ => rfl) fun cdv A outer s H ds d E hr hl hS => ?_
  obtain ⟨X, ps, j, p, rfl, hX, hp, rfl⟩ := hS
  have hj : j < ps.length := (List.getElem?_eq_some_iff.mp hp).1
  have hl := hX.len
  refine ⟨_, ?_, .inl rfl⟩
  refine db1 (dset (i := 2) sc_turned_over.nd rfl (dcall (ok_need_joint T) (hr.mono (by decide)) (dacons (dv 0 rfl) (dacons (dv 1 rfl) danil)) ⟨X, ps, j, rfl, hX, hj, rfl⟩)) ?_
  refine db1 (dset (i := 3) (d := numD p.r) sc_turned_over.nd rfl (dixT (ds := [ptD p.x p.y, ptD p.a p.b, numD p.r]) (dixT (d := plD p) (dv 2 rfl) (dv 1 rfl) (atI_nat (by rw [List.getElem?_map, hp]; rfl))) dint rfl)) ?_
  refine dbR (dret (dtupleOf T.b_tuple (dlc (own := [("place", 4)]) (turnF p.r) rfl sc_turned_over.nd (diT (dv 2 rfl)) (blkOk_by (N := N_turned_over) (sc := defScope s_turned_over) (by decide +kernel)) (pgN (i := 4) sc_turned_over.nd rfl) (by rw [List.length_map]; omega) (fun d hd => ?_)) (by show some _ = some _; rw [turn_eq])))
  obtain ⟨q, hq, rfl⟩ := List.mem_map.mp hd
  obtain ⟨o1, s1⟩ := hX.ok p (List.mem_of_getElem? hp)
  obtain ⟨o2, s2⟩ := hX.ok q hq
  have ef : turnF p.r (plD q) = plD (if kinB p.r q.r = true then flip q else q) := by
    unfold turnF
    rw [plOf_plD]
  refine ⟨_, bcN, fun _ _ _ _ _ => (de_if (dt_val (dcall (ok_are_kin_roots T) (hr.mono (by decide)) (dacons (dv 3 rfl) (dacons (dixT (ds := [ptD q.x q.y, ptD q.a q.b, numD q.r]) (dv 4 rfl) dint rfl) danil)) ⟨p.r, q.r, rfl, KinOk.of o1 o2 s1 s2, rfl⟩)) (fun h => ?_) (fun h => ?_))⟩
  · exact dcall (ok_other_side T) (hr.mono (by decide)) (dacons (dv 4 rfl) danil) ⟨q, rfl, by rw [ef, if_pos h]⟩
  · exact DE.is (dv 4 rfl) (by rw [ef, h]; rfl)
end
end K31
end
section
set_option maxHeartbeats 1000000
set_option autoImplicit false
/-! Plain: kin roots, beads, the other side. -/
namespace K31
open PySem PySem.Spec PyProof.Rows
/-- roots from 0 on that are kin -/
theorem kinB_iff {r s : Rat} (hr : 0 ≤ r) (hs : 0 ≤ s) : kinB r s = true ↔ r ≠ 0 ∧ s ≠ 0 ∧ ∃ k : Rat, 0 ≤ k ∧ k * k = r * s := by
  unfold kinB
  rw [decide_eq_true_iff]
  have hrs := Rat.mul_nonneg hr hs
  constructor
  · rintro ⟨h1, h2, h3⟩
    obtain ⟨k, hk⟩ := Option.isSome_iff_exists.mp h3
    obtain ⟨a, b⟩ := rootQ_some hrs hk
    exact ⟨h1, h2, k, a, b⟩
  · rintro ⟨h1, h2, k, a, b⟩
    refine ⟨h1, h2, ?_⟩
    rw [← b, rootQ_sq a]; rfl
theorem kinB_symm {r s : Rat} : kinB r s = kinB s r := by
  unfold kinB
  refine decide_eq_decide.mpr ?_
  rw [Rat.mul_comm r s]
  exact ⟨fun ⟨a, b, c⟩ => ⟨b, a, c⟩, fun ⟨a, b, c⟩ => ⟨b, a, c⟩⟩
theorem kinB_trans {r s t : Rat} (hr : 0 ≤ r) (hs : 0 ≤ s) (ht : 0 ≤ t) (h1 : kinB r s = true) (h2 : kinB s t = true) : kinB r t = true := by
  obtain ⟨a1, a2, k, hk, ek⟩ := (kinB_iff hr hs).mp h1
  obtain ⟨b1, b2, l, hl, el⟩ := (kinB_iff hs ht).mp h2
  refine (kinB_iff hr ht).mpr ⟨a1, b2, k * l / s, ?_, by grind⟩
  have hs' : 0 < s := Rat.lt_of_le_of_ne hs (fun z => a2 z.symm)
  rw [Rat.div_def]
  exact Rat.mul_nonneg (Rat.mul_nonneg hk hl) (Rat.le_of_lt (Rat.inv_pos.mpr hs'))
theorem kinB_same {r s t : Rat} (hr : 0 ≤ r) (hs : 0 ≤ s) (ht : 0 ≤ t) (h : kinB s t = true) : kinB r s = kinB r t := by
  cases h1 : kinB r s with
  | true => exact (kinB_trans hr hs ht h1 h).symm
  | false =>
    cases h2 : kinB r t with
    | false => rfl
    | true =>
      rw [kinB_symm] at h
      rw [kinB_trans hr ht hs h2 h] at h1
      cases h1
/-- a square of a number other than 0 -/
theorem kinB_sq {r c : Rat} (hr : 0 < r) (hc : 0 < c) : kinB r (r * (c * c)) = true := by
  have hcc := Rat.mul_pos hc hc
  have h0 : r ≠ 0 := fun z => by rw [z] at hr; exact absurd hr (by decide)
  have hc0 : c ≠ 0 := fun z => by rw [z] at hc; exact absurd hc (by decide)
  exact (kinB_iff (Rat.le_of_lt hr) (Rat.le_of_lt (Rat.mul_pos hr hcc))).mpr ⟨h0, fun z => by
    have := Rat.mul_pos hr hcc
    rw [z] at this
    exact absurd this (by decide), r * c, Rat.le_of_lt (Rat.mul_pos hr hc), by grind⟩
theorem kinB_zero (r : Rat) : kinB r 0 = false := by
  unfold kinB
  exact decide_eq_false fun h => h.2.1 rfl
/-- a form's root is the root's kin, or 0 with nothing aside -/
theorem formQ_kin {x y u v r r0 : Rat} (h0 : 0 ≤ r0) (hr : 0 ≤ r) (hk : r = 0 ∨ rootQ r = none) : ((formQ x y u v r).r = 0 ∧ (formQ x y u v r).a = 0 ∧ (formQ x y u v r).b = 0) ∨ kinB r0 (formQ x y u v r).r = kinB r0 r := by
  by_cases h : r = 0 ∨ (u = 0 ∧ v = 0)
  · left
    unfold formQ
    rw [if_pos h]
    exact ⟨rfl, rfl, rfl⟩
  · right
    have hr0 : r ≠ 0 := fun z => h (.inl z)
    have huv : ¬ (u = 0 ∧ v = 0) := fun z => h (.inr z)
    have hp : 0 < r := Rat.lt_of_le_of_ne hr (fun z => hr0 z.symm)
    rw [formQ_none huv hr0 (hk.resolve_left hr0)]
    have hF := Fpos huv
    exact (kinB_same h0 hr (Rat.le_of_lt (Rat.mul_pos hp (Rat.mul_pos hF hF))) (kinB_sq hp hF)).symm
theorem flip_zero {p : Pl} (h : p.a = 0 ∧ p.b = 0) : flip p = p := by
  obtain ⟨x, y, a, b, r⟩ := p
  obtain ⟨rfl, rfl⟩ := h
  rfl
theorem flip_flip (p : Pl) : flip (flip p) = p := by
  obtain ⟨x, y, a, b, r⟩ := p
  unfold flip
  simp
theorem PlOk.root {p : Pl} (h : PlOk p) : p.r = 0 ∨ rootQ p.r = none := by
  rcases h with ⟨_, _, h⟩ | ⟨_, _, h⟩
  · exact .inl h
  · exact .inr h
theorem PlOk.zero {p : Pl} (h : PlOk p) (hr : p.r = 0) : p.a = 0 ∧ p.b = 0 := by
  rcases h with ⟨h1, h2, _⟩ | ⟨_, h, _⟩
  · exact ⟨h1, h2⟩
  · rw [hr] at h; exact absurd h (by decide)
theorem PlOk.flip {p : Pl} (h : PlOk p) : PlOk (flip p) := by
  rcases h with ⟨h1, h2, h3⟩ | ⟨h1, h2, h3⟩
  · exact .inl ⟨by show -p.a = 0; rw [h1]; rfl, by show -p.b = 0; rw [h2]; rfl, h3⟩
  · exact .inr ⟨by show gcdI (-p.a) (-p.b) = 1; rw [gcdI_neg]; exact h1, h2, h3⟩
theorem PlSz.flip {p : Pl} (h : PlSz p) : PlSz (flip p) := ⟨h.x, h.y, by show Lt2 (-p.a).natAbs 900; rw [Int.natAbs_neg]; exact h.a, by show Lt2 (-p.b).natAbs 900; rw [Int.natAbs_neg]; exact h.b, h.r⟩
/-- turned over with its kin -/
def ov (r : Rat) (p : Pl) : Pl := if kinB r p.r = true then flip p else p
theorem ov_ok {r : Rat} {p : Pl} (h : PlOk p) : PlOk (ov r p) := by unfold ov; split; exact h.flip; exact h
theorem ov_sz {r : Rat} {p : Pl} (h : PlSz p) : PlSz (ov r p) := by unfold ov; split; exact h.flip; exact h
theorem ov_r {r : Rat} {p : Pl} : (ov r p).r = p.r := by unfold ov; split <;> rfl
theorem ov_x {r : Rat} {p : Pl} : (ov r p).x = p.x := by unfold ov; split <;> rfl
theorem ov_y {r : Rat} {p : Pl} : (ov r p).y = p.y := by unfold ov; split <;> rfl
theorem flip_eq' (p : Pl) : flip' p = flip p := rfl
/-- the form of what is turned over -/
theorem formQ_ov {x y u v r r0 : Rat} (h0 : 0 ≤ r0) (hr : 0 ≤ r) (hk : r = 0 ∨ rootQ r = none) : formQ x y (if kinB r0 r = true then -u else u) (if kinB r0 r = true then -v else v) r = ov r0 (formQ x y u v r) := by
  rcases formQ_kin (x := x) (y := y) (u := u) (v := v) h0 hr hk with ⟨e1, e2, e3⟩ | e
  · have e4 : ov r0 (formQ x y u v r) = formQ x y u v r := by
      unfold ov
      rw [e1, kinB_zero]
      rfl
    rw [e4]
    split
    · rw [formQ_neg hk, flip_eq', flip_zero ⟨e2, e3⟩]
    · rfl
  · unfold ov
    rw [e]
    split
    · rw [formQ_neg hk]; rfl
    · rfl
/-- what was turned over, as numbers -/
theorem ov_a (r : Rat) (p : Pl) : ((ov r p).a : Rat) = if kinB r p.r = true then -(p.a : Rat) else p.a := by
  unfold ov
  split
  · show ((-p.a : Int) : Rat) = _
    push_cast; rfl
  · rfl
theorem ov_b (r : Rat) (p : Pl) : ((ov r p).b : Rat) = if kinB r p.r = true then -(p.b : Rat) else p.b := by
  unfold ov
  split
  · show ((-p.b : Int) : Rat) = _
    push_cast; rfl
  · rfl
/-- a bead keeps true when all kin are turned over -/
theorem gone_ov {p q t : Pl} {s r0 : Rat} (h0 : 0 ≤ r0) (hp : PlOk p) (hq : PlOk q) (h : goneQ p q s = some t) : goneQ (ov r0 p) (ov r0 q) s = some (ov r0 t) := by
  have np := hp.nonneg
  have nq := hq.nonneg
  unfold goneQ at h ⊢
  simp only [ov_x, ov_y, ov_r, ov_a, ov_b] at h ⊢
  have e1 : ∀ (c : Prop) [Decidable c] (a k : Rat), (if c then -a else a) * k = if c then -(a * k) else a * k := fun c _ a k => by split <;> grind
  simp only [e1]
  have e2 : ∀ (c : Prop) [Decidable c] (a : Rat), ((if c then -a else a) = 0) = (a = 0) := fun c _ a => propext (by split <;> constructor <;> intro z <;> grind)
  simp only [e2]
  split at h
  · rename_i hc
    rw [if_pos hc]
    split at h
    · rename_i hm
      rw [if_pos hm]
      cases h
      rw [formQ_ov h0 nq hq.root]
    · rename_i hm
      rw [if_neg hm]
      cases h
      rw [formQ_ov h0 np hp.root]
  · rename_i hc
    rw [if_neg hc]
    split at h
    · rename_i hk
      rw [if_pos hk]
      cases h
      rw [← formQ_ov h0 np hp.root, kinB_same h0 np nq hk]
      congr 2
      · split <;> grind
      · split <;> grind
    · cases h
/-- the law's bead is the program's -/
theorem bead_gone {p q : Pl} {s : Rat} (hp : PlOk p) (hq : PlOk q) : beadQ p q s = goneQ p q s := by
  have np := hp.nonneg
  have nq := hq.nonneg
  unfold beadQ goneQ
  have ex : p.x * (1 - s) + q.x * s = p.x + (q.x - p.x) * s := by grind
  have ey : p.y * (1 - s) + q.y * s = p.y + (q.y - p.y) * s := by grind
  have em : ∀ a : Rat, (1 - s) * a = a * (1 - s) := fun a => Rat.mul_comm _ _
  have en : ∀ a : Rat, s * a = a * s := fun a => Rat.mul_comm _ _
  simp only [em, en, ex, ey]
  unfold kinT
  cases hk : kinB p.r q.r with
  | false => rfl
  | true =>
    obtain ⟨h1, h2, k, hk0, ek⟩ := (kinB_iff np nq).mp hk
    have ekq : rootQ (q.r * p.r) = some k := by rw [Rat.mul_comm, ← ek, rootQ_sq hk0]
    have eb : borQ q.r p.r = k / p.r := by unfold borQ; rw [ekq]
    have cp : gcdI p.a p.b = 1 ∧ 0 < p.r ∧ rootQ p.r = none := by
      rcases hp with ⟨_, _, z⟩ | z
      · exact absurd z h1
      · exact z
    have cq : gcdI q.a q.b = 1 ∧ 0 < q.r ∧ rootQ q.r = none := by
      rcases hq with ⟨_, _, z⟩ | z
      · exact absurd z h2
      · exact z
    have kp : 0 < k := by
      refine Rat.lt_of_le_of_ne hk0 fun z => ?_
      have := Rat.mul_pos cp.2.1 cq.2.1
      rw [← ek, ← z, Rat.mul_zero] at this
      exact absurd this (by decide)
    have tp : 0 < k / p.r := by
      rw [Rat.div_def]
      exact Rat.mul_pos kp (Rat.inv_pos.mpr cp.2.1)
    have nzp : ¬ ((p.a : Rat) = 0 ∧ (p.b : Rat) = 0) := fun ⟨z1, z2⟩ => by
      have c1 := cp.1
      rw [Rat.intCast_eq_zero_iff.mp z1, Rat.intCast_eq_zero_iff.mp z2] at c1
      exact absurd c1 (by decide)
    have nzq : ¬ ((q.a : Rat) = 0 ∧ (q.b : Rat) = 0) := fun ⟨z1, z2⟩ => by
      have c1 := cq.1
      rw [Rat.intCast_eq_zero_iff.mp z1, Rat.intCast_eq_zero_iff.mp z2] at c1
      exact absurd c1 (by decide)
    simp only [if_true, eb]
    by_cases hm : (p.a : Rat) * (1 - s) = 0 ∧ (p.b : Rat) * (1 - s) = 0
    · rw [if_pos (.inl hm), if_pos hm]
      have hs : s = 1 := by
        rcases Rat.mul_eq_zero.mp hm.1 with z | z
        · rcases Rat.mul_eq_zero.mp hm.2 with z2 | z2
          · exact absurd ⟨z, z2⟩ nzp
          · grind
        · grind
      congr 1
      rw [hm.1, hm.2, hs]
      have f1 := formQ_scale (x := p.x + (q.x - p.x) * 1) (y := p.y + (q.y - p.y) * 1) (r := p.r) (c := k / p.r) (a := q.a) (b := q.b) cq.1 tp h1 cp.2.2
      have f2 := formQ_scale (x := p.x + (q.x - p.x) * 1) (y := p.y + (q.y - p.y) * 1) (r := q.r) (c := 1) (a := q.a) (b := q.b) cq.1 (by decide) h2 cq.2.2
      have g1 : (0 : Rat) + k / p.r * ((q.a : Rat) * 1) = k / p.r * q.a := by grind
      have g2 : (0 : Rat) + k / p.r * ((q.b : Rat) * 1) = k / p.r * q.b := by grind
      have g3 : (q.a : Rat) * 1 = 1 * q.a := by grind
      have g4 : (q.b : Rat) * 1 = 1 * q.b := by grind
      have g5 : p.r * (k / p.r * (k / p.r)) = q.r * (1 * 1) := by grind
      rw [g1, g2, f1, g3, g4, f2, g5]
    · by_cases hn : (q.a : Rat) * s = 0 ∧ (q.b : Rat) * s = 0
      · rw [if_pos (.inr hn), if_neg hm, hn.1, hn.2]
        congr 2 <;> grind
      · rw [if_neg (not_or.mpr ⟨hm, hn⟩)]
        congr 2 <;> grind
/-- distances from a point don't tell the sides -/
theorem sq_flip (x y : Rat) (p : Pl) : sqQ x y (flip p) = sqQ x y p := by
  have ea : ((flip p).a : Rat) = -(p.a : Rat) := by show ((-p.a : Int) : Rat) = _; push_cast; rfl
  have eb : ((flip p).b : Rat) = -(p.b : Rat) := by show ((-p.b : Int) : Rat) = _; push_cast; rfl
  have ex : (flip p).x = p.x := rfl
  have ey : (flip p).y = p.y := rfl
  have er : (flip p).r = p.r := rfl
  by_cases h : (x - p.x) * p.a + (y - p.y) * p.b = 0
  · have h' : (x - (flip p).x) * (flip p).a + (y - (flip p).y) * (flip p).b = 0 := by rw [ea, eb, ex, ey]; grind
    unfold sqQ
    rw [if_pos h, if_pos h', ea, eb, ex, ey, er]
    congr 1
    grind
  · have h' : ¬ (x - (flip p).x) * (flip p).a + (y - (flip p).y) * (flip p).b = 0 := fun z => h (by rw [ea, eb, ex, ey] at z; grind)
    unfold sqQ
    rw [if_neg h, if_neg h']
theorem sq_ov (x y r : Rat) (p : Pl) : sqQ x y (ov r p) = sqQ x y p := by
  unfold ov
  split
  · exact sq_flip x y p
  · rfl
end K31
end
section
set_option maxHeartbeats 4000000
set_option autoImplicit false
/-! The walk: over two points. -/
namespace K31
open PySem PySem.Spec PyProof.Rows L2
/-- the whole part of the root, and one more, halved; and the gap -/
def flW (w : Rat) : Nat := (w.num.fdiv w.den).toNat
def lenQ (w g : Rat) : Rat := Rat.divInt 1 2 * ((((Float64.isqrt (flW w) : Nat) : Int) + 1 : Int) : Rat) + g
def highQ (w g : Rat) : Rat := lenQ w g * lenQ w g + Rat.divInt (-1) 4 * w
def overR (w g : Rat) : Rat := highQ w g * Rat.divInt w.den w.num
def overQ (x y u v w g : Rat) : Pl := formQ (Rat.divInt 1 2 * (x + u)) (Rat.divInt 1 2 * (y + v)) (-(v - y)) (u - x) (overR w g)
theorem num_half : numD (Rat.divInt 1 2) = .tup [.int 1, .int 2] := by
  have h1 : (Rat.divInt 1 2).den = 2 := by decide +kernel
  have h2 : (Rat.divInt 1 2).num = 1 := by decide +kernel
  rw [numD_pair (by rw [h1]; decide), h1, h2]; rfl
theorem num_quarter : numD (Rat.divInt (-1) 4) = .tup [.int (-1), .int 4] := by
  have h1 : (Rat.divInt (-1) 4).den = 4 := by decide +kernel
  have h2 : (Rat.divInt (-1) 4).num = -1 := by decide +kernel
  rw [numD_pair (by rw [h1]; decide), h1, h2]; rfl
theorem bd_half : Bd 1 2 (Rat.divInt 1 2) := ⟨by show Lt2 (Rat.divInt 1 2).num.natAbs 1; rw [show (Rat.divInt 1 2).num.natAbs = 1 by decide +kernel]; exact lt2l 1 (by decide) (by decide), by rw [show (Rat.divInt 1 2).den = 2 by decide +kernel]; exact lt2l 2 (by decide) (by decide)⟩
theorem bd_quarter : Bd 1 3 (Rat.divInt (-1) 4) := ⟨by rw [show (Rat.divInt (-1) 4).num.natAbs = 1 by decide +kernel]; exact lt2l 1 (by decide) (by decide), by rw [show (Rat.divInt (-1) 4).den = 4 by decide +kernel]; exact lt2l 3 (by decide) (by decide)⟩
theorem flW_le {w : Rat} (h : 0 < w) : flW w ≤ w.num.natAbs := by
  have hn : 0 ≤ w.num := Rat.num_nonneg.mpr (Rat.le_of_lt h)
  unfold flW
  rw [Int.fdiv_eq_ediv_of_nonneg _ (by omega)]
  have := Int.ediv_le_self (w.den : Int) hn
  omega
theorem flW_cast {w : Rat} (h : 0 < w) : w.num.fdiv w.den = ((flW w : Nat) : Int) := by
  have hn : 0 ≤ w.num := Rat.num_nonneg.mpr (Rat.le_of_lt h)
  have : 0 ≤ w.num.fdiv w.den := by
    rw [Int.fdiv_eq_ediv_of_nonneg _ (by omega)]
    exact Int.ediv_nonneg hn (by omega)
  unfold flW
  omega
section
variable {P : Program} {w : World} {K : PySem.W.Frag} {mg : Str → Option Value} {base : Heap}
/-- small enough for it -/
structure OvOk (x y u v w g : Rat) : Prop where
  hx : Bd 600 600 x
  hy : Bd 600 600 y
  hu : Bd 600 600 u
  hv : Bd 600 600 v
  hw : Bd 550 530 w
  w0 : 0 < w
  hg : Bd 4 3 g
  hr : 0 ≤ overR w g
def S__law_over (ds : List D) (d : D) : Prop := ∃ x y u v w g : Rat, ds = [ptD x y, ptD u v, numD w, numD g] ∧ OvOk x y u v w g ∧ d = plD (overQ x y u v w g)
abbrev N__law_over : List Str := ["_law_one", "_law_other", "_law_wide", "_law_gap", "_law_middle", "_law_mine", "_law_its", "_law_way_here", "_law_pair", "_law_length", "_law_high"]
theorem sc__law_over : FnScope N__law_over ["_law_one", "_law_other", "_law_wide", "_law_gap"] (defScope s__law_over) := ⟨rfl, rfl, rfl, by decide +kernel, rfl, by decide +kernel, by decide +kernel⟩
theorem ok__law_over (T : TB K mg) : Ok P w K mg base 6 "_law_over" 4 S__law_over := by
  obtain ⟨fd, F⟩ := T.f__law_over
  refine ok_of (N := N__law_over) (ps := ["_law_one", "_law_other", "_law_wide", "_law_gap"]) F T.g__law_over sc__law_over rfl (fun _ _ _ _ _ _ us hl => match us, hl with | [_, _, _, _], _ => rfl) fun cdv A outer s H ds d E hr hl hS => ?_
  obtain ⟨x, y, u, v, w', g, rfl, hp, rfl⟩ := hS
  have bxu : Bd 1201 1200 (x + u) := hp.hx.add hp.hu (m := 1200) (by decide) (by decide)
  have byv : Bd 1201 1200 (y + v) := hp.hy.add hp.hv (m := 1200) (by decide) (by decide)
  have bmx : Bd 1810 1810 (Rat.divInt 1 2 * (x + u)) := (bd_half.mul bxu).up (by decide) (by decide)
  have bmy : Bd 1810 1810 (Rat.divInt 1 2 * (y + v)) := (bd_half.mul byv).up (by decide) (by decide)
  have bwx : Bd 1201 1200 (u - x) := hp.hu.sub hp.hx (m := 1200) (by decide) (by decide)
  have bwy : Bd 1201 1200 (v - y) := hp.hv.sub hp.hy (m := 1200) (by decide) (by decide)
  have lf : Lt2 (flW w') 550 := hp.hw.n.le (flW_le hp.w0)
  have ls : Lt2 (Float64.isqrt (flW w')) 275 := by
    have h1 := (isq_spec (flW w')).1
    have h2 : Lt2 (Float64.isqrt (flW w') * Float64.isqrt (flW w')) 550 := lf.le h1
    unfold Lt2 at *
    rcases Nat.lt_or_ge (Float64.isqrt (flW w')) (2 ^ 275) with z | z
    · exact z
    · have := Nat.mul_le_mul z z
      rw [← Nat.pow_add] at this
      omega
  have bi : Bd 276 1 ((((Float64.isqrt (flW w') : Nat) : Int) + 1 : Int) : Rat) := by
    refine .int ?_
    have : Lt2 (Float64.isqrt (flW w') + 1) 276 := ls.add (lt2l 1 (by decide) (by decide))
    exact this
  have bh : Bd 277 3 (Rat.divInt 1 2 * ((((Float64.isqrt (flW w') : Nat) : Int) + 1 : Int) : Rat)) := (bd_half.mul bi).up (by decide) (by decide)
  have bl : Bd 282 6 (lenQ w' g) := (bh.add hp.hg (m := 281) (by decide) (by decide)).up (by decide) (by decide)
  have bq : Bd 551 533 (Rat.divInt (-1) 4 * w') := (bd_quarter.mul hp.hw).up (by decide) (by decide)
  have bH : Bd 1100 545 (highQ w' g) := ((bl.mul bl).add bq (m := 1098) (by decide) (by decide)).up (by decide) (by decide)
  have hn : w'.num ≠ 0 := fun z => by
    have h := hp.w0
    rw [Rat.num_eq_zero.mp z] at h
    exact absurd h (by decide)
  have bv : Bd 530 550 (Rat.divInt w'.den w'.num) := .divInt hn (by rw [Int.natAbs_natCast]; exact hp.hw.d) hp.hw.n
  have br : Bd 1760 1760 (overR w' g) := (bH.mul bv).up (by decide) (by decide)
  have bn : Bd 1201 1200 (-(v - y)) := bwy.neg
  refine ⟨_, ?_, .inl rfl⟩
  refine db1 (dsetLc (i := 4) (own := [("_law_mine", 5), ("_law_its", 6)]) (q2 fun a b => Rat.divInt 1 2 * (a + b)) rfl sc__law_over.nd rfl rfl (sw_true rfl rfl rfl (by decide +kernel)) (diZT (ds := [numD x, numD y]) (ds2 := [numD u, numD v]) T.b_zip (dv 0 rfl) (dv 1 rfl)) (blkOk_by (N := N__law_over) (sc := defScope s__law_over) (by decide +kernel)) (pgP (i := 5) (j := 6) rfl sc__law_over.nd rfl rfl) (by simp [zipD]) (in2 ⟨_, bcP (by decide), fun _ _ _ _ _ => ?_⟩ ⟨_, bcP (by decide), fun _ _ _ _ _ => ?_⟩)) ?_
  · exact dcall (ok__law_times T) (hr.mono (by decide)) (dacons (dtup (dacons dint (dacons dint danil))) (dacons (dcall (ok__law_plus T) (hr.mono (by decide)) (dacons (dv 5 rfl) (dacons (dv 6 rfl) danil)) ⟨_, _, rfl, hp.hx.pr hp.hu, rfl⟩) danil)) ⟨_, _, by rw [num_half], bd_half.pr bxu, q2_num _ _ _⟩
  · exact dcall (ok__law_times T) (hr.mono (by decide)) (dacons (dtup (dacons dint (dacons dint danil))) (dacons (dcall (ok__law_plus T) (hr.mono (by decide)) (dacons (dv 5 rfl) (dacons (dv 6 rfl) danil)) ⟨_, _, rfl, hp.hy.pr hp.hv, rfl⟩) danil)) ⟨_, _, by rw [num_half], bd_half.pr byv, q2_num _ _ _⟩
  have e5 : D.lst ((zipD [numD x, numD y] [numD u, numD v]).map (q2 fun a b => Rat.divInt 1 2 * (a + b))) = ltD (Rat.divInt 1 2 * (x + u)) (Rat.divInt 1 2 * (y + v)) := by
    show D.lst [q2 _ _, q2 _ _] = _
    rw [q2_num, q2_num]; rfl
  rw [e5]
  refine db1 (dpar (i := 7) (j := 8) rfl sc__law_over.nd rfl rfl (by decide) rfl rfl (dacons (dcall (ok__law_way T) (hr.mono (by decide)) (dacons (dv 1 rfl) (dacons (dv 0 rfl) danil)) ⟨u, v, x, y, rfl, hp.hu.pr hp.hx, hp.hv.pr hp.hy, rfl⟩) (dacons (dcall (ok__law_halves T) (hr.mono (by decide)) (dacons (dv 2 rfl) danil) ⟨w', rfl, rfl⟩) danil))) ?_
  refine db1 (dset (i := 9) (d := numD (lenQ w' g)) sc__law_over.nd rfl (dcall (ok__law_plus T) (hr.mono (by decide)) (dacons (dcall (ok__law_times T) (hr.mono (by decide)) (dacons (dtup (dacons dint (dacons dint danil))) (dacons (dadd (dcall (ok__law_whole_root T) (hr.mono (by decide)) (dacons (DE.is (dfdiv (dixL (dv 8 rfl) dint rfl) (dixL (dv 8 rfl) dint rfl) (divG (by have := w'.den_pos; omega) (by rw [Int.natAbs_natCast]; exact hp.hw.d.up (by decide)))) (congrArg D.int (flW_cast hp.w0))) danil) ⟨flW w', rfl, lf.up (by decide), rfl⟩) dint) danil)) ⟨Rat.divInt 1 2, ((((Float64.isqrt (flW w') : Nat) : Int) + 1 : Int) : Rat), by rw [num_half, numD_intCast], bd_half.pr bi, rfl⟩) (dacons (dv 3 rfl) danil)) ⟨_, g, rfl, bh.pr hp.hg, rfl⟩)) ?_
  refine db1 (dset (i := 10) (d := numD (highQ w' g)) sc__law_over.nd rfl (dcall (ok__law_plus T) (hr.mono (by decide)) (dacons (dcall (ok__law_times T) (hr.mono (by decide)) (dacons (dv 9 rfl) (dacons (dv 9 rfl) danil)) ⟨_, _, rfl, bl.pr bl, rfl⟩) (dacons (dcall (ok__law_times T) (hr.mono (by decide)) (dacons (dtup (dacons (dneg dint) (dacons dint danil))) (dacons (dv 2 rfl) danil)) ⟨Rat.divInt (-1) 4, w', by rw [num_quarter], bd_quarter.pr hp.hw, rfl⟩) danil)) ⟨_, _, rfl, (bl.mul bl).pr bq, rfl⟩)) ?_
  refine dbR (dret (dcall (ok__law_form T) (hr.mono (by decide)) (dacons (dv 4 rfl) (dacons (dlst (dacons (dcall (ok__law_times T) (hr.mono (by decide)) (dacons (dneg dint) (dacons (dixL (dv 7 rfl) dint rfl) danil)) ⟨((-1 : Int) : Rat), v - y, by rw [numD_intCast], (bwx.pr bwy).lit (by decide), rfl⟩) (dacons (dixL (dv 7 rfl) dint rfl) danil))) (dacons (dcall (ok__law_times T) (hr.mono (by decide)) (dacons (dv 10 rfl) (dacons (dcall (ok__law_lowest T) (hr.mono (by decide)) (dacons (dixL (dv 8 rfl) dint rfl) (dacons (dixL (dv 8 rfl) dint rfl) danil)) ⟨_, _, rfl, hn, hp.hw.n.up (by decide), rfl⟩) danil)) ⟨_, _, rfl, bH.pr bv, rfl⟩) danil))) ⟨_, _, -(v - y), u - x, _, _, rfl, .inl (by unfold ltD; rw [neg1_mul]), FormOk.of bmx bmy (bn.up (by decide) (by decide)) (bwx.up (by decide) (by decide)) hp.hr br, rfl⟩))
end
end K31
end
section
set_option maxHeartbeats 1000000
set_option autoImplicit false
/-! Plain: sizes. All points lie on a lattice, all roots have one denominator, all is near. -/
namespace K31
open PySem PySem.Spec PyProof.Rows
structure Sz (x0 y0 : Rat) (N S R : Nat) (p : Pl) : Prop where
  ex : ∃ (m n : Int) (A : Nat), p.x * (N : Rat) = x0 * (N : Rat) + (m : Rat) ∧ p.y * (N : Rat) = y0 * (N : Rat) + (n : Rat) ∧ p.r * (S : Rat) = (A : Rat) ∧
    m.natAbs ≤ R * N ∧ n.natAbs ≤ R * N ∧ A * (p.a.natAbs * p.a.natAbs) ≤ R * R * S ∧ A * (p.b.natAbs * p.b.natAbs) ≤ R * R * S
theorem Sz.up {x0 y0 : Rat} {N S R c d R' : Nat} {p : Pl} (h : Sz x0 y0 N S R p) (hR : R ≤ R') : Sz x0 y0 (N * c) (S * d) R' p := by
  obtain ⟨m, n, A, h1, h2, h3, h4, h5, h6, h7⟩ := h.ex
  have hRR : R * R ≤ R' * R' := Nat.mul_le_mul hR hR
  have k1 : ∀ {m : Int}, m.natAbs ≤ R * N → (m * (c : Int)).natAbs ≤ R' * (N * c) := fun {m} h => by
    rw [Int.natAbs_mul, Int.natAbs_natCast, ← Nat.mul_assoc]
    exact Nat.mul_le_mul_right _ (Nat.le_trans h (Nat.mul_le_mul_right _ hR))
  have k2 : ∀ {x : Nat}, A * x ≤ R * R * S → A * d * x ≤ R' * R' * (S * d) := fun {x} h => by
    have : A * d * x = A * x * d := by rw [Nat.mul_right_comm]
    rw [this, ← Nat.mul_assoc]
    exact Nat.mul_le_mul_right _ (Nat.le_trans h (Nat.mul_le_mul_right _ hRR))
  exact ⟨m * c, n * c, A * d, by push_cast; grind, by push_cast; grind, by push_cast; grind, k1 h4, k1 h5, k2 h6, k2 h7⟩
theorem Sz.pt {x0 y0 x y : Rat} {N S R : Nat} {m n : Int} (h1 : x * (N : Rat) = x0 * (N : Rat) + (m : Rat)) (h2 : y * (N : Rat) = y0 * (N : Rat) + (n : Rat)) (h4 : m.natAbs ≤ R * N) (h5 : n.natAbs ≤ R * N) : Sz x0 y0 N S R ⟨x, y, 0, 0, 0⟩ :=
  ⟨m, n, 0, h1, h2, by push_cast; grind, h4, h5, by simp, by simp⟩
/-- a rod's end -/
theorem Sz.rod {x0 y0 x y g cx cy : Rat} {N S R : Nat} {p : Pl} {g1 g2 d : Nat} {c1 c2 : Int} (h : Sz x0 y0 N S R p) (hg : g * (g2 : Rat) = (g1 : Rat)) (hx : cx * (d : Rat) = (c1 : Rat)) (hy : cy * (d : Rat) = (c2 : Rat)) (hg1 : g1 ≤ 12) (hg2 : 1 ≤ g2) (b1 : c1.natAbs ≤ d) (b2 : c2.natAbs ≤ d) :
    Sz x0 y0 (N * (g2 * d)) S (R + 12) ⟨p.x + g * cx, p.y + g * cy, 0, 0, 0⟩ := by
  obtain ⟨m, n, A, h1, h2, h3, h4, h5, h6, h7⟩ := h.ex
  have key : ∀ {m c : Int}, m.natAbs ≤ R * N → c.natAbs ≤ d → (m * (g2 * d : Nat) + (g1 : Int) * c * (N : Int)).natAbs ≤ (R + 12) * (N * (g2 * d)) := fun {m c} hm hc => by
    refine Nat.le_trans (Int.natAbs_add_le _ _) ?_
    rw [Int.natAbs_mul, Int.natAbs_mul, Int.natAbs_mul, Int.natAbs_natCast, Int.natAbs_natCast, Int.natAbs_natCast]
    have e1 : m.natAbs * (g2 * d) ≤ R * N * (g2 * d) := Nat.mul_le_mul_right _ hm
    have e2 : g1 * c.natAbs * N ≤ 12 * (g2 * d) * N := Nat.mul_le_mul_right _ (Nat.mul_le_mul hg1 (Nat.le_trans hc (Nat.le_mul_of_pos_left _ hg2)))
    have e3 : (R + 12) * (N * (g2 * d)) = R * N * (g2 * d) + 12 * (g2 * d) * N := by grind
    omega
  exact Sz.pt (m := m * (g2 * d : Nat) + (g1 : Int) * c1 * (N : Int)) (n := n * (g2 * d : Nat) + (g1 : Int) * c2 * (N : Int)) (by push_cast; grind) (by push_cast; grind) (key h4 b1) (key h5 b2)
/-- a root of a natural number -/
theorem int_root {q : Rat} {n : Nat} (h0 : 0 ≤ q) (h : q * q = (n : Rat)) : ∃ c : Nat, q = (c : Rat) := by
  have hp : q * q = q ^ 2 := by rw [Rat.pow_succ, Rat.pow_succ]; simp
  have e2 : (q * q).den = q.den * q.den := by rw [hp, Rat.den_pow, Nat.pow_succ, Nat.pow_succ]; simp
  have e3 : (q * q).den = 1 := by rw [h]; simp
  rw [e3] at e2
  have hd : q.den = 1 := by
    have h1 := q.den_pos
    rcases Nat.lt_or_ge q.den 2 with z | z
    · omega
    · have := Nat.mul_le_mul z z
      omega
  have hn := Rat.num_nonneg.mpr h0
  refine ⟨q.num.toNat, ?_⟩
  have := num_eq q
  rw [hd] at this
  have e4 : ((q.num.toNat : Nat) : Int) = q.num := by omega
  have e5 : ((q.num.toNat : Nat) : Rat) = ((q.num : Int) : Rat) := by rw [← Rat.intCast_natCast, e4]
  rw [e5, this]
  push_cast
  grind
theorem dvd_sq {A B C g : Nat} (h : C * C = A * B) (h1 : A.gcd C ∣ g) : A ∣ g * g := by
  have e : A.gcd C * A.gcd C = A * A.gcd B := by
    have h2 : (A.gcd C) ^ 2 = (A ^ 2).gcd (C ^ 2) := (Nat.pow_gcd_pow ..).symm
    rw [Nat.pow_two, Nat.pow_two, Nat.pow_two, h, Nat.gcd_mul_left] at h2
    exact h2
  have h3 : A ∣ A.gcd C * A.gcd C := by rw [e]; exact Nat.dvd_mul_right _ _
  exact Nat.dvd_trans h3 (Nat.mul_dvd_mul h1 h1)
theorem sqnn (p : Int) : 0 ≤ p * p := by
  rw [← Int.natAbs_mul_self' p]
  exact Int.mul_nonneg (by omega) (by omega)
theorem nat_dvd {z : Nat} {v : Int} (h : (z : Int) ∣ v) : z ∣ v.natAbs := by
  have := Int.natAbs_dvd_natAbs.mpr h
  rwa [Int.natAbs_natCast] at this
/-- (a + b)² by bounds of a², b² and of the cross product -/
theorem cross_le {p q X Y Z B : Int} {e : Nat} (hX0 : 0 ≤ X) (hX : X ≤ B) (hY0 : 0 ≤ Y) (hY : Y ≤ B) (hZ : Z * Z = X * Y) (he : p.natAbs + q.natAbs ≤ e) : p * p * X + 2 * (p * q * Z) + q * q * Y ≤ (e : Int) * e * B := by
  have hB : 0 ≤ B := Int.le_trans hX0 hX
  have hZB : Z.natAbs ≤ B.natAbs := by
    rcases Nat.lt_or_ge B.natAbs Z.natAbs with z | z
    · exfalso
      have h1 : (B.natAbs : Int) * B.natAbs < (Z.natAbs : Int) * Z.natAbs := by
        have := Nat.mul_lt_mul'' z z
        exact_mod_cast this
      have h2 : (B.natAbs : Int) = B := Int.natAbs_of_nonneg hB
      have h3 : (Z.natAbs : Int) * Z.natAbs = Z * Z := Int.natAbs_mul_self' Z
      rw [h2, h3, hZ] at h1
      have h4 : X * Y ≤ B * B := Int.mul_le_mul hX hY hY0 hB
      omega
    · exact z
  have h1 : p * p * X ≤ p.natAbs * p.natAbs * B := by
    rw [Int.natAbs_mul_self' p]
    exact Int.mul_le_mul_of_nonneg_left hX (sqnn p)
  have h2 : q * q * Y ≤ q.natAbs * q.natAbs * B := by
    rw [Int.natAbs_mul_self' q]
    exact Int.mul_le_mul_of_nonneg_left hY (sqnn q)
  have h3 : p * q * Z ≤ p.natAbs * q.natAbs * B := by
    have e1 : p * q * Z ≤ ((p * q * Z).natAbs : Int) := Int.le_natAbs
    rw [Int.natAbs_mul, Int.natAbs_mul] at e1
    have e2 : p.natAbs * q.natAbs * Z.natAbs ≤ p.natAbs * q.natAbs * B.natAbs := Nat.mul_le_mul_left _ hZB
    have e3 : ((p.natAbs * q.natAbs * B.natAbs : Nat) : Int) = (p.natAbs : Int) * q.natAbs * B := by
      push_cast
      rw [Int.natAbs_of_nonneg hB]
    omega
  have h4 : ((p.natAbs : Int) + q.natAbs) * ((p.natAbs : Int) + q.natAbs) * B ≤ (e : Int) * e * B := by
    refine Int.mul_le_mul_of_nonneg_right (Int.mul_le_mul (by omega) (by omega) (by omega) (by omega)) hB
  have h5 : ((p.natAbs : Int) + q.natAbs) * ((p.natAbs : Int) + q.natAbs) * B = p.natAbs * p.natAbs * B + 2 * (p.natAbs * q.natAbs * B) + q.natAbs * q.natAbs * B := by grind
  omega
theorem natMul {x : Int} (A : Nat) : (A : Int) * ((x.natAbs * x.natAbs : Nat) : Int) = A * (x * x) := by
  push_cast
  rw [Int.natAbs_mul_self' x]
/-- a bead: shares σ/d and (d - σ)/d -/
theorem Sz.bead {x0 y0 s : Rat} {N S R d : Nat} {σ : Int} {p q t : Pl} (hN : 0 < N) (hS : 0 < S) (hp : Sz x0 y0 N S R p) (hq : Sz x0 y0 N S R q) (op : PlOk p) (oq : PlOk q) (hd : 0 < d) (hs : s * (d : Rat) = (σ : Rat)) (he : ((d : Int) - σ).natAbs + σ.natAbs ≤ 3 * d) (h : goneQ p q s = some t) : Sz x0 y0 (N * d) (S * (d * d)) (3 * R) t := by
  obtain ⟨m1, n1, A1, a1, a2, a3, a4, a5, a6, a7⟩ := hp.ex
  obtain ⟨m2, n2, A2, b1, b2, b3, b4, b5, b6, b7⟩ := hq.ex
  have np := op.nonneg
  have nq := oq.nonneg
  have hd0 : (d : Rat) ≠ 0 := fun z => by
    have := Rat.natCast_eq_zero_iff.mp z
    omega
  have hS0 : (S : Rat) ≠ 0 := fun z => by
    have := Rat.natCast_eq_zero_iff.mp z
    omega
  -- the point
  have pt : ∀ {m n : Int}, m.natAbs ≤ R * N → n.natAbs ≤ R * N → (((d : Int) - σ) * m + σ * n).natAbs ≤ 3 * R * (N * d) := fun {m n} hm hn => by
    refine Nat.le_trans (Int.natAbs_add_le _ _) ?_
    rw [Int.natAbs_mul, Int.natAbs_mul]
    have e1 := Nat.mul_le_mul_left ((d : Int) - σ).natAbs hm
    have e2 := Nat.mul_le_mul_left σ.natAbs hn
    have e3 : (((d : Int) - σ).natAbs + σ.natAbs) * (R * N) ≤ 3 * d * (R * N) := Nat.mul_le_mul_right _ he
    have e4 : 3 * d * (R * N) = 3 * R * (N * d) := by grind
    rw [Nat.add_mul] at e3
    omega
  have ptx : (p.x + (q.x - p.x) * s) * ((N * d : Nat) : Rat) = x0 * ((N * d : Nat) : Rat) + ((((d : Int) - σ) * m1 + σ * m2 : Int) : Rat) := by push_cast; grind
  have pty : (p.y + (q.y - p.y) * s) * ((N * d : Nat) : Rat) = y0 * ((N * d : Nat) : Rat) + ((((d : Int) - σ) * n1 + σ * n2 : Int) : Rat) := by push_cast; grind
  -- a form by numbers over one denominator
  have fin : ∀ (u v r : Rat) (D A : Nat) (vx vy : Int), 0 < D → r * (S : Rat) = (A : Rat) → u * (D : Rat) = (vx : Rat) → v * (D : Rat) = (vy : Rat) → (r = 0 ∨ rootQ r = none) →
      (∀ g : Nat, (g : Int) ∣ vx → (g : Int) ∣ vy → (∀ z : Nat, (z : Int) ∣ vx → (z : Int) ∣ vy → z ∣ g) → A ≠ 0 → ∃ A' : Nat, A' * (D * D) = A * (g * g) * (d * d)) →
      ((A : Int) * (vx * vx) * (d * d) ≤ (3 * R : Int) * (3 * R) * (S * (d * d)) * (D * D)) → ((A : Int) * (vy * vy) * (d * d) ≤ (3 * R : Int) * (3 * R) * (S * (d * d)) * (D * D)) →
      Sz x0 y0 (N * d) (S * (d * d)) (3 * R) (formQ (p.x + (q.x - p.x) * s) (p.y + (q.y - p.y) * s) u v r) := by
    intro u v r D A vx vy hD hA hu hv hk hdv hbx hby
    by_cases h0 : r = 0 ∨ (u = 0 ∧ v = 0)
    · unfold formQ
      rw [if_pos h0]
      exact Sz.pt ptx pty (pt a4 b4) (pt a5 b5)
    · have hr0 : r ≠ 0 := fun z => h0 (.inl z)
      have huv : ¬ (u = 0 ∧ v = 0) := fun z => h0 (.inr z)
      have hD' : ((D : Int) : Rat) = (D : Rat) := Rat.intCast_natCast D
      obtain ⟨f1, f2, f3, f4⟩ := form_int (x := vx) (y := vy) (D := (D : Int)) (by omega) (by rw [hD']; exact hu) (by rw [hD']; exact hv) huv
      rw [hD'] at f3
      have hA0 : A ≠ 0 := fun z => by
        rw [z] at hA
        push_cast at hA
        rcases Rat.mul_eq_zero.mp hA with z | z
        · exact hr0 z
        · exact hS0 z
      obtain ⟨g, hg⟩ : ∃ g : Nat, gcdI vx vy = (g : Int) := ⟨vx.natAbs.gcd vy.natAbs, rfl⟩
      obtain ⟨A', hA'⟩ := hdv g (hg ▸ gcdI_dvd_left vx vy) (hg ▸ gcdI_dvd_right vx vy) (fun z z1 z2 => by
        have e : vx.natAbs.gcd vy.natAbs = g := by
          have : ((vx.natAbs.gcd vy.natAbs : Nat) : Int) = (g : Int) := hg
          exact_mod_cast this
        rw [← e]
        exact Nat.dvd_gcd (nat_dvd z1) (nat_dvd z2)) hA0
      rw [hg] at f1 f2 f3 f4
      rw [formQ_none huv hr0 (hk.resolve_left hr0)]
      have hDD : (D : Rat) ≠ 0 := fun z => by
        have := Rat.natCast_eq_zero_iff.mp z
        omega
      have f3' : fF u v * (D : Rat) = (g : Rat) := by rw [f3]; exact Rat.intCast_natCast g
      have hA'' : (A' : Rat) * ((D : Rat) * D) = A * ((g : Rat) * g) * ((d : Rat) * d) := by exact_mod_cast hA'
      have bound : ∀ {a : Int} {w : Int}, a * (g : Int) = w → ((A : Int) * (w * w) * (d * d) ≤ (3 * R : Int) * (3 * R) * (S * (d * d)) * (D * D)) → A' * (a.natAbs * a.natAbs) ≤ 3 * R * (3 * R) * (S * (d * d)) := fun {a w} e hb => by
        have hA3 : (A' : Int) * ((D : Int) * D) = A * ((g : Int) * g) * ((d : Int) * d) := by exact_mod_cast hA'
        have k1 : (A' : Int) * (a * a) * ((D : Int) * D) ≤ (3 * R : Int) * (3 * R) * (S * (d * d)) * (D * D) := by
          refine Int.le_trans (Int.le_of_eq ?_) hb
          rw [← e]
          grind
        have k2 : (A' : Int) * (a * a) ≤ (3 * R : Int) * (3 * R) * (S * (d * d)) := Int.le_of_mul_le_mul_right k1 (Int.mul_pos (by omega) (by omega))
        have k3 := natMul (x := a) A'
        have k4 : ((A' * (a.natAbs * a.natAbs) : Nat) : Int) ≤ ((3 * R * (3 * R) * (S * (d * d)) : Nat) : Int) := by
          push_cast at k3 ⊢
          rw [k3]
          exact k2
        exact_mod_cast k4
      refine ⟨_, _, A', ptx, pty, ?_, pt a4 b4, pt a5 b5, bound f1 hbx, bound f2 hby⟩
      show r * (fF u v * fF u v) * ((S * (d * d) : Nat) : Rat) = (A' : Rat)
      push_cast
      grind
  have one : ∀ {a : Int} {A : Nat} {c : Int}, A * (a.natAbs * a.natAbs) ≤ R * R * S → c.natAbs ≤ 3 * d → (A : Int) * ((a * c) * (a * c)) * (d * d) ≤ (3 * R : Int) * (3 * R) * (S * (d * d)) * (d * d) := fun {a A c} ha hc => by
    have h1 : (A : Int) * (a * a) ≤ (R : Int) * R * S := by
      rw [← natMul]
      exact_mod_cast ha
    have h2 : c * c ≤ (3 * d : Int) * (3 * d) := by
      rw [← Int.natAbs_mul_self' c]
      have := Nat.mul_le_mul hc hc
      exact_mod_cast this
    have h3 : (A : Int) * (a * a) * (c * c) ≤ (R : Int) * R * S * ((3 * d : Int) * (3 * d)) := Int.mul_le_mul h1 h2 (sqnn c) (Int.mul_nonneg (Int.mul_nonneg (by omega) (by omega)) (by omega))
    have h4 := Int.mul_le_mul_of_nonneg_right h3 (c := (d : Int) * d) (Int.mul_nonneg (by omega) (by omega))
    have e1 : (A : Int) * ((a * c) * (a * c)) * (d * d) = A * (a * a) * (c * c) * (d * d) := by grind
    have e2 : (R : Int) * R * S * ((3 * d : Int) * (3 * d)) * (d * d) = (3 * R : Int) * (3 * R) * (S * (d * d)) * (d * d) := by grind
    omega
  have tr : ∀ (A : Nat) (vx vy : Int) (g : Nat), (g : Int) ∣ vx → (g : Int) ∣ vy → (∀ z : Nat, (z : Int) ∣ vx → (z : Int) ∣ vy → z ∣ g) → A ≠ 0 → ∃ A' : Nat, A' * (d * d) = A * (g * g) * (d * d) := fun A _ _ g _ _ _ _ => ⟨A * (g * g), rfl⟩
  unfold goneQ at h
  dsimp only at h
  split at h
  · split at h
    · cases h
      exact fin _ _ _ d A2 (q.a * σ) (q.b * σ) hd b3 (by push_cast; grind) (by push_cast; grind) oq.root (fun g => tr A2 _ _ g) (one b6 (by omega)) (one b7 (by omega))
    · cases h
      exact fin _ _ _ d A1 (p.a * (d - σ)) (p.b * (d - σ)) hd a3 (by push_cast; grind) (by push_cast; grind) op.root (fun g => tr A1 _ _ g) (one a6 (by omega)) (one a7 (by omega))
  · split at h
    · rename_i hk
      cases h
      obtain ⟨k1, k2, k, hk0, ek⟩ := (kinB_iff np nq).mp hk
      have ekq : rootQ (q.r * p.r) = some k := by rw [Rat.mul_comm, ← ek, rootQ_sq hk0]
      have eb : borQ q.r p.r = k / p.r := by unfold borQ; rw [ekq]
      have hA1 : 0 < A1 := by
        rcases Nat.eq_zero_or_pos A1 with z | z
        · exfalso
          rw [z] at a3
          push_cast at a3
          rcases Rat.mul_eq_zero.mp a3 with z | z
          · exact k1 z
          · exact hS0 z
        · exact z
      obtain ⟨C, hC⟩ := int_root (q := k * (S : Rat)) (n := A1 * A2) (Rat.mul_nonneg hk0 (Rat.natCast_nonneg)) (by push_cast; grind)
      have hCC : C * C = A1 * A2 := by
        have : ((C * C : Nat) : Rat) = ((A1 * A2 : Nat) : Rat) := by
          push_cast
          rw [← hC]
          grind
        exact_mod_cast this
      have hk1 : k / p.r * (A1 : Rat) = (C : Rat) := by rw [← hC, ← a3]; grind
      have kb : ∀ {a b : Int}, A1 * (a.natAbs * a.natAbs) ≤ R * R * S → A2 * (b.natAbs * b.natAbs) ≤ R * R * S → (A1 : Int) * ((a * (d - σ) * A1 + b * σ * C) * (a * (d - σ) * A1 + b * σ * C)) * (d * d) ≤ (3 * R : Int) * (3 * R) * (S * (d * d)) * (((d * A1 : Nat) : Int) * ((d * A1 : Nat) : Int)) := fun {a b} ha hb => by
        have h1 : (A1 : Int) * (a * a) ≤ (R : Int) * R * S := by
          rw [← natMul]
          exact_mod_cast ha
        have h2 : (A2 : Int) * (b * b) ≤ (R : Int) * R * S := by
          rw [← natMul]
          exact_mod_cast hb
        have hCI : (C : Int) * C = A1 * A2 := by exact_mod_cast hCC
        have h3 := cross_le (p := (d : Int) - σ) (q := σ) (X := (A1 : Int) * (a * a)) (Y := (A2 : Int) * (b * b)) (Z := (C : Int) * (a * b)) (B := (R : Int) * R * S) (e := 3 * d) (Int.mul_nonneg (by omega) (sqnn a)) h1 (Int.mul_nonneg (by omega) (sqnn b)) h2 (by grind) he
        have h4 := Int.mul_le_mul_of_nonneg_right h3 (c := (A1 : Int) * A1 * (d * d)) (Int.mul_nonneg (Int.mul_nonneg (by omega) (by omega)) (Int.mul_nonneg (by omega) (by omega)))
        have e1 : (A1 : Int) * ((a * (d - σ) * A1 + b * σ * C) * (a * (d - σ) * A1 + b * σ * C)) * (d * d) = (((d : Int) - σ) * ((d : Int) - σ) * ((A1 : Int) * (a * a)) + 2 * (((d : Int) - σ) * σ * ((C : Int) * (a * b))) + σ * σ * ((A2 : Int) * (b * b))) * ((A1 : Int) * A1 * (d * d)) := by grind
        have e2 : ((3 * d : Nat) : Int) * ((3 * d : Nat) : Int) * ((R : Int) * R * S) * ((A1 : Int) * A1 * (d * d)) = (3 * R : Int) * (3 * R) * (S * (d * d)) * (((d * A1 : Nat) : Int) * ((d * A1 : Nat) : Int)) := by push_cast; grind
        rw [e1, ← e2]
        exact h4
      refine fin _ _ _ (d * A1) A1 (p.a * (d - σ) * A1 + q.a * σ * C) (p.b * (d - σ) * A1 + q.b * σ * C) (Nat.mul_pos hd hA1) a3 (by rw [eb]; push_cast; grind) (by rw [eb]; push_cast; grind) op.root (fun g g1 g2 g3 _ => ?_) (kb a6 b6) (kb a7 b7)
      have hz : ∀ a b : Int, ((A1.gcd C : Nat) : Int) ∣ a * (d - σ) * A1 + b * σ * C := fun a b => Int.dvd_add (Int.dvd_mul_of_dvd_right (Int.natCast_dvd_natCast.mpr (Nat.gcd_dvd_left _ _))) (Int.dvd_mul_of_dvd_right (Int.natCast_dvd_natCast.mpr (Nat.gcd_dvd_right _ _)))
      obtain ⟨c, hc⟩ := dvd_sq hCC (g3 _ (hz p.a q.a) (hz p.b q.b))
      exact ⟨c, by rw [hc]; grind⟩
    · cases h
end K31
end
section
set_option maxHeartbeats 2000000
set_option autoImplicit false
/-! Plain: sizes, over two points. -/
namespace K31
open PySem PySem.Spec PyProof.Rows
theorem natR0 {n : Nat} (h : 0 < n) : (n : Rat) ≠ 0 := fun z => by
  have := Rat.natCast_eq_zero_iff.mp z
  omega
theorem flW_spec {w : Rat} (h : 0 < w) : ((flW w : Nat) : Int) * w.den ≤ w.num ∧ w.num < ((flW w : Nat) + 1 : Int) * w.den := by
  have hn : 0 ≤ w.num := Rat.num_nonneg.mpr (Rat.le_of_lt h)
  have hd : (0 : Int) < w.den := by have := w.den_pos; omega
  have e := flW_cast h
  rw [Int.fdiv_eq_ediv_of_nonneg _ (by omega)] at e
  rw [← e]
  have h1 := Int.mul_ediv_add_emod w.num w.den
  have h2 := Int.emod_nonneg w.num (b := (w.den : Int)) (by omega)
  have h3 := Int.emod_lt_of_pos w.num hd
  have h4 : (w.den : Int) * (w.num / w.den) = w.num / w.den * w.den := Int.mul_comm _ _
  have h5 : (w.num / (w.den : Int) + 1) * w.den = w.num / w.den * w.den + w.den := by rw [Int.add_mul, Int.one_mul]
  omega
/-- the same over any denominator -/
theorem flW_over {w : Rat} {M : Nat} {W : Nat} (h : 0 < w) (hM : 0 < M) (hw : w * (M : Rat) = (W : Rat)) : flW w * M ≤ W ∧ W < (flW w + 1) * M := by
  obtain ⟨h1, h2⟩ := flW_spec h
  have hd : (0 : Int) < w.den := by have := w.den_pos; omega
  have e : w.num * (M : Int) = (W : Int) * w.den := int_eq (by
    have := num_eq w
    push_cast at *
    grind)
  have hMI : (0 : Int) < M := by omega
  constructor
  · have k := Int.mul_le_mul_of_nonneg_right h1 (c := (M : Int)) (by omega)
    have k2 : ((flW w : Nat) : Int) * M * w.den ≤ (W : Int) * w.den := by rw [← e]; grind
    have := Int.le_of_mul_le_mul_right k2 hd
    exact_mod_cast this
  · have k := Int.mul_lt_mul_of_pos_right h2 hMI
    have k2 : (W : Int) * w.den < ((flW w : Nat) + 1 : Int) * M * w.den := by rw [← e]; grind
    have := Int.lt_of_mul_lt_mul_right k2 (by omega)
    exact_mod_cast this
theorem sq_le_of {a b : Nat} (h : a * a ≤ b * b) : a ≤ b := by
  rcases Nat.lt_or_ge b a with z | z
  · have := Nat.mul_lt_mul'' z z
    omega
  · exact z
theorem divInt_half : Rat.divInt 1 2 * 2 = 1 := by decide +kernel
theorem divInt_quarter : Rat.divInt (-1) 4 * 4 = -1 := by decide +kernel
/-- a denominator's square divides what makes a square whole -/
theorem den_sq {κ : Rat} {w Z : Nat} (h : κ * κ * (w : Rat) = (Z : Rat)) : κ.den * κ.den ∣ w := by
  have e : κ.num.natAbs * κ.num.natAbs * w = Z * (κ.den * κ.den) := by
    have h1 : (κ.num * κ.num) * (w : Int) = (Z : Int) * ((κ.den : Int) * κ.den) := int_eq (by
      have := num_eq κ
      push_cast at *
      grind)
    have h2 := congrArg Int.natAbs h1
    rw [Int.natAbs_mul, Int.natAbs_mul, Int.natAbs_mul, Int.natAbs_mul, Int.natAbs_natCast, Int.natAbs_natCast, Int.natAbs_natCast] at h2
    exact h2
  have hc : (κ.den * κ.den).gcd (κ.num.natAbs * κ.num.natAbs) = 1 := by
    have h1 : κ.den.gcd κ.num.natAbs = 1 := by rw [Nat.gcd_comm]; exact κ.reduced
    have := Nat.pow_gcd_pow_of_gcd_eq_one (k := 2) (l := 2) h1
    rw [Nat.pow_two, Nat.pow_two] at this
    exact this
  have hd : κ.den * κ.den ∣ κ.num.natAbs * κ.num.natAbs * w := by rw [e]; exact Nat.dvd_mul_left _ _
  exact Nat.Coprime.dvd_of_dvd_mul_left hc hd
/-- what over two points reckons with -/
structure OvN (x0 y0 : Rat) (N R : Nat) (x y u v w g : Rat) (y2 : Nat) (a b : Int) (W I lam Z : Nat) : Prop where
  ea : (u - x) * (N : Rat) = (a : Rat)
  eb : (v - y) * (N : Rat) = (b : Rat)
  eW : W = a.natAbs * a.natAbs + b.natAbs * b.natAbs
  W0 : 0 < W
  Wle : W ≤ 8 * (R * R) * (N * N)
  ew : w * ((N * N : Nat) : Rat) = (W : Rat)
  lamle : lam ≤ (3 * R + 25) * y2
  el : lenQ w g * ((2 * y2 : Nat) : Rat) = (lam : Rat)
  eZ : Z + y2 * y2 * W = lam * lam * (N * N)
  Z0 : 0 < Z
  er : overR w g * ((4 * (y2 * y2) * W : Nat) : Rat) = (Z : Rat)
  rp : 0 < overR w g
theorem abs_diff {m1 m2 : Int} {B : Nat} (h1 : m1.natAbs ≤ B) (h2 : m2.natAbs ≤ B) : (m2 - m1).natAbs ≤ 2 * B := by omega
theorem ovN {x0 y0 : Rat} {N S R : Nat} {p q : Pl} {w g : Rat} {g1 g2 : Nat} (hN : 0 < N) (hp : Sz x0 y0 N S R p) (hq : Sz x0 y0 N S R q) (hw : w = (q.x - p.x) * (q.x - p.x) + (q.y - p.y) * (q.y - p.y)) (w0 : 0 < w) (hg : g * (g2 : Rat) = (g1 : Rat)) (h1 : g1 ≤ 12) (h2 : 1 ≤ g2) :
    ∃ (a b : Int) (W I lam Z : Nat), OvN x0 y0 N R p.x p.y q.x q.y w g g2 a b W I lam Z := by
  obtain ⟨m1, n1, A1, a1, a2, a3, a4, a5, a6, a7⟩ := hp.ex
  obtain ⟨m2, n2, A2, b1, b2, b3, b4, b5, b6, b7⟩ := hq.ex
  have hN0 := natR0 hN
  have ea : (q.x - p.x) * (N : Rat) = ((m2 - m1 : Int) : Rat) := by push_cast; grind
  have eb : (q.y - p.y) * (N : Rat) = ((n2 - n1 : Int) : Rat) := by push_cast; grind
  generalize ha : m2 - m1 = a at ea
  generalize hb : n2 - n1 = b at eb
  have la : a.natAbs ≤ 2 * (R * N) := ha ▸ abs_diff a4 b4
  have lb : b.natAbs ≤ 2 * (R * N) := hb ▸ abs_diff a5 b5
  obtain ⟨W, eW⟩ : ∃ W, W = a.natAbs * a.natAbs + b.natAbs * b.natAbs := ⟨_, rfl⟩
  have ew : w * ((N * N : Nat) : Rat) = (W : Rat) := by
    have e1 : ((W : Nat) : Rat) = (((a * a + b * b : Int)) : Rat) := by
      rw [← Rat.intCast_natCast, eW]
      congr 1
      push_cast
      rw [Int.natAbs_mul_self' a, Int.natAbs_mul_self' b]
    rw [e1, hw]
    push_cast
    grind
  have hNN : 0 < N * N := Nat.mul_pos hN hN
  have W0 : 0 < W := by
    rcases Nat.eq_zero_or_pos W with z | z
    · exfalso
      rw [z] at ew
      push_cast at ew
      have : w = 0 := by grind
      rw [this] at w0
      exact absurd w0 (by decide)
    · exact z
  have Wle : W ≤ 8 * (R * R) * (N * N) := by
    have e1 := Nat.mul_le_mul la la
    have e2 := Nat.mul_le_mul lb lb
    have e3 : 2 * (R * N) * (2 * (R * N)) = 4 * (R * R) * (N * N) := by grind
    have e4 : 8 * (R * R) * (N * N) = 4 * (R * R) * (N * N) + 4 * (R * R) * (N * N) := by grind
    omega
  obtain ⟨f1, f2⟩ := flW_over w0 hNN ew
  obtain ⟨i1, i2⟩ := isq_spec (flW w)
  generalize hI : Float64.isqrt (flW w) = I at i1 i2
  have IR : I ≤ 3 * R := by
    refine sq_le_of ?_
    have k1 : I * I * (N * N) ≤ 8 * (R * R) * (N * N) := Nat.le_trans (Nat.mul_le_mul_right _ i1) (Nat.le_trans f1 Wle)
    have k2 := Nat.le_of_mul_le_mul_right k1 hNN
    have k3 : 3 * R * (3 * R) = 9 * (R * R) := by grind
    omega
  have lamle : (I + 1) * g2 + 2 * g1 ≤ (3 * R + 25) * g2 := by
    have k1 : I * g2 ≤ 3 * R * g2 := Nat.mul_le_mul_right _ IR
    have k2 : (I + 1) * g2 = I * g2 + g2 := by rw [Nat.add_mul, Nat.one_mul]
    have k3 : (3 * R + 25) * g2 = 3 * R * g2 + 25 * g2 := Nat.add_mul _ _ _
    omega
  have el : lenQ w g * ((2 * g2 : Nat) : Rat) = (((I + 1) * g2 + 2 * g1 : Nat) : Rat) := by
    unfold lenQ
    rw [hI]
    have := divInt_half
    push_cast
    grind
  generalize hlam : (I + 1) * g2 + 2 * g1 = lam at lamle el
  have Zpos : g2 * g2 * W < lam * lam * (N * N) := by
    have k1 : (I + 1) * g2 ≤ lam := by omega
    have k2 := Nat.mul_le_mul k1 k1
    have k3 : (I + 1) * (I + 1) * (N * N) > W := Nat.lt_of_lt_of_le f2 (Nat.mul_le_mul_right _ i2)
    have k4 : g2 * g2 * W < g2 * g2 * ((I + 1) * (I + 1) * (N * N)) := Nat.mul_lt_mul_of_pos_left k3 (Nat.mul_pos h2 h2)
    have k5 : g2 * g2 * ((I + 1) * (I + 1) * (N * N)) = (I + 1) * g2 * ((I + 1) * g2) * (N * N) := by grind
    exact Nat.lt_of_lt_of_le k4 (k5 ▸ Nat.mul_le_mul_right _ k2)
  obtain ⟨Z, eZ⟩ : ∃ Z, Z + g2 * g2 * W = lam * lam * (N * N) := ⟨lam * lam * (N * N) - g2 * g2 * W, by omega⟩
  have er : overR w g * ((4 * (g2 * g2) * W : Nat) : Rat) = (Z : Rat) := by
    have wne : w ≠ 0 := fun z => by rw [z] at w0; exact absurd w0 (by decide)
    have e1 : overR w g * w = highQ w g := by
      unfold overR
      rw [Rat.divInt_eq_div]
      have e2 := num_eq w
      have e3 := den0 w
      have e4 : (w.num : Rat) ≠ 0 := fun z => wne (Rat.num_eq_zero.mp (Rat.intCast_eq_zero_iff.mp z))
      grind
    have e5 : highQ w g * ((4 * (g2 * g2) : Nat) : Rat) = (lam : Rat) * lam - ((g2 * g2 : Nat) : Rat) * w := by
      unfold highQ
      have := divInt_quarter
      push_cast at *
      grind
    have e6 : (Z : Rat) + ((g2 * g2 : Nat) : Rat) * (W : Rat) = (lam : Rat) * lam * ((N * N : Nat) : Rat) := by exact_mod_cast eZ
    push_cast at *
    grind
  have Z0 : 0 < Z := by omega
  refine ⟨a, b, W, I, lam, Z, ea, eb, eW, W0, Wle, ew, lamle, el, eZ, Z0, er, ?_⟩
  have h4 : 0 < 4 * (g2 * g2) * W := Nat.mul_pos (Nat.mul_pos (by decide) (Nat.mul_pos h2 h2)) W0
  have h5 : (0 : Rat) < overR w g * ((4 * (g2 * g2) * W : Nat) : Rat) := by rw [er]; exact Rat.natCast_pos.mpr Z0
  exact (Rat.mul_pos_iff_of_pos_right (Rat.natCast_pos.mpr h4)).mp h5
end K31
end
section
set_option maxHeartbeats 2000000
set_option autoImplicit false
/-! Plain: a place over two points lies on the lattice, as far off as its length says. -/
namespace K31
open PySem PySem.Spec PyProof.Rows
/-- what a place over two points is -/
structure OvR (x0 y0 : Rat) (N S R : Nat) (p q : Pl) (w g : Rat) (g2 : Nat) : Prop where
  sz : ∃ c e : Nat, 0 < c ∧ 0 < e ∧ Sz x0 y0 (N * c) (S * e) (3 * R + 13) (overQ p.x p.y q.x q.y w g) ∧ ((c ∣ c) ∧ ((∃ Q W : Nat, c = 2 * g2 * Q ∧ Q * Q ≤ W ∧ W ≤ 8 * (R * R) * (N * N) ∧ e = 1) ∨ (∃ W : Nat, c = 2 ∧ e = 4 * (g2 * g2) * W * (N * N) ∧ W ≤ 8 * (R * R) * (N * N))))
theorem gcdI_sq {a b : Int} {W : Nat} (eW : W = a.natAbs * a.natAbs + b.natAbs * b.natAbs) (W0 : 0 < W) : ∃ (g : Nat) (a' b' : Int) (w0 : Nat), gcdI a b = (g : Int) ∧ 0 < g ∧ a = g * a' ∧ b = g * b' ∧ w0 = a'.natAbs * a'.natAbs + b'.natAbs * b'.natAbs ∧ W = g * g * w0 ∧ 0 < w0 := by
  have h0 : ¬ (a = 0 ∧ b = 0) := fun ⟨z1, z2⟩ => by
    subst z1 z2
    simp at eW
    omega
  have hG := gcdI_pos h0
  obtain ⟨g, hg⟩ : ∃ g : Nat, gcdI a b = (g : Int) := ⟨a.natAbs.gcd b.natAbs, rfl⟩
  rw [hg] at hG
  obtain ⟨a', ea⟩ := hg ▸ gcdI_dvd_left a b
  obtain ⟨b', eb⟩ := hg ▸ gcdI_dvd_right a b
  refine ⟨g, a', b', _, hg, by omega, ea, eb, rfl, ?_, ?_⟩
  · rw [eW, ea, eb, Int.natAbs_mul, Int.natAbs_mul, Int.natAbs_natCast]
    grind
  · rcases Nat.eq_zero_or_pos (a'.natAbs * a'.natAbs + b'.natAbs * b'.natAbs) with z | z
    · exfalso
      have e1 : W = g * g * (a'.natAbs * a'.natAbs + b'.natAbs * b'.natAbs) := by
        rw [eW, ea, eb, Int.natAbs_mul, Int.natAbs_mul, Int.natAbs_natCast]
        grind
      rw [z, Nat.mul_zero] at e1
      omega
    · exact z
theorem Sz.over {x0 y0 : Rat} {N S R : Nat} {p q : Pl} {w g : Rat} {g1 g2 : Nat} (hN : 0 < N) (hS : 0 < S) (hp : Sz x0 y0 N S R p) (hq : Sz x0 y0 N S R q) (hw : w = (q.x - p.x) * (q.x - p.x) + (q.y - p.y) * (q.y - p.y)) (w0 : 0 < w) (hg : g * (g2 : Rat) = (g1 : Rat)) (h1 : g1 ≤ 12) (h2 : 1 ≤ g2) :
    OvR x0 y0 N S R p q w g g2 := by
  obtain ⟨a, b, W, I, lam, Z, O⟩ := ovN hN hp hq hw w0 hg h1 h2
  obtain ⟨m1, n1, A1, a1, a2, a3, a4, a5, a6, a7⟩ := hp.ex
  obtain ⟨m2, n2, A2, b1, b2, b3, b4, b5, b6, b7⟩ := hq.ex
  have hN0 := natR0 hN
  have rp := O.rp
  have rne : overR w g ≠ 0 := fun z => by rw [z] at rp; exact absurd rp (by decide)
  have g20 : 0 < g2 := h2
  have hhalf := divInt_half
  -- the middle
  have mid : ∀ {x u x0 : Rat} {m m' : Int}, x * (N : Rat) = x0 * (N : Rat) + (m : Rat) → u * (N : Rat) = x0 * (N : Rat) + (m' : Rat) → Rat.divInt 1 2 * (x + u) * ((N * 2 : Nat) : Rat) = x0 * ((N * 2 : Nat) : Rat) + ((m + m' : Int) : Rat) := fun h h' => by push_cast; grind
  have sum2 : ∀ {m m' : Int}, m.natAbs ≤ R * N → m'.natAbs ≤ R * N → (m + m').natAbs ≤ 2 * (R * N) := fun h h' => by omega
  have eWba : W = (-b).natAbs * (-b).natAbs + a.natAbs * a.natAbs := by
    rw [Int.natAbs_neg, Nat.add_comm]
    exact O.eW
  obtain ⟨G, b', a', w1, hG, G0, eb', ea', ew1, eWG, w10⟩ := gcdI_sq eWba O.W0
  have w1le : w1 ≤ W := by rw [eWG]; exact Nat.le_mul_of_pos_left _ (Nat.mul_pos G0 G0)
  have eu : -(q.y - p.y) * (N : Rat) = ((-b : Int) : Rat) := by push_cast; have := O.eb; grind
  have ev : (q.x - p.x) * (N : Rat) = (a : Rat) := O.ea
  have huv : ¬ (-(q.y - p.y) = 0 ∧ q.x - p.x = 0) := fun ⟨z1, z2⟩ => by
    rw [z1] at eu
    rw [z2] at ev
    have y1 : (-b : Int) = 0 := Rat.intCast_eq_zero_iff.mp (by grind)
    have y2 : a = 0 := Rat.intCast_eq_zero_iff.mp (by grind)
    have := O.W0
    rw [eWba, y1, y2] at this
    simp at this
  have laml : lam ≤ (3 * R + 25) * g2 := O.lamle
  have Zle : Z ≤ lam * lam * (N * N) := by have := O.eZ; omega
  constructor
  cases hk : rootQ (overR w g) with
  | some k =>
    obtain ⟨k0, kk⟩ := rootQ_some (Rat.le_of_lt rp) hk
    -- G times twice g2 times the root
    obtain ⟨κ, eκ⟩ : ∃ κ : Rat, κ = k * (G : Rat) * ((2 * g2 : Nat) : Rat) := ⟨_, rfl⟩
    have hκ : κ * κ * (w1 : Rat) = (Z : Rat) := by
      have e1 := O.er
      have e2 : (W : Rat) = (G : Rat) * G * w1 := by exact_mod_cast eWG
      push_cast at e1
      rw [eκ]
      push_cast
      grind
    have hQ := den_sq hκ
    have Qle : κ.den * κ.den ≤ W := Nat.le_trans (Nat.le_of_dvd w10 hQ) w1le
    have Q0 := κ.den_pos
    have hnum := num_eq κ
    have nb : ∀ {z : Int}, z.natAbs * z.natAbs ≤ w1 → (z * κ.num).natAbs ≤ lam * N * κ.den := fun {z} hz => by
      refine sq_le_of ?_
      have e1 : κ.num.natAbs * κ.num.natAbs * w1 = Z * (κ.den * κ.den) := by
        have h1 : (κ.num * κ.num) * (w1 : Int) = (Z : Int) * ((κ.den : Int) * κ.den) := int_eq (by
          push_cast at *
          grind)
        have h2 := congrArg Int.natAbs h1
        rw [Int.natAbs_mul, Int.natAbs_mul, Int.natAbs_mul, Int.natAbs_mul, Int.natAbs_natCast, Int.natAbs_natCast, Int.natAbs_natCast] at h2
        exact h2
      rw [Int.natAbs_mul]
      have e2 : z.natAbs * κ.num.natAbs * (z.natAbs * κ.num.natAbs) ≤ w1 * (κ.num.natAbs * κ.num.natAbs) := by
        have := Nat.mul_le_mul_right (κ.num.natAbs * κ.num.natAbs) hz
        refine Nat.le_trans (Nat.le_of_eq ?_) this
        grind
      have e3 : Z * (κ.den * κ.den) ≤ lam * lam * (N * N) * (κ.den * κ.den) := Nat.mul_le_mul_right _ Zle
      have e4 : lam * N * κ.den * (lam * N * κ.den) = lam * lam * (N * N) * (κ.den * κ.den) := by grind
      have e5 : w1 * (κ.num.natAbs * κ.num.natAbs) = κ.num.natAbs * κ.num.natAbs * w1 := Nat.mul_comm _ _
      omega
    have bound : ∀ {m m' z : Int}, m.natAbs ≤ R * N → m'.natAbs ≤ R * N → z.natAbs * z.natAbs ≤ w1 → ((m + m') * ((g2 * κ.den : Nat) : Int) + z * κ.num).natAbs ≤ (3 * R + 13) * (N * (2 * g2 * κ.den)) := fun {m m' z} hm hm' hz => by
      refine Nat.le_trans (Int.natAbs_add_le _ _) ?_
      have e1 := nb hz
      rw [Int.natAbs_mul, Int.natAbs_natCast]
      have e2 := Nat.mul_le_mul_right (g2 * κ.den) (sum2 hm hm')
      have e3 : lam * N * κ.den ≤ (3 * R + 25) * g2 * N * κ.den := Nat.mul_le_mul_right _ (Nat.mul_le_mul_right _ laml)
      have e4 : (3 * R + 13) * (N * (2 * g2 * κ.den)) = 2 * (R * N) * (g2 * κ.den) + (4 * R + 26) * g2 * N * κ.den := by grind
      have e5 : (4 * R + 26) * g2 * N * κ.den = (3 * R + 25) * g2 * N * κ.den + (R + 1) * g2 * N * κ.den := by grind
      omega
    have eo : overQ p.x p.y q.x q.y w g = ⟨Rat.divInt 1 2 * (p.x + q.x) + -(q.y - p.y) * k, Rat.divInt 1 2 * (p.y + q.y) + (q.x - p.x) * k, 0, 0, 0⟩ := by
      unfold overQ formQ
      rw [if_neg (fun h => h.elim rne huv), hk]
    rw [eo]
    have zb : b'.natAbs * b'.natAbs ≤ w1 := by omega
    have za : a'.natAbs * a'.natAbs ≤ w1 := by omega
    have ebR : ((-b : Int) : Rat) = (G : Rat) * (b' : Rat) := by
      rw [eb', Rat.intCast_mul, Rat.intCast_natCast]
    have eaR : (a : Rat) = (G : Rat) * (a' : Rat) := by
      rw [ea', Rat.intCast_mul, Rat.intCast_natCast]
    have mx := mid a1 b1
    have my := mid a2 b2
    refine ⟨2 * g2 * κ.den, 1, Nat.mul_pos (Nat.mul_pos (by decide) g20) Q0, by decide, ?_, ⟨Nat.dvd_refl _, .inl ⟨κ.den, W, rfl, Qle, O.Wle, rfl⟩⟩⟩
    rw [Nat.mul_one]
    refine Sz.pt (m := (m1 + m2) * ((g2 * κ.den : Nat) : Int) + b' * κ.num) (n := (n1 + n2) * ((g2 * κ.den : Nat) : Int) + a' * κ.num) ?_ ?_ (bound a4 b4 zb) (bound a5 b5 za)
    · push_cast at *
      grind
    · push_cast at *
      grind
  | none =>
    obtain ⟨f1, f2, f3, f4⟩ := form_int (x := -b) (y := a) (D := (N : Int)) (by omega) (by rw [Rat.intCast_natCast]; exact eu) (by rw [Rat.intCast_natCast]; exact ev) huv
    rw [hG] at f1 f2 f3
    rw [Rat.intCast_natCast] at f3
    have eo : overQ p.x p.y q.x q.y w g = ⟨Rat.divInt 1 2 * (p.x + q.x), Rat.divInt 1 2 * (p.y + q.y), (fL (-(q.y - p.y)) (q.x - p.x)).fdiv (fG (-(q.y - p.y)) (q.x - p.x)), (fM (-(q.y - p.y)) (q.x - p.x)).fdiv (fG (-(q.y - p.y)) (q.x - p.x)), overR w g * (fF (-(q.y - p.y)) (q.x - p.x) * fF (-(q.y - p.y)) (q.x - p.x))⟩ := by
      unfold overQ
      exact formQ_none huv rne hk
    rw [eo]
    generalize fF (-(q.y - p.y)) (q.x - p.x) = F at f3
    have G0' : ((G : Nat) : Int) ≠ 0 := by omega
    have c1 : (fL (-(q.y - p.y)) (q.x - p.x)).fdiv (fG (-(q.y - p.y)) (q.x - p.x)) = b' := mul_cancelI G0' (by rw [f1, eb', Int.mul_comm])
    have c2 : (fM (-(q.y - p.y)) (q.x - p.x)).fdiv (fG (-(q.y - p.y)) (q.x - p.x)) = a' := mul_cancelI G0' (by rw [f2, ea', Int.mul_comm])
    rw [c1, c2]
    have f3' : F * (N : Rat) = (G : Rat) := by rw [f3]; exact Rat.intCast_natCast G
    have e4 : 0 < 4 * (g2 * g2) * w1 * (N * N) := Nat.mul_pos (Nat.mul_pos (Nat.mul_pos (by decide) (Nat.mul_pos g20 g20)) w10) (Nat.mul_pos hN hN)
    have bnd : ∀ {z : Int}, z.natAbs * z.natAbs ≤ w1 → S * Z * (z.natAbs * z.natAbs) ≤ (3 * R + 13) * (3 * R + 13) * (S * (4 * (g2 * g2) * w1 * (N * N))) := fun {z} hz => by
      have k1 : Z * (z.natAbs * z.natAbs) ≤ lam * lam * (N * N) * w1 := Nat.mul_le_mul Zle hz
      have k2 : lam * lam * (N * N) * w1 ≤ (3 * R + 25) * g2 * ((3 * R + 25) * g2) * (N * N) * w1 := Nat.mul_le_mul_right _ (Nat.mul_le_mul_right _ (Nat.mul_le_mul laml laml))
      have k3 : (3 * R + 25) * (3 * R + 25) ≤ (2 * (3 * R + 13)) * (2 * (3 * R + 13)) := Nat.mul_le_mul (by omega) (by omega)
      have k4 : (3 * R + 25) * (3 * R + 25) * (g2 * g2 * (N * N) * w1) ≤ (2 * (3 * R + 13)) * (2 * (3 * R + 13)) * (g2 * g2 * (N * N) * w1) := Nat.mul_le_mul_right _ k3
      have k5 : (3 * R + 25) * g2 * ((3 * R + 25) * g2) * (N * N) * w1 = (3 * R + 25) * (3 * R + 25) * (g2 * g2 * (N * N) * w1) := by grind
      have k6 : (2 * (3 * R + 13)) * (2 * (3 * R + 13)) * (g2 * g2 * (N * N) * w1) = (3 * R + 13) * (3 * R + 13) * (4 * (g2 * g2) * w1 * (N * N)) := by grind
      have k7 : Z * (z.natAbs * z.natAbs) ≤ (3 * R + 13) * (3 * R + 13) * (4 * (g2 * g2) * w1 * (N * N)) := by omega
      have k8 := Nat.mul_le_mul_left S k7
      have k9 : S * Z * (z.natAbs * z.natAbs) = S * (Z * (z.natAbs * z.natAbs)) := Nat.mul_assoc _ _ _
      have k10 : (3 * R + 13) * (3 * R + 13) * (S * (4 * (g2 * g2) * w1 * (N * N))) = S * ((3 * R + 13) * (3 * R + 13) * (4 * (g2 * g2) * w1 * (N * N))) := by grind
      omega
    have pb : ∀ {m m' : Int}, m.natAbs ≤ R * N → m'.natAbs ≤ R * N → (m + m').natAbs ≤ (3 * R + 13) * (N * 2) := fun h h' => by
      have k := sum2 h h'
      have k2 : (3 * R + 13) * (N * 2) = 2 * (R * N) + (4 * R + 26) * N := by grind
      rw [k2]
      exact Nat.le_trans k (Nat.le_add_right _ _)
    refine ⟨2, 4 * (g2 * g2) * w1 * (N * N), by decide, e4, ⟨m1 + m2, n1 + n2, S * Z, mid a1 b1, mid a2 b2, ?_, pb a4 b4, pb a5 b5, bnd (z := b') (by omega), bnd (z := a') (by omega)⟩, ⟨Nat.dvd_refl _, .inr ⟨w1, rfl, rfl, Nat.le_trans w1le O.Wle⟩⟩⟩
    have e1 := O.er
    have e2 : (W : Rat) = (G : Rat) * G * w1 := by exact_mod_cast eWG
    show overR w g * (F * F) * ((S * (4 * (g2 * g2) * w1 * (N * N)) : Nat) : Rat) = ((S * Z : Nat) : Rat)
    push_cast at *
    grind
end K31
end
section
set_option maxHeartbeats 4000000
set_option autoImplicit false
/-! The walk: what is drawn. -/
namespace K31
open PySem PySem.Spec PyProof.Rows L2
section
variable {X : Cx} {ρ ρ' : Rho} {a b : Expr} {pos : Pos} {m : Mu} {S : D → Mu → Prop}
theorem dmulS {i j : Int} (ha : DE X a ρ (.int i)) (hb : DE X b ρ (.int j)) (hc : CMul i j) : DE X (.BinOp a .Mult b pos) ρ (.int (i * j)) := .bin op_mul ha hb fun x y W hx hy Q q => ⟨i, j, hx, hy, hc, q _ W (Le.refl W) rfl⟩
theorem em_intM {p : Pos} (hm : X.mg "int" = none) (h : EM X a ρ m fun d1 m1 => ∃ i, d1 = .int i ∧ S (.int i) m1) (hg : Gl X "int" := by rfl) (hs : starEach [a] X.env = (false, eval a X.env) :: starEach [] X.env := by rfl) : EM X (.Call (.Name "int" p) [a] [] pos) ρ m S := fun σ W E M Q q pins s I =>
  (pe_callTy call_int1 hg hm boot_int (pa_cons (peW a) pa_nil hs) (he := hs)).run pins s σ W.h Q I (h σ W E M _ fun d1 m1 v W1 ⟨i, e, hS⟩ le M1 r1 => .inl ⟨i, by rw [e] at r1; rw [r1], q _ m1 _ W1 hS le M1 rfl⟩)
theorem em_lenL {p : Pos} (hm : X.mg "len" = none) (h : EM X a ρ m fun d1 m1 => ∃ n : Nat, d1.len = some n ∧ S (.int n) m1) (hg : Gl X "len" := by rfl) (hs : starEach [a] X.env = (false, eval a X.env) :: starEach [] X.env := by rfl) : EM X (.Call (.Name "len" p) [a] [] pos) ρ m S := fun σ W E M Q q pins s I =>
  (pe_callB call_len hg hm boot_len (pa_cons (peW a) pa_nil hs) (he := hs)).run pins s σ W.h Q I (h σ W E M _ fun d1 m1 v W1 ⟨n, e, hS⟩ le M1 r1 => by
    cases d1 with
    | lst ds =>
      cases e
      obtain ⟨p, xs, rfl, h2, h3⟩ := r1
      exact ⟨_, _, rfl, .inl ⟨xs, Wd.seq h2, h3.length.symm⟩, q _ m1 _ W1 hS le M1 rfl⟩
    | tup ds =>
      cases e
      obtain ⟨p, xs, rfl, h2, h3⟩ := r1
      exact ⟨_, _, rfl, .inr ⟨xs, Wd.sqT h2, h3.length.symm⟩, q _ m1 _ W1 hS le M1 rfl⟩
    | _ => cases e)
theorem em_modM (h : EM X a ρ m fun d1 m1 => EM X b ρ m1 fun d2 m2 => ∃ i j, d1 = .int i ∧ d2 = .int j ∧ j ≠ 0 ∧ S (.int (i.fmod j)) m2) : EM X (.BinOp a .Mod b pos) ρ m S :=
  .bin op_modN (h.imp fun d1 m1 h2 => h2.imp fun d2 m2 ⟨i, j, e1, e2, hj, hS⟩ => ⟨.int (i.fmod j), fun x y W hx hy Q q => ⟨i, j, by rw [e1] at hx; exact hx, by rw [e2] at hy; exact hy, hj, q _ W (Le.refl W) rfl⟩, hS⟩)
theorem Good.lstI (cs : List Int) : Good (.lst (cs.map D.int)) 9 := GoodL.of fun d hd => by
  obtain ⟨i, _, rfl⟩ := List.mem_map.mp hd
  trivial
end
/-- the prow at a -/
def PR (cs : List Int) (t l : Int) : MO := .lst [.lst (cs.map D.int), .int t, .int l]
def capT : Int := 1000000
theorem small64 {i : Int} (h1 : -(10 ^ 18) ≤ i) (h2 : i ≤ 10 ^ 18) : i.natAbs < 2 ^ 64 := by
  have : (10 : Int) ^ 18 = 1000000000000000000 := by decide
  have : (2 : Nat) ^ 64 = 18446744073709551616 := by decide
  omega
theorem cmulL {i j : Int} (h1 : -(10 ^ 18) ≤ i) (h2 : i ≤ 10 ^ 18) : CMul i j := .inl (by
  have : (10 : Int) ^ 18 = 1000000000000000000 := by decide
  have : (2 : Int) ^ 64 = 18446744073709551616 := by decide
  constructor <;> omega)
theorem fmod_in {a n : Int} (h : 0 < n) : 0 ≤ a.fmod n ∧ a.fmod n < n := by
  rw [Int.fmod_eq_emod_of_nonneg _ (by omega)]
  exact ⟨Int.emod_nonneg _ (by omega), Int.emod_lt_of_pos _ h⟩
/-- what a draw leaves: below n, the cells as they were, at most one turn more -/
def drawn (a : Addr) (cs : List Int) (t : Int) (post : Mu) (n : Int) (c : Int) (S : D → Mu → Prop) : Prop := ∀ (k : Nat) (t' l' : Int), (k : Int) < n → 0 ≤ t' → t' ≤ t + c → S (.int k) ((a, PR cs t' l') :: post)
def F__law_mast (ds : List D) (m : Mu) (S : D → Mu → Prop) : Prop := ∃ (a : Addr) (cs : List Int) (t l n : Int) (post : Mu), ds = [.fn a, .int n] ∧ m = (a, PR cs t l) :: post ∧ 0 < n ∧ n ≤ 1000000 ∧ 0 ≤ t ∧ t < capT ∧ drawn a cs t post n 1 S
section
variable {P : Program} {w : World} {K : PySem.W.Frag} {mg : Str → Option Value} {base : Heap}
theorem small_div {n : Int} (h : 0 < n) (h2 : n ≤ 1000000) (i : Int) : CDivG i n := divG (by omega) (by
  have : n.natAbs < 2 ^ 20 := by
    have : (2 : Nat) ^ 20 = 1048576 := by decide
    omega
  exact Lt2.up (n := 20) this (by decide))
abbrev N__law_mast : List Str := ["_law_prow_here", "_law_many", "_law_left", "_law_turn", "_law_cell", "_law_mixed"]
theorem sc__law_mast : FnScope N__law_mast ["_law_prow_here", "_law_many"] (defScope s__law_mast) := ⟨rfl, rfl, rfl, by decide +kernel, rfl, by decide +kernel, by decide +kernel⟩
theorem okM__law_mast (T : TB K mg) : OkM P w K mg base 1 "_law_mast" 2 F__law_mast := by
  obtain ⟨fd, F⟩ := T.f__law_mast
  refine okM_of (N := N__law_mast) (ps := ["_law_prow_here", "_law_many"]) F T.g__law_mast sc__law_mast rfl (fun _ _ _ _ _ _ us hl => match us, hl with | [_, _], _ => rfl) fun cdv A outer s H ds m S E hr hl hF => ?_
  obtain ⟨a, cs, t, l, n, post, rfl, rfl, hn, hn2, ht0, ht, hS⟩ := hF
  have hu := hr.units
  have h18 : (10 : Int) ^ (18 : Int).toNat = 1000000000000000000 := by decide
  unfold capT at ht
  -- what is left is used
  refine bm1 (sm_if (.cmp (em_ixM (dv 0 rfl) dint (List.mem_cons_self ..) rfl (em dint ⟨_, cgt, fun hz => ?_, fun hz => ?_⟩))))
  · refine bm1 (sm_set (i := 2) sc__law_mast.nd rfl (em_intM T.b_int (em_ixM (dv 0 rfl) dint (List.mem_cons_self ..) rfl ⟨l, rfl, ?_⟩)))
    refine bm1 (sm_setIx (p := a) (dv 0 rfl) dint (em (dfdiv (dv 2 rfl) (dv 1 rfl) (small_div hn hn2 _)) ⟨[], post, _, 2, rfl, rfl, ?_⟩))
    obtain ⟨g1, g2⟩ := fmod_in (a := l) hn
    refine bm1 (sm_ret (em (DE.is (dmod (dintI T.b_int (dv 2 rfl)) (dv 1 rfl) (by omega)) (d2 := .int ((l.fmod n).toNat : Nat)) (congrArg D.int (by omega))) ?_))
    exact hS _ t (l.fdiv n) (by omega) ht0 (by omega)
  refine bm0 ?_
  refine bm1 (sm_set (i := 3) sc__law_mast.nd rfl (em_ixM (dv 0 rfl) dint (List.mem_cons_self ..) rfl ?_))
  refine bm1 (sm_setIx (p := a) (dv 0 rfl) dint (em (dadd (dv 3 rfl) dint) ⟨[], post, _, 1, rfl, rfl, ?_⟩))
  show BM _ _ _ ((a, PR cs (t + 1) l) :: post) S _
  refine bm1 (sm_set (i := 4) sc__law_mast.nd rfl (em (dadd (dmulS dint (dv 3 rfl) (cmulL (by decide) (by decide))) dint) ?_))
  -- the cell
  have cell : ∀ c : Int, BM (cxOf CX0 P w K mg base N__law_mast "_law_mast" (defScope s__law_mast) (He.ga K "_law_mast") cdv A outer s H E).nox ((defBody s__law_mast).drop 5) [some (.fn a), some (.int n), none, some (.int t), some (.int c), none] ((a, PR cs (t + 1) l) :: post) S fun _ m' => S .non m' := by
    intro c
    have tail : BM (cxOf CX0 P w K mg base N__law_mast "_law_mast" (defScope s__law_mast) (He.ga K "_law_mast") cdv A outer s H E).nox ((defBody s__law_mast).drop 6) [some (.fn a), some (.int n), none, some (.int t), some (.int c), none] ((a, PR cs (t + 1) l) :: post) S fun _ m' => S .non m' := by
      obtain ⟨g1, g2⟩ := fmod_in (a := c) (n := 2147483497) (by decide)
      have p1 : CPow (c.fmod 2147483497 + 116117 * t + 9435) 5 := ⟨by decide, by decide, small64 (by omega) (by omega)⟩
      obtain ⟨g3, g4⟩ := fmod_in (a := (c.fmod 2147483497 + 116117 * t + 9435) ^ (5 : Int).toNat) (n := 2147483579) (by decide)
      refine bm1 (sm_set (i := 5) sc__law_mast.nd rfl (em (dmod (dintI T.b_int (dpow (dadd (dadd (dmod (dintI T.b_int (dv 4 rfl)) dint (by decide)) (dmulS dint (dv 3 rfl) (cmulL (by decide) (by decide)))) dint) dint p1)) dint (by decide)) ?_))
      generalize ((c.fmod 2147483497 + 116117 * t + 9435) ^ (5 : Int).toNat).fmod 2147483579 = x at g3 g4 ⊢
      have b1 : 0 ≤ x * (2 * t + 6163) ∧ x * (2 * t + 6163) ≤ 2147483579 * 2006163 := ⟨Int.mul_nonneg g3 (by omega), Int.mul_le_mul (by omega) (by omega) (by omega) (by decide)⟩
      have b2 : 0 ≤ 117753 * t * t ∧ 117753 * t * t ≤ 117753000000 * 1000000 := ⟨Int.mul_nonneg (by omega) (by omega), Int.mul_le_mul (by omega) (by omega) (by omega) (by decide)⟩
      have p2 : CPow (x * (2 * t + 6163) + 117753 * t * t + 9435) 3 := ⟨by decide, by decide, small64 (by omega) (by omega)⟩
      refine bm1 (sm_set (i := 5) sc__law_mast.nd rfl (em (dmod (dintI T.b_int (dpow (dadd (dadd (dmulS (dv 5 rfl) (dadd (dmulS dint (dv 3 rfl) (cmulL (by decide) (by decide))) dint) (cmulL (by omega) (by omega))) (dmulS (dmulS dint (dv 3 rfl) (cmulL (by decide) (by decide))) (dv 3 rfl) (cmulL (by omega) (by omega)))) dint) dint p2)) dint (by decide)) ?_))
      generalize ((x * (2 * t + 6163) + 117753 * t * t + 9435) ^ (3 : Int).toNat).fmod 2147483629 = y
      obtain ⟨g5, g6⟩ := fmod_in (a := y.fdiv 64) hn
      refine bm1 (sm_ret (em (DE.is (dmod (dintI T.b_int (dfdiv (dv 5 rfl) dint (small_div (by decide) (by decide) _))) (dv 1 rfl) (by omega)) (d2 := .int (((y.fdiv 64).fmod n).toNat : Nat)) (congrArg D.int (by omega))) ?_))
      exact hS _ (t + 1) l (by omega) (by omega) (by omega)
    refine bm1 (sm_if (tm_w (wm_and (.cmp (em (dv 3 rfl) (em_lenL T.b_len (em_ixM (dv 0 rfl) dint (List.mem_cons_self ..) rfl ⟨_, rfl, _, clt, fun hz => ?_, fun hz => ⟨(nomatch ·), fun _ => bm0 tail⟩⟩)))))))
    refine wm_and1 (.cmp (em (dabs T.b_abs (dv 4 rfl)) (em (DE.is (dpow dint dint ⟨by decide, by decide, by decide⟩) (congrArg D.int h18)) ⟨_, cge, fun hz2 => ?_, fun hz2 => bm0 tail⟩)))
    refine bm1 (sm_set (i := 2) sc__law_mast.nd rfl (em (d := .int (2 * ((if c < 0 then -c else c) - 1000000000000000000) + (if decide (c < 0) then 1 else 0))) (dadd (dmulS dint (dsub (dabs T.b_abs (dintI T.b_int (dv 4 rfl))) (DE.is (dpow dint dint ⟨by decide, by decide, by decide⟩) (congrArg D.int h18))) (cmulL (by decide) (by decide))) (dintB T.b_int (de_cmp clt (dv 4 rfl) dint))) ?_))
    generalize (2 * ((if c < 0 then -c else c) - 1000000000000000000) + (if decide (c < 0) then 1 else 0) : Int) = z
    refine bm1 (sm_setIx (p := a) (dv 0 rfl) dint (em (dfdiv (dv 2 rfl) (dv 1 rfl) (small_div hn hn2 _)) ⟨[], post, _, 2, rfl, rfl, ?_⟩))
    obtain ⟨g1, g2⟩ := fmod_in (a := z) hn
    refine bm1 (sm_ret (em (DE.is (dmod (dintI T.b_int (dv 2 rfl)) (dv 1 rfl) (by omega)) (d2 := .int ((z.fmod n).toNat : Nat)) (congrArg D.int (by omega))) ?_))
    exact hS _ (t + 1) _ (by omega) (by omega) (by omega)
  refine bm1 (sm_if (.cmp (em_ixM (dv 0 rfl) dint (List.mem_cons_self ..) rfl (em (dlst danil) ⟨!decide (cs = []), cne hu (Good.lstI cs) trivial (by rw [decide_eq_true_iff]; exact ⟨fun h => by rw [h]; rfl, fun h => by injection h with h; exact List.map_eq_nil_iff.mp h⟩), fun hz => ?_, fun hz => bm0 (cell _)⟩))))
  have hc : 0 < cs.length := by
    cases cs with
    | nil => simp at hz
    | cons => simp
  obtain ⟨c, hcell⟩ : ∃ c : Int, atI (cs.map D.int) (t.fmod ((cs.map D.int).length : Int)) = some (.int c) := by
    rw [List.length_map]
    obtain ⟨g1, g2⟩ := fmod_in (a := t) (n := (cs.length : Int)) (by omega)
    have hk : (t.fmod (cs.length : Int)).toNat < cs.length := by omega
    refine ⟨cs[(t.fmod (cs.length : Int)).toNat], ?_⟩
    have := atI_nat (xs := cs.map D.int) (j := (t.fmod (cs.length : Int)).toNat) (d := .int cs[(t.fmod (cs.length : Int)).toNat]) (by rw [List.getElem?_map, List.getElem?_eq_getElem hk]; rfl)
    rw [show (((t.fmod (cs.length : Int)).toNat : Nat) : Int) = t.fmod (cs.length : Int) by omega] at this
    exact this
  refine bm1 (sm_set (i := 4) sc__law_mast.nd rfl (em_ix (em_ixM (dv 0 rfl) dint (List.mem_cons_self ..) rfl (em_modM (em (dintI T.b_int (dv 3 rfl)) (em_lenL T.b_len (em_ixM (dv 0 rfl) dint (List.mem_cons_self ..) rfl ⟨_, rfl, t, _, rfl, rfl, by rw [List.length_map]; omega, _, _, .int c, rfl, rfl, hcell, bm0 (cell _)⟩)))))))
theorem em_mast {X : Cx} {ρ : Rho} {e1 e2 : Expr} {pos p : Pos} {a : Addr} {cs : List Int} {t l n : Int} {post : Mu} {S : D → Mu → Prop} (F : OkM X.prog X.w X.K X.mg X.base 1 "_law_mast" 2 F__law_mast) (hr : Room 1 X.A) (ha : DE X e1 ρ (.fn a)) (hb : DE X e2 ρ (.int n)) (h1 : 0 < n) (h2 : n ≤ 1000000) (h3 : 0 ≤ t) (h4 : t < capT) (hS : drawn a cs t post n 1 S)
    (hg : Gl X "_law_mast" := by rfl) (he : starEach (e1 :: [e2]) X.env = (false, eval e1 X.env) :: starEach [e2] X.env := by rfl) (he2 : starEach [e2] X.env = (false, eval e2 X.env) :: starEach [] X.env := by rfl) (hpl : (backTo pos (starEach [e2] X.env)).any (·.1) = false := by rfl) :
    EM X (.Call (.Name "_law_mast" p) [e1, e2] [] pos) ρ ((a, PR cs t l) :: post) S := em_callM F hr (am1 (em ha (am1 (em hb (am0 ⟨rfl, a, cs, t, l, n, post, rfl, rfl, h1, h2, h3, h4, hS⟩)) he2)) he) hg (by decide) he hpl
/-- one of some -/
def F__law_pick (ds : List D) (m : Mu) (S : D → Mu → Prop) : Prop := ∃ (a : Addr) (cs : List Int) (t l : Int) (post : Mu) (es : List D), ds = [.fn a, .lst es] ∧ m = (a, PR cs t l) :: post ∧ 0 < es.length ∧ es.length ≤ 1000 ∧ 0 ≤ t ∧ t < capT ∧ (∀ (k : Nat) (t' l' : Int) (d : D), es[k]? = some d → 0 ≤ t' → t' ≤ t + 1 → S d ((a, PR cs t' l') :: post))
abbrev N__law_pick : List Str := ["_law_prow_here", "_law_some"]
theorem sc__law_pick : FnScope N__law_pick ["_law_prow_here", "_law_some"] (defScope s__law_pick) := ⟨rfl, rfl, rfl, by decide +kernel, rfl, by decide +kernel, by decide +kernel⟩
theorem okM__law_pick (T : TB K mg) : OkM P w K mg base 2 "_law_pick" 2 F__law_pick := by
  obtain ⟨fd, F⟩ := T.f__law_pick
  refine okM_of (N := N__law_pick) (ps := ["_law_prow_here", "_law_some"]) F T.g__law_pick sc__law_pick rfl (fun _ _ _ _ _ _ us hl => match us, hl with | [_, _], _ => rfl) fun cdv A outer s H ds m S E hr hl hF => ?_
  obtain ⟨a, cs, t, l, post, es, rfl, rfl, hn, hn2, ht0, ht, hS⟩ := hF
  refine bm1 (sm_ret (em_ix (em (dv 1 rfl) (em_callM (okM__law_mast T) (hr.mono (by decide)) (am1 (em (dv 0 rfl) (am1 (em (dlen T.b_len (dv 1 rfl) rfl) (am0 ⟨rfl, a, cs, t, l, (es.length : Int), post, rfl, rfl, by omega, by omega, ht0, ht, ?_⟩)))))))))
  intro k t' l' hk h0 h1
  have hk' : k < es.length := by omega
  exact ⟨es, k, es[k], rfl, rfl, atI_nat (List.getElem?_eq_getElem hk'), hS k t' l' _ (List.getElem?_eq_getElem hk') h0 h1⟩
/-- a small number: an integer from -6 to 6 over one to 7; or a great one -/
def smallQ (q : Rat) : Prop := ∃ x y : Int, q = Rat.divInt x y ∧ 0 < y ∧ ((-6 ≤ x ∧ x ≤ 6 ∧ y ≤ 7) ∨ (0 ≤ x ∧ x ≤ 10 ^ 12 + 10 ^ 6 ∧ y ≤ 10 ^ 4))
def F__law_small (ds : List D) (m : Mu) (S : D → Mu → Prop) : Prop := ∃ (a : Addr) (cs : List Int) (t l : Int) (post : Mu), ds = [.fn a] ∧ m = (a, PR cs t l) :: post ∧ 0 ≤ t ∧ t + 4 < capT ∧ (∀ (q : Rat) (t' l' : Int), smallQ q → 0 ≤ t' → t' ≤ t + 4 → S (numD q) ((a, PR cs t' l') :: post))
theorem lt2I {y : Int} (h0 : 0 < y) (h : y ≤ 1000000) : Lt2 y.natAbs bD := by
  have : y.natAbs < 2 ^ 20 := by
    have : (2 : Nat) ^ 20 = 1048576 := by decide
    omega
  exact Lt2.up (n := 20) this (by decide)
abbrev N__law_small : List Str := ["_law_prow_here", "_law_way_here"]
theorem sc__law_small : FnScope N__law_small ["_law_prow_here"] (defScope s__law_small) := ⟨rfl, rfl, rfl, by decide +kernel, rfl, by decide +kernel, by decide +kernel⟩
theorem okM__law_small (T : TB K mg) : OkM P w K mg base 3 "_law_small" 1 F__law_small := by
  obtain ⟨fd, F⟩ := T.f__law_small
  refine okM_of (N := N__law_small) (ps := ["_law_prow_here"]) F T.g__law_small sc__law_small rfl (fun _ _ _ _ _ _ us hl => match us, hl with | [_], _ => rfl) fun cdv A outer s H ds m S E hr hl hF => ?_
  obtain ⟨a, cs, t, l, post, rfl, rfl, ht0, ht, hS⟩ := hF
  have hu := hr.units
  have hr1 : Room 1 _ := hr.mono (by decide)
  unfold capT at ht
  have e4 : (10 : Int) ^ (4 : Int).toNat = 10000 := by decide
  have e6 : (10 : Int) ^ (6 : Int).toNat = 1000000 := by decide
  have e12 : (10 : Int) ^ (12 : Int).toNat = 1000000000000 := by decide
  refine bm1 (sm_set (i := 1) sc__law_small.nd rfl (em_mast (okM__law_mast T) hr1 (dv 0 rfl) dint (by decide) (by decide) ht0 (by unfold capT; omega) ?_))
  intro k t1 l1 hk h0 h1
  refine bm1 (sm_if (tm (dt_cmp ceqI (dv 1 rfl) dint) ⟨fun hz => ?_, fun hz => bm0 ?_⟩))
  · refine bm1 (sm_ret (em_if (.cmp (em_mast (okM__law_mast T) hr1 (dv 0 rfl) dint (by decide) (by decide) h0 (by unfold capT; omega) ?_))))
    intro k2 t2 l2 hk2 h2 h3
    refine em dint ⟨_, ceqI, fun _ => ?_, fun _ => em dint ?_⟩
    · refine em_call (ok__law_lowest T) (hr.mono (by decide)) (am1 (em_add (em (DE.is (dpow dint dint ⟨by decide, by decide, by decide⟩) (congrArg D.int e12)) (em_mast (okM__law_mast T) hr1 (dv 0 rfl) (DE.is (dpow dint dint ⟨by decide, by decide, by decide⟩) (congrArg D.int e6)) (by decide) (by decide) h2 (by unfold capT; omega) ?_))))
      intro k3 t3 l3 hk3 h4 h5
      refine ⟨_, _, rfl, rfl, am1 (em_add (em dint (em_mast (okM__law_mast T) hr1 (dv 0 rfl) (DE.is (dpow dint dint ⟨by decide, by decide, by decide⟩) (congrArg D.int e4)) (by decide) (by decide) h4 (by unfold capT; omega) ?_)))⟩
      intro k4 t4 l4 hk4 h6 h7
      refine ⟨_, _, rfl, rfl, am0 ⟨_, rfl, ⟨_, _, rfl, by omega, lt2I (by omega) (by omega), rfl⟩, ?_⟩⟩
      exact hS _ t4 l4 ⟨_, _, rfl, by omega, .inr ⟨by omega, by omega, by omega⟩⟩ h6 (by omega)
    · have := hS 0 t2 l2 ⟨0, 1, by decide +kernel, by decide, .inl ⟨by decide, by decide, by decide⟩⟩ h2 (by omega)
      rw [numD_zero] at this
      exact this
  · refine bm1 (sm_ret (em_call (ok__law_lowest T) (hr.mono (by decide)) (am1 (em_sub (em_mast (okM__law_mast T) hr1 (dv 0 rfl) dint (by decide) (by decide) h0 (by unfold capT; omega) ?_)))))
    intro k2 t2 l2 hk2 h2 h3
    refine em dint ⟨_, _, rfl, rfl, am1 (em_if (tm (dt_cmp clt (dv 1 rfl) dint) ⟨fun _ => em dint (am0 ⟨_, rfl, ⟨_, _, rfl, by decide, lt2I (by decide) (by decide), rfl⟩, ?_⟩), fun _ => em_add (em dint (em_mast (okM__law_mast T) hr1 (dv 0 rfl) dint (by decide) (by decide) h2 (by unfold capT; omega) ?_))⟩))⟩
    · exact hS _ t2 l2 ⟨_, _, rfl, by decide, .inl ⟨by omega, by omega, by decide⟩⟩ h2 (by omega)
    · intro k3 t3 l3 hk3 h4 h5
      refine ⟨_, _, rfl, rfl, am0 ⟨_, rfl, ⟨_, _, rfl, by omega, lt2I (by omega) (by omega), rfl⟩, ?_⟩⟩
      exact hS _ t3 l3 ⟨_, _, rfl, by omega, .inl ⟨by omega, by omega, by omega⟩⟩ h4 (by omega)
end
end K31
end
section
set_option maxHeartbeats 2000000
set_option exponentiation.threshold 300
set_option autoImplicit false
/-! Plain: sizes in bits; lengths. -/
namespace K31
open PySem PySem.Spec PyProof.Rows
/-- all places on one lattice, within bounds -/
structure Lat (x0 y0 : Rat) (R B G : Nat) (ps : List Pl) : Prop where
  ex : ∃ N S : Nat, 0 < N ∧ 0 < S ∧ Lt2 (S * (N * N * (N * N))) B ∧ Lt2 S G ∧ ∀ p ∈ ps, Sz x0 y0 N S R p
theorem Lat.start (x0 y0 : Rat) : Lat x0 y0 0 1 1 [ptPl x0 y0] := ⟨1, 1, by decide, by decide, lt2l 1 (by decide) (by decide), lt2l 1 (by decide) (by decide), fun p hp => by
  rcases List.mem_cons.mp hp with rfl | h
  · exact Sz.pt (m := 0) (n := 0) (by push_cast; grind) (by push_cast; grind) (by decide) (by decide)
  · cases h⟩
theorem Sz.same {x0 y0 : Rat} {N S R c e R' : Nat} {ps : List Pl} (h : ∀ p ∈ ps, Sz x0 y0 N S R p) (hR : R ≤ R') {t : Pl} (ht : Sz x0 y0 (N * c) (S * e) R' t) : ∀ p ∈ ps ++ [t], Sz x0 y0 (N * c) (S * e) R' p := fun p hp => by
  rcases List.mem_append.mp hp with z | z
  · exact (h p z).up hR
  · rcases List.mem_cons.mp z with rfl | z
    · exact ht
    · cases z
theorem Lt2.mulS {x y k b : Nat} (h : Lt2 x b) (hy : y ≤ 2 ^ k) : Lt2 (x * y) (b + k) := by
  unfold Lt2 at *
  rw [Nat.pow_add]
  rcases Nat.eq_zero_or_pos y with z | z
  · rw [z, Nat.mul_zero]; exact Nat.mul_pos (Nat.two_pow_pos b) (Nat.two_pow_pos k)
  · exact Nat.lt_of_lt_of_le (Nat.mul_lt_mul_of_pos_right h z) (Nat.mul_le_mul_left _ hy)
theorem Lat.rod {x0 y0 g cx cy : Rat} {R B G R' B' G' g1 g2 d : Nat} {c1 c2 : Int} {ps : List Pl} {p : Pl} (h : Lat x0 y0 R B G ps) (hp : p ∈ ps) (hg : g * (g2 : Rat) = (g1 : Rat)) (hx : cx * (d : Rat) = (c1 : Rat)) (hy : cy * (d : Rat) = (c2 : Rat)) (hg1 : g1 ≤ 12) (hg2 : 1 ≤ g2) (hg4 : g2 ≤ 4) (hd : 1 ≤ d) (hd13 : d ≤ 13) (b1 : c1.natAbs ≤ d) (b2 : c2.natAbs ≤ d)
    (hR : R + 12 ≤ R') (hB : B + 23 ≤ B') (hG : G ≤ G') : Lat x0 y0 R' B' G' (ps ++ [⟨p.x + g * cx, p.y + g * cy, 0, 0, 0⟩]) := by
  obtain ⟨N, S, hN, hS, u, s, hz⟩ := h.ex
  have hc : 1 ≤ g2 * d := Nat.mul_pos hg2 hd
  have hc2 : g2 * d ≤ 52 := Nat.mul_le_mul hg4 hd13
  have k := Sz.rod (x := 0) (y := 0) (hz p hp) hg hx hy hg1 hg2 b1 b2
  refine ⟨N * (g2 * d), S * 1, Nat.mul_pos hN hc, by omega, ?_, by rw [Nat.mul_one]; exact s.up hG, Sz.same hz (by omega) (by rw [Nat.mul_one]; exact (by have := k.up (c := 1) (d := 1) hR; rw [Nat.mul_one, Nat.mul_one] at this; exact this))⟩
  have e1 : S * 1 * (N * (g2 * d) * (N * (g2 * d)) * (N * (g2 * d) * (N * (g2 * d)))) = S * (N * N * (N * N)) * (g2 * d * (g2 * d) * (g2 * d * (g2 * d))) := by grind
  have e2 : g2 * d * (g2 * d) * (g2 * d * (g2 * d)) ≤ 52 * 52 * (52 * 52) := Nat.mul_le_mul (Nat.mul_le_mul hc2 hc2) (Nat.mul_le_mul hc2 hc2)
  rw [e1]
  exact (u.mulS (k := 23) (Nat.le_trans e2 (by decide))).up (by omega)
theorem Lat.copy {x0 y0 : Rat} {R B G R' B' G' : Nat} {ps : List Pl} {p : Pl} (h : Lat x0 y0 R B G ps) (hp : p ∈ ps) (hR : R ≤ R') (hB : B ≤ B') (hG : G ≤ G') : Lat x0 y0 R' B' G' (ps ++ [p]) := by
  obtain ⟨N, S, hN, hS, u, s, hz⟩ := h.ex
  refine ⟨N, S, hN, hS, u.up hB, s.up hG, fun q hq => ?_⟩
  have hq' : q ∈ ps := by
    rcases List.mem_append.mp hq with z | z
    · exact z
    · rcases List.mem_cons.mp z with rfl | z
      · exact hp
      · cases z
  have := (hz q hq').up (c := 1) (d := 1) hR
  rw [Nat.mul_one, Nat.mul_one] at this
  exact this
theorem Lat.bead {x0 y0 s : Rat} {R B G R' B' G' d : Nat} {σ : Int} {ps : List Pl} {p q t : Pl} (h : Lat x0 y0 R B G ps) (hp : p ∈ ps) (hq : q ∈ ps) (op : PlOk p) (oq : PlOk q) (hd : 0 < d) (hd4 : d ≤ 4) (hs : s * (d : Rat) = (σ : Rat)) (he : ((d : Int) - σ).natAbs + σ.natAbs ≤ 3 * d) (hg : goneQ p q s = some t)
    (hR : 3 * R ≤ R') (hB : B + 12 ≤ B') (hG : G + 4 ≤ G') : Lat x0 y0 R' B' G' (ps ++ [t]) := by
  obtain ⟨N, S, hN, hS, u, s, hz⟩ := h.ex
  have k := Sz.bead hN hS (hz p hp) (hz q hq) op oq hd hs he hg
  have hdd : d * d ≤ 16 := Nat.mul_le_mul hd4 hd4
  refine ⟨N * d, S * (d * d), Nat.mul_pos hN hd, Nat.mul_pos hS (Nat.mul_pos hd hd), ?_, (s.mulS (k := 4) hdd).up hG, Sz.same hz (by omega) (by have := k.up (c := 1) (d := 1) hR; rw [Nat.mul_one, Nat.mul_one] at this; exact this)⟩
  have e1 : S * (d * d) * (N * d * (N * d) * (N * d * (N * d))) = S * (N * N * (N * N)) * (d * d * (d * d) * (d * d)) := by grind
  have e2 : d * d * (d * d) * (d * d) ≤ 16 * 16 * 16 := Nat.mul_le_mul (Nat.mul_le_mul hdd hdd) hdd
  rw [e1]
  exact (u.mulS (k := 12) (Nat.le_trans e2 (by decide))).up hB
theorem Lat.over {x0 y0 w g : Rat} {R B G R' B' G' g1 g2 ρ : Nat} {ps : List Pl} {p q : Pl} (h : Lat x0 y0 R B G ps) (hp : p ∈ ps) (hq : q ∈ ps) (hw : w = (q.x - p.x) * (q.x - p.x) + (q.y - p.y) * (q.y - p.y)) (w0 : 0 < w) (hg : g * (g2 : Rat) = (g1 : Rat)) (h1 : g1 ≤ 12) (h2 : 1 ≤ g2) (h4 : g2 ≤ 4)
    (hρ : R ≤ 2 ^ ρ) (hR : 3 * R + 13 ≤ R') (hB : 2 * B + 18 + 4 * ρ ≤ B') (hG : B + 9 + 2 * ρ ≤ G') : Lat x0 y0 R' B' G' (ps ++ [overQ p.x p.y q.x q.y w g]) := by
  obtain ⟨N, S, hN, hS, u, s, hz⟩ := h.ex
  obtain ⟨c, e, hc, he, k, _, kk⟩ := (Sz.over hN hS (hz p hp) (hz q hq) hw w0 hg h1 h2).sz
  have hRR : R * R ≤ 2 ^ (2 * ρ) := by rw [show 2 * ρ = ρ + ρ by omega, Nat.pow_add]; exact Nat.mul_le_mul hρ hρ
  have hgg : g2 * g2 ≤ 16 := Nat.mul_le_mul h4 h4
  have hU1 : S * (N * N * (N * N)) ≤ S * (N * N * (N * N)) * S := Nat.le_mul_of_pos_right _ hS
  have hb8 : ∀ {W : Nat}, W ≤ 8 * (R * R) * (N * N) → W ≤ 2 ^ (3 + 2 * ρ) * (N * N) := fun h => Nat.le_trans h (Nat.mul_le_mul_right _ (by rw [Nat.pow_add]; exact Nat.mul_le_mul_left _ hRR))
  have hSU : S ≤ S * (N * N * (N * N)) := Nat.le_mul_of_pos_right _ (Nat.mul_pos (Nat.mul_pos hN hN) (Nat.mul_pos hN hN))
  refine ⟨N * c, S * e, Nat.mul_pos hN hc, Nat.mul_pos hS he, ?_, ?_, Sz.same hz (by omega) (by have := k.up (c := 1) (d := 1) hR; rw [Nat.mul_one, Nat.mul_one] at this; exact this)⟩
  · have fin : S * e * (N * c * (N * c) * (N * c * (N * c))) ≤ S * (N * N * (N * N)) * (S * (N * N * (N * N))) * 2 ^ (18 + 4 * ρ) := by
      rcases kk with ⟨Q, W, rfl, hQ, hW, rfl⟩ | ⟨W, rfl, rfl, hW⟩
      · have hW' := hb8 hW
        have e1 : S * 1 * (N * (2 * g2 * Q) * (N * (2 * g2 * Q)) * (N * (2 * g2 * Q) * (N * (2 * g2 * Q)))) = S * (N * N * (N * N)) * (16 * (g2 * g2 * (g2 * g2)) * (Q * Q * (Q * Q))) := by grind
        have hQQ : Q * Q * (Q * Q) ≤ 2 ^ (3 + 2 * ρ) * (N * N) * (2 ^ (3 + 2 * ρ) * (N * N)) := Nat.mul_le_mul (Nat.le_trans hQ hW') (Nat.le_trans hQ hW')
        have e2 : 16 * (g2 * g2 * (g2 * g2)) * (Q * Q * (Q * Q)) ≤ 2 ^ 12 * (2 ^ (3 + 2 * ρ) * (N * N) * (2 ^ (3 + 2 * ρ) * (N * N))) := Nat.mul_le_mul (by
          have := Nat.mul_le_mul hgg hgg
          have h12 : (2 : Nat) ^ 12 = 4096 := by decide
          omega) hQQ
        have e3 : 2 ^ 12 * (2 ^ (3 + 2 * ρ) * (N * N) * (2 ^ (3 + 2 * ρ) * (N * N))) = N * N * (N * N) * 2 ^ (18 + 4 * ρ) := by
          rw [show 18 + 4 * ρ = 12 + ((3 + 2 * ρ) + (3 + 2 * ρ)) by omega, Nat.pow_add 2 12, Nat.pow_add 2 (3 + 2 * ρ)]
          generalize 2 ^ (3 + 2 * ρ) = t
          grind
        rw [e1]
        refine Nat.le_trans (Nat.mul_le_mul_left _ e2) ?_
        rw [e3]
        have e4 : S * (N * N * (N * N)) * (N * N * (N * N) * 2 ^ (18 + 4 * ρ)) ≤ S * (N * N * (N * N)) * (S * (N * N * (N * N)) * 2 ^ (18 + 4 * ρ)) := Nat.mul_le_mul_left _ (Nat.mul_le_mul_right _ (Nat.le_mul_of_pos_left _ hS))
        rw [Nat.mul_assoc (S * (N * N * (N * N)))]
        exact e4
      · have hW' := hb8 hW
        have e1 : S * (4 * (g2 * g2) * W * (N * N)) * (N * 2 * (N * 2) * (N * 2 * (N * 2))) = S * (N * N * (N * N)) * (64 * (g2 * g2) * (W * (N * N))) := by grind
        have e2 : 64 * (g2 * g2) * (W * (N * N)) ≤ 2 ^ 10 * (2 ^ (3 + 2 * ρ) * (N * N) * (N * N)) := Nat.mul_le_mul (by
          have h10 : (2 : Nat) ^ 10 = 1024 := by decide
          omega) (Nat.mul_le_mul_right _ hW')
        have e3 : 2 ^ 10 * (2 ^ (3 + 2 * ρ) * (N * N) * (N * N)) ≤ N * N * (N * N) * 2 ^ (18 + 4 * ρ) := by
          have : 2 ^ 10 * (2 ^ (3 + 2 * ρ) * (N * N) * (N * N)) = N * N * (N * N) * (2 ^ 10 * 2 ^ (3 + 2 * ρ)) := by
            generalize 2 ^ (3 + 2 * ρ) = t
            grind
          rw [this, ← Nat.pow_add]
          exact Nat.mul_le_mul_left _ (Nat.pow_le_pow_right (by decide) (by omega))
        rw [e1]
        refine Nat.le_trans (Nat.mul_le_mul_left _ (Nat.le_trans e2 e3)) ?_
        rw [Nat.mul_assoc (S * (N * N * (N * N)))]
        exact Nat.mul_le_mul_left _ (Nat.mul_le_mul_right _ (Nat.le_mul_of_pos_left _ hS))
    exact (((u.mul u).mulS (k := 18 + 4 * ρ) (Nat.le_refl _)).up (by omega)).le fin
  · rcases kk with ⟨Q, W, rfl, hQ, hW, rfl⟩ | ⟨W, rfl, rfl, hW⟩
    · rw [Nat.mul_one]
      exact (u.le hSU).up (by omega)
    · have hW' := hb8 hW
      have e1 : S * (4 * (g2 * g2) * W * (N * N)) ≤ S * (N * N * (N * N)) * 2 ^ (9 + 2 * ρ) := by
        have e2 : 4 * (g2 * g2) * (W * (N * N)) ≤ 2 ^ 6 * (2 ^ (3 + 2 * ρ) * (N * N) * (N * N)) := Nat.mul_le_mul (by
          have h6 : (2 : Nat) ^ 6 = 64 := by decide
          omega) (Nat.mul_le_mul_right _ hW')
        have e3 : 2 ^ 6 * (2 ^ (3 + 2 * ρ) * (N * N) * (N * N)) = N * N * (N * N) * 2 ^ (9 + 2 * ρ) := by
          rw [show 9 + 2 * ρ = 6 + (3 + 2 * ρ) by omega, Nat.pow_add 2 6]
          generalize 2 ^ (3 + 2 * ρ) = t
          grind
        rw [Nat.mul_assoc S, ← e3, Nat.mul_assoc (4 * (g2 * g2))]
        exact Nat.mul_le_mul_left _ e2
      exact ((u.mulS (k := 9 + 2 * ρ) (Nat.le_refl _)).up (by omega)).le e1
end K31
end
section
set_option maxHeartbeats 2000000
set_option exponentiation.threshold 300
set_option autoImplicit false
/-! Plain: from the lattice to sizes; lengths. -/
namespace K31
open PySem PySem.Spec PyProof.Rows
theorem bd_of {q : Rat} {C : Int} {D a b : Nat} (h : q * (D : Rat) = (C : Rat)) (hD : 0 < D) (hC : Lt2 C.natAbs a) (hb : Lt2 D b) : Bd a b q := by
  have e : q = Rat.divInt C D := by
    rw [Rat.divInt_eq_div, Rat.intCast_natCast]
    have := natR0 hD
    grind
  rw [e]
  exact .divInt (by omega) hC (by rw [Int.natAbs_natCast]; exact hb)
theorem sq_lt {x n : Nat} (h : Lt2 (x * x) (2 * n)) : Lt2 x n := by
  unfold Lt2 at *
  rcases Nat.lt_or_ge x (2 ^ n) with z | z
  · exact z
  · have := Nat.mul_le_mul z z
    rw [← Nat.pow_add, show n + n = 2 * n by omega] at this
    omega
/-- a lattice's width -/
theorem Lat.n2 {N S B b : Nat} (hS : 0 < S) (h : Lt2 (S * (N * N * (N * N))) B) (hb : B ≤ 2 * b) : Lt2 (N * N) b := sq_lt ((h.le (Nat.le_mul_of_pos_left _ hS)).up hb)
theorem small_parts {q : Rat} (h : smallQ q) : ∃ (c : Int) (e : Nat), q * (e : Rat) = (c : Rat) ∧ 0 < e ∧ e ≤ 10000 ∧ c.natAbs ≤ 1000001000000 := by
  obtain ⟨x, y, rfl, h0, h⟩ := h
  have e12 : (10 : Int) ^ 12 = 1000000000000 := by decide
  have e6 : (10 : Int) ^ 6 = 1000000 := by decide
  have e4 : (10 : Int) ^ 4 = 10000 := by decide
  refine ⟨x, y.toNat, ?_, by omega, by omega, by omega⟩
  have hy : ((y.toNat : Nat) : Int) = y := by omega
  have hy2 : ((y.toNat : Nat) : Rat) = (y : Rat) := by rw [← Rat.intCast_natCast, hy]
  rw [hy2, Rat.divInt_eq_div]
  have : (y : Rat) ≠ 0 := fun z => by
    have := Rat.intCast_eq_zero_iff.mp z
    omega
  grind
theorem Lat.coord {x0 x : Rat} {N R : Nat} {m : Int} (hx0 : smallQ x0) (h : x * (N : Rat) = x0 * (N : Rat) + (m : Rat)) (hm : m.natAbs ≤ R * N) (hR : R ≤ 5000) (hN : 0 < N) (hN2 : Lt2 N 550) : Bd 600 600 x := by
  obtain ⟨c, e, hc, he, he4, hc12⟩ := small_parts hx0
  have h1 : x * ((N * e : Nat) : Rat) = ((c * (N : Int) + m * (e : Int) : Int) : Rat) := by push_cast; grind
  refine bd_of h1 (Nat.mul_pos hN he) ?_ ((hN2.mulS (k := 14) (Nat.le_trans he4 (by decide))).up (by decide))
  have h2 : (c * (N : Int) + m * (e : Int)).natAbs ≤ N * 2 ^ 41 := by
    refine Nat.le_trans (Int.natAbs_add_le _ _) ?_
    rw [Int.natAbs_mul, Int.natAbs_mul, Int.natAbs_natCast, Int.natAbs_natCast]
    have k1 : c.natAbs * N ≤ 1000001000000 * N := Nat.mul_le_mul_right _ hc12
    have k2 : m.natAbs * e ≤ 5000 * N * 10000 := Nat.mul_le_mul (Nat.le_trans hm (Nat.mul_le_mul_right _ hR)) he4
    have k3 : (2 : Nat) ^ 41 = 2199023255552 := by decide
    omega
  exact ((hN2.mulS (k := 41) (Nat.le_refl _)).le h2).up (by decide)
theorem Lat.sz {x0 y0 : Rat} {R B G : Nat} {ps : List Pl} {p : Pl} (h : Lat x0 y0 R B G ps) (hx : smallQ x0) (hy : smallQ y0) (hR : R ≤ 5000) (hB : B ≤ 2100) (hG : G ≤ 1100) (hp : p ∈ ps) (ok : PlOk p) : PlSz p := by
  obtain ⟨N, S, hN, hS, u, s, hz⟩ := h.ex
  obtain ⟨m, n, A, h1, h2, h3, h4, h5, h6, h7⟩ := (hz p hp).ex
  have n2 : Lt2 (N * N) 1050 := Lat.n2 hS u (by omega)
  have n1 : Lt2 N 525 := sq_lt n2
  have hRR : R * R ≤ 2 ^ 25 := by
    have := Nat.mul_le_mul hR hR
    have h25 : (2 : Nat) ^ 25 = 33554432 := by decide
    omega
  have hs : Lt2 S 1100 := s.up hG
  have hRS : Lt2 (R * R * S) 1125 := by
    rw [Nat.mul_comm]
    exact (hs.mulS (k := 25) hRR).up (by decide)
  have zero : p.r = 0 → Lt2 p.a.natAbs 900 ∧ Lt2 p.b.natAbs 900 ∧ Bd 1760 1760 p.r := fun z => by
    obtain ⟨z1, z2⟩ := ok.zero z
    rw [z1, z2, z]
    exact ⟨Lt2.zero, Lt2.zero, Bd.zero.up (by decide) (by decide)⟩
  by_cases z : p.r = 0
  · obtain ⟨z1, z2, z3⟩ := zero z
    exact ⟨Lat.coord hx h1 h4 hR hN (n1.up (by decide)), Lat.coord hy h2 h5 hR hN (n1.up (by decide)), z1, z2, z3⟩
  · have hA : 0 < A := by
      rcases Nat.eq_zero_or_pos A with q | q
      · exfalso
        rw [q] at h3
        push_cast at h3
        have := natR0 hS
        rcases Rat.mul_eq_zero.mp h3 with q | q
        · exact z q
        · exact this q
      · exact q
    have hab : ¬ (p.a = 0 ∧ p.b = 0) := fun ⟨z1, z2⟩ => by
      rcases ok with ⟨_, _, q⟩ | ⟨q, _, _⟩
      · exact z q
      · rw [z1, z2] at q; exact absurd q (by decide)
    have hA2 : A ≤ R * R * S := by
      by_cases ha : p.a = 0
      · have hb : 0 < p.b.natAbs * p.b.natAbs := by
          have : 0 < p.b.natAbs := Int.natAbs_pos.mpr fun q => hab ⟨ha, q⟩
          exact Nat.mul_pos this this
        exact Nat.le_trans (Nat.le_mul_of_pos_right _ hb) h7
      · have hb : 0 < p.a.natAbs * p.a.natAbs := by
          have : 0 < p.a.natAbs := Int.natAbs_pos.mpr ha
          exact Nat.mul_pos this this
        exact Nat.le_trans (Nat.le_mul_of_pos_right _ hb) h6
    have sq : ∀ {x : Nat}, A * (x * x) ≤ R * R * S → Lt2 x 900 := fun {x} hx => sq_lt ((hRS.le (Nat.le_trans (Nat.le_mul_of_pos_left _ hA) hx)).up (by decide))
    have h3' : p.r * (S : Rat) = ((A : Int) : Rat) := by rw [h3]; exact (Rat.intCast_natCast A).symm
    exact ⟨Lat.coord hx h1 h4 hR hN (n1.up (by decide)), Lat.coord hy h2 h5 hR hN (n1.up (by decide)), sq h6, sq h7, bd_of h3' hS ((hRS.le (by rw [Int.natAbs_natCast]; exact hA2)).up (by decide)) (hs.up (by decide))⟩
/-- what the law's own over reckons with is small enough; the length -/
theorem Lat.ovOk {x0 y0 w g : Rat} {R B G g1 g2 : Nat} {ps : List Pl} {p q : Pl} (h : Lat x0 y0 R B G ps) (hx : smallQ x0) (hy : smallQ y0) (hR : R ≤ 1600) (hB : B ≤ 1000) (hG : G ≤ 1100) (hp : p ∈ ps) (hq : q ∈ ps) (op : PlOk p) (oq : PlOk q) (hw : w = (q.x - p.x) * (q.x - p.x) + (q.y - p.y) * (q.y - p.y)) (w0 : 0 < w) (hg : g * (g2 : Rat) = (g1 : Rat)) (h1 : g1 ≤ 12) (h2 : 1 ≤ g2) (h4 : g2 ≤ 4) (bg : Bd 4 3 g) :
    OvOk p.x p.y q.x q.y w g ∧ Bd 20 4 (lenQ w g) := by
  obtain ⟨N, S, hN, hS, u, s, hz⟩ := h.ex
  have sp := h.sz hx hy (by omega) (by omega) hG hp op
  have sq := h.sz hx hy (by omega) (by omega) hG hq oq
  obtain ⟨a, b, W, I, lam, Z, O⟩ := ovN hN (hz p hp) (hz q hq) hw w0 hg h1 h2
  have n2 : Lt2 (N * N) 500 := Lat.n2 hS u (by omega)
  have hRR : 8 * (R * R) ≤ 2 ^ 25 := by
    have := Nat.mul_le_mul hR hR
    have h25 : (2 : Nat) ^ 25 = 33554432 := by decide
    omega
  have hW : Lt2 W 525 := by
    have k : Lt2 (N * N * (8 * (R * R))) 525 := (n2.mulS (k := 25) hRR).up (by decide)
    exact k.le (Nat.le_trans O.Wle (Nat.le_of_eq (Nat.mul_comm _ _)))
  have bw : Bd 550 530 w := bd_of (C := (W : Int)) (by rw [O.ew]; exact (Rat.intCast_natCast W).symm) (Nat.mul_pos hN hN) (by rw [Int.natAbs_natCast]; exact hW.up (by decide)) (n2.up (by decide))
  refine ⟨⟨sp.x, sp.y, sq.x, sq.y, bw, w0, bg, Rat.le_of_lt O.rp⟩, ?_⟩
  refine bd_of (C := (lam : Int)) (by rw [O.el]; exact (Rat.intCast_natCast lam).symm) (by omega) ?_ (by
    unfold Lt2
    have : (2 : Nat) ^ 4 = 16 := by decide
    omega)
  rw [Int.natAbs_natCast]
  unfold Lt2
  have k1 := O.lamle
  have k2 : (3 * R + 25) * g2 ≤ (3 * 1600 + 25) * 4 := Nat.mul_le_mul (by omega) h4
  have : (2 : Nat) ^ 20 = 1048576 := by decide
  omega
theorem lenQ_pos {w g : Rat} (hg : 0 < g) : 0 < lenQ w g := by
  unfold lenQ
  have h1 : (0 : Rat) < Rat.divInt 1 2 := by decide +kernel
  have h2 : (0 : Rat) < ((((Float64.isqrt (flW w) : Nat) : Int) + 1 : Int) : Rat) := Rat.intCast_pos.mpr (by omega)
  have h3 := Rat.mul_pos h1 h2
  grind
/-- a form's parts, times its factor -/
theorem form_F {u v : Rat} (h0 : ¬ (u = 0 ∧ v = 0)) : (((fL u v).fdiv (fG u v) : Int) : Rat) * fF u v = u ∧ (((fM u v).fdiv (fG u v) : Int) : Rat) * fF u v = v := by
  have hG : 0 < fG u v := by
    have h1 := fG_pos h0
    have h2 : 0 ≤ fG u v := gcdI_nonneg _ _
    omega
  have d1 := fdiv_dvd hG (gcdI_dvd_left (fL u v) (fM u v))
  have d2 := fdiv_dvd hG (gcdI_dvd_right (fL u v) (fM u v))
  have e1 := fL_eq u v
  have e2 := fM_eq u v
  have hE : (((u.den : Int) * (v.den : Int) : Int) : Rat) ≠ 0 := fun z => by
    have h1 : (u.den : Int) * (v.den : Int) = 0 := Rat.intCast_eq_zero_iff.mp z
    have h2 : (0 : Int) < (u.den : Int) * (v.den : Int) := Int.mul_pos (by have := u.den_pos; omega) (by have := v.den_pos; omega)
    omega
  have c1 : (((fL u v).fdiv (fG u v) : Int) : Rat) * (fG u v : Rat) = (fL u v : Rat) := by exact_mod_cast d1
  have c2 : (((fM u v).fdiv (fG u v) : Int) : Rat) * (fG u v : Rat) = (fM u v : Rat) := by exact_mod_cast d2
  have eF : fF u v * (((u.den : Int) * (v.den : Int) : Int) : Rat) = (fG u v : Rat) := by
    unfold fF
    rw [Rat.divInt_eq_div]
    grind
  constructor <;> grind
/-- over two points: as far from both as the length says -/
theorem over_sq {x y u v w g : Rat} (hw : w = (u - x) * (u - x) + (v - y) * (v - y)) (w0 : 0 < w) (hr : 0 < overR w g) : sqQ x y (overQ x y u v w g) = some (lenQ w g * lenQ w g) ∧ sqQ u v (overQ x y u v w g) = some (lenQ w g * lenQ w g) := by
  have wne : w ≠ 0 := fun z => by rw [z] at w0; exact absurd w0 (by decide)
  have rne : overR w g ≠ 0 := fun z => by rw [z] at hr; exact absurd hr (by decide)
  have eR : overR w g * w = lenQ w g * lenQ w g + Rat.divInt (-1) 4 * w := by
    unfold overR highQ
    rw [Rat.divInt_eq_div w.den]
    have e2 := num_eq w
    have e3 := den0 w
    have e4 : (w.num : Rat) ≠ 0 := fun z => wne (Rat.num_eq_zero.mp (Rat.intCast_eq_zero_iff.mp z))
    grind
  have hh := divInt_half
  have hq := divInt_quarter
  have huv : ¬ (-(v - y) = 0 ∧ u - x = 0) := fun ⟨z1, z2⟩ => wne (by
    have : v - y = 0 := by grind
    rw [hw, z2, this]; grind)
  cases hk : rootQ (overR w g) with
  | some k =>
    obtain ⟨k0, kk⟩ := rootQ_some (Rat.le_of_lt hr) hk
    have eo : overQ x y u v w g = ⟨Rat.divInt 1 2 * (x + u) + -(v - y) * k, Rat.divInt 1 2 * (y + v) + (u - x) * k, 0, 0, 0⟩ := by
      unfold overQ formQ
      rw [if_neg (fun h => h.elim rne huv), hk]
    rw [eo]
    unfold sqQ
    dsimp only
    rw [Rat.intCast_zero]
    rw [if_pos (by grind), if_pos (by grind)]
    constructor <;> congr 1 <;> grind
  | none =>
    obtain ⟨f1, f2⟩ := form_F huv
    have hF := Fpos huv
    have eo : overQ x y u v w g = ⟨Rat.divInt 1 2 * (x + u), Rat.divInt 1 2 * (y + v), (fL (-(v - y)) (u - x)).fdiv (fG (-(v - y)) (u - x)), (fM (-(v - y)) (u - x)).fdiv (fG (-(v - y)) (u - x)), overR w g * (fF (-(v - y)) (u - x) * fF (-(v - y)) (u - x))⟩ := by
      unfold overQ
      exact formQ_none huv rne hk
    rw [eo]
    unfold sqQ
    dsimp only
    generalize fF (-(v - y)) (u - x) = F at *
    generalize ((fL (-(v - y)) (u - x)).fdiv (fG (-(v - y)) (u - x))) = a at *
    generalize ((fM (-(v - y)) (u - x)).fdiv (fG (-(v - y)) (u - x))) = b at *
    have Fne : F ≠ 0 := fun z => by rw [z] at hF; exact absurd hF (by decide)
    have z1 : (x - Rat.divInt 1 2 * (x + u)) * (a : Rat) + (y - Rat.divInt 1 2 * (y + v)) * (b : Rat) = 0 := by
      have : ((x - Rat.divInt 1 2 * (x + u)) * (a : Rat) + (y - Rat.divInt 1 2 * (y + v)) * (b : Rat)) * F = 0 := by grind
      rcases Rat.mul_eq_zero.mp this with z | z
      · exact z
      · exact absurd z Fne
    have z2 : (u - Rat.divInt 1 2 * (x + u)) * (a : Rat) + (v - Rat.divInt 1 2 * (y + v)) * (b : Rat) = 0 := by
      have : ((u - Rat.divInt 1 2 * (x + u)) * (a : Rat) + (v - Rat.divInt 1 2 * (y + v)) * (b : Rat)) * F = 0 := by grind
      rcases Rat.mul_eq_zero.mp this with z | z
      · exact z
      · exact absurd z Fne
    rw [if_pos z1, if_pos z2]
    have ab : ((a : Rat) * a + b * b) * (overR w g * (F * F)) = overR w g * w := by
      have : (a : Rat) * F * (a * F) + b * F * (b * F) = w := by rw [f1, f2, hw]; grind
      grind
    constructor <;> congr 1 <;> grind
end K31
end
section
set_option maxHeartbeats 2000000
set_option exponentiation.threshold 300
set_option autoImplicit false
/-! Plain: a pose, turn by turn. -/
namespace K31
open PySem PySem.Spec PyProof.Rows
def Rq (i : Nat) : Nat := [0, 13, 52, 169, 520, 1573, 4732].getD i 0
def Bq (i : Nat) : Nat := [1, 24, 82, 206, 462, 982, 2026].getD i 0
def Gq (i : Nat) : Nat := [1, 10, 41, 103, 231, 491, 1013].getD i 0
def ρq (i : Nat) : Nat := [0, 4, 6, 8, 10, 11].getD i 0
theorem q_step {i : Nat} (h : i < 6) : Rq i + 12 ≤ Rq (i + 1) ∧ Bq i + 23 ≤ Bq (i + 1) ∧ Gq i + 4 ≤ Gq (i + 1) ∧ 3 * Rq i + 13 ≤ Rq (i + 1) ∧ Rq i ≤ 2 ^ ρq i ∧ 2 * Bq i + 18 + 4 * ρq i ≤ Bq (i + 1) ∧ Bq i + 9 + 2 * ρq i ≤ Gq (i + 1) ∧ Rq i ≤ 1600 ∧ Bq i ≤ 1000 ∧ Gq i ≤ 1100 := by
  have : i = 0 ∨ i = 1 ∨ i = 2 ∨ i = 3 ∨ i = 4 ∨ i = 5 := by omega
  rcases this with rfl | rfl | rfl | rfl | rfl | rfl <;> decide
theorem q_max {i : Nat} (h : i ≤ 6) : Rq i ≤ 5000 ∧ Bq i ≤ 2100 ∧ Gq i ≤ 1100 := by
  have : i = 0 ∨ i = 1 ∨ i = 2 ∨ i = 3 ∨ i = 4 ∨ i = 5 ∨ i = 6 := by omega
  rcases this with rfl | rfl | rfl | rfl | rfl | rfl | rfl <;> decide
abbrev PinE := Nat × Rat × Rat
abbrev BarE := Nat × Nat × Rat
abbrev BeadE := Nat × Nat × Nat × Rat
def PinOk (ps : List Pl) (e : PinE) : Prop := ∃ p, ps[e.1]? = some p ∧ p.r = 0 ∧ p.x = e.2.1 ∧ p.y = e.2.2
def BarOk (ps : List Pl) (e : BarE) : Prop := ∃ p q, ps[e.1]? = some p ∧ p.r = 0 ∧ ps[e.2.1]? = some q ∧ e.1 < e.2.1 ∧ sqQ p.x p.y q = some (e.2.2 * e.2.2) ∧ 0 < e.2.2 ∧ Bd 20 20 e.2.2
def BeadOk (ps : List Pl) (e : BeadE) : Prop := ∃ p q t, ps[e.2.1]? = some p ∧ ps[e.2.2.1]? = some q ∧ ps[e.1]? = some t ∧ e.2.1 < e.2.2.1 ∧ e.2.2.1 < e.1 ∧ goneQ p q e.2.2.2 = some t ∧ Bd 3 3 e.2.2.2 ∧ Bd 3 3 (1 - e.2.2.2)
structure Pose (x0 y0 : Rat) (i : Nat) (ps : List Pl) (pins : List PinE) (bars : List BarE) (beads : List BeadE) : Prop where
  lat : Lat x0 y0 (Rq i) (Bq i) (Gq i) ps
  len : ps.length = i + 1
  ok : ∀ p ∈ ps, PlOk p
  zero : ∃ p, ps[0]? = some p ∧ p.r = 0
  pn : ∀ e ∈ pins, PinOk ps e
  br : ∀ e ∈ bars, BarOk ps e
  bd : ∀ e ∈ beads, BeadOk ps e
  pk : (pins.map (·.1)).Nodup
  bk : (bars.map fun e => (e.1, e.2.1)).Nodup
  dk : (beads.map fun e => (e.1, e.2.1, e.2.2.1)).Nodup
  ln : pins.length ≤ i + 1 ∧ bars.length ≤ 2 * i ∧ beads.length ≤ i
theorem get_snoc {α : Type} {ps : List α} {t p : α} {k : Nat} (h : ps[k]? = some p) : (ps ++ [t])[k]? = some p := by
  have hk := (List.getElem?_eq_some_iff.mp h).1
  rw [List.getElem?_append_left hk]; exact h
theorem get_last {α : Type} {ps : List α} {t : α} : (ps ++ [t])[ps.length]? = some t := by simp
theorem PinOk.up {ps : List Pl} {e : PinE} {t : Pl} (h : PinOk ps e) : PinOk (ps ++ [t]) e := let ⟨p, a, b⟩ := h; ⟨p, get_snoc a, b⟩
theorem BarOk.up {ps : List Pl} {e : BarE} {t : Pl} (h : BarOk ps e) : BarOk (ps ++ [t]) e := let ⟨p, q, a, b, c, d⟩ := h; ⟨p, q, get_snoc a, b, get_snoc c, d⟩
theorem BeadOk.up {ps : List Pl} {e : BeadE} {t : Pl} (h : BeadOk ps e) : BeadOk (ps ++ [t]) e := let ⟨p, q, r, a, b, c, d⟩ := h; ⟨p, q, r, get_snoc a, get_snoc b, get_snoc c, d⟩
theorem PinOk.lt {ps : List Pl} {e : PinE} (h : PinOk ps e) : e.1 < ps.length := let ⟨_, a, _⟩ := h; (List.getElem?_eq_some_iff.mp a).1
theorem BarOk.lt {ps : List Pl} {e : BarE} (h : BarOk ps e) : e.2.1 < ps.length := let ⟨_, _, _, _, c, _⟩ := h; (List.getElem?_eq_some_iff.mp c).1
theorem BeadOk.lt {ps : List Pl} {e : BeadE} (h : BeadOk ps e) : e.1 < ps.length := let ⟨_, _, _, _, _, c, _⟩ := h; (List.getElem?_eq_some_iff.mp c).1
/-- a place more, bars and beads of it -/
theorem Pose.more {x0 y0 : Rat} {i : Nat} {ps : List Pl} {pins : List PinE} {bars nb : List BarE} {beads nd : List BeadE} {t : Pl} (h : Pose x0 y0 i ps pins bars beads) (lat : Lat x0 y0 (Rq (i + 1)) (Bq (i + 1)) (Gq (i + 1)) (ps ++ [t])) (ot : PlOk t)
    (hb : ∀ e ∈ nb, BarOk (ps ++ [t]) e ∧ e.2.1 = ps.length) (hd : ∀ e ∈ nd, BeadOk (ps ++ [t]) e ∧ e.1 = ps.length) (nbk : (nb.map fun e => (e.1, e.2.1)).Nodup) (ndk : (nd.map fun e => (e.1, e.2.1, e.2.2.1)).Nodup) (lb : nb.length ≤ 2) (ld : nd.length ≤ 1) :
    Pose x0 y0 (i + 1) (ps ++ [t]) pins (bars ++ nb) (beads ++ nd) where
  lat := lat
  len := by rw [List.length_append, h.len]; rfl
  ok := fun p hp => by
    rcases List.mem_append.mp hp with z | z
    · exact h.ok p z
    · rcases List.mem_cons.mp z with rfl | z
      · exact ot
      · cases z
  zero := let ⟨p, a, b⟩ := h.zero; ⟨p, get_snoc a, b⟩
  pn := fun e he => (h.pn e he).up
  br := fun e he => by
    rcases List.mem_append.mp he with z | z
    · exact (h.br e z).up
    · exact (hb e z).1
  bd := fun e he => by
    rcases List.mem_append.mp he with z | z
    · exact (h.bd e z).up
    · exact (hd e z).1
  pk := h.pk
  bk := by
    rw [List.map_append, List.nodup_append]
    refine ⟨h.bk, nbk, fun x hx y hy e => ?_⟩
    obtain ⟨e1, h1, rfl⟩ := List.mem_map.mp hx
    obtain ⟨e2, h2, rfl⟩ := List.mem_map.mp hy
    have k1 := (h.br e1 h1).lt
    have k2 := (hb e2 h2).2
    have : e1.2.1 = e2.2.1 := (Prod.mk.inj e).2
    omega
  dk := by
    rw [List.map_append, List.nodup_append]
    refine ⟨h.dk, ndk, fun x hx y hy e => ?_⟩
    obtain ⟨e1, h1, rfl⟩ := List.mem_map.mp hx
    obtain ⟨e2, h2, rfl⟩ := List.mem_map.mp hy
    have k1 := (h.bd e1 h1).lt
    have k2 := (hd e2 h2).2
    have : e1.1 = e2.1 := (Prod.mk.inj e).1
    omega
  ln := by
    obtain ⟨a, b, c⟩ := h.ln
    rw [List.length_append, List.length_append]
    omega
/-- a pin more -/
theorem Pose.pin {x0 y0 : Rat} {i : Nat} {ps : List Pl} {pins : List PinE} {bars : List BarE} {beads : List BeadE} {t : Pl} (h : Pose x0 y0 i ps pins bars beads) (hi : ps[i]? = some t) (ht : t.r = 0) (hn : ∀ e ∈ pins, e.1 < i) (hl : pins.length ≤ i) : Pose x0 y0 i ps (pins ++ [(i, t.x, t.y)]) bars beads :=
  { h with
    pn := fun e he => by
      rcases List.mem_append.mp he with z | z
      · exact h.pn e z
      · rcases List.mem_cons.mp z with rfl | z
        · exact ⟨t, hi, ht, rfl, rfl⟩
        · cases z
    pk := by
      rw [List.map_append, List.nodup_append]
      refine ⟨h.pk, by simp, fun x hx y hy e => ?_⟩
      obtain ⟨e1, h1, rfl⟩ := List.mem_map.mp hx
      have := hn e1 h1
      have hy' : y = i := by simpa using hy
      omega
    ln := by
      obtain ⟨a, b, c⟩ := h.ln
      rw [List.length_append]
      exact ⟨by simpa using hl, b, c⟩ }
theorem Pose.start {x0 y0 : Rat} : Pose x0 y0 0 [ptPl x0 y0] [(0, x0, y0)] [] [] where
  lat := Lat.start x0 y0
  len := rfl
  ok := fun p hp => by
    rcases List.mem_cons.mp hp with rfl | z
    · exact PlOk.pt x0 y0
    · cases z
  zero := ⟨_, rfl, rfl⟩
  pn := fun e he => by
    rcases List.mem_cons.mp he with rfl | z
    · exact ⟨_, rfl, rfl, rfl, rfl⟩
    · cases z
  br := fun e he => nomatch he
  bd := fun e he => nomatch he
  pk := by simp
  bk := by simp
  dk := by simp
  ln := by simp
theorem Pose.sz {x0 y0 : Rat} {i : Nat} {ps : List Pl} {pins : List PinE} {bars : List BarE} {beads : List BeadE} {p : Pl} (h : Pose x0 y0 i ps pins bars beads) (hx : smallQ x0) (hy : smallQ y0) (hi : i ≤ 6) (hp : p ∈ ps) : PlSz p :=
  let ⟨a, b, c⟩ := q_max hi; h.lat.sz hx hy a b c hp (h.ok p hp)
theorem PlOk.eq_pt {p : Pl} (h : PlOk p) (hr : p.r = 0) : p = ptPl p.x p.y := by
  obtain ⟨h1, h2⟩ := h.zero hr
  obtain ⟨x, y, a, b, r⟩ := p
  dsimp only at h1 h2 hr
  subst h1 h2 hr
  rfl
theorem sq_pt (x y u v : Rat) : sqQ x y (ptPl u v) = some ((x - u) * (x - u) + (y - v) * (y - v)) := by
  unfold sqQ ptPl
  dsimp only
  rw [Rat.intCast_zero, if_pos (by grind)]
  congr 1
  grind
/-- the form of what is c times as long -/
theorem formQ_mul {x y u v r c : Rat} (hc : 0 < c) (hk : r = 0 ∨ rootQ r = none) (hr : 0 ≤ r) : formQ x y (c * u) (c * v) r = formQ x y u v (r * (c * c)) := by
  have hc0 : c ≠ 0 := fun z => by rw [z] at hc; exact absurd hc (by decide)
  by_cases hr0 : r = 0
  · rw [hr0, Rat.zero_mul, formQ_r0, formQ_r0]
  · by_cases h0 : u = 0 ∧ v = 0
    · rw [h0.1, h0.2, Rat.mul_zero, formQ_zero, formQ_zero]
    · have hk' := hk.resolve_left hr0
      have hF := Fpos h0
      obtain ⟨f1, f2⟩ := form_F h0
      have hLM : ¬ (fL u v = 0 ∧ fM u v = 0) := fun ⟨z1, z2⟩ => by
        have := fG_pos h0
        unfold fG at this
        rw [z1, z2] at this
        exact this (by decide)
      have hg : gcdI ((fL u v).fdiv (fG u v)) ((fM u v).fdiv (fG u v)) = 1 := gcdI_form hLM
      have k1 := formQ_scale (x := x) (y := y) (r := r) (c := c * fF u v) hg (Rat.mul_pos hc hF) hr0 hk'
      have k2 := formQ_none (x := x) (y := y) (r := r * (c * c)) h0 (fun z => by
        rcases Rat.mul_eq_zero.mp z with z | z
        · exact hr0 z
        · rcases Rat.mul_eq_zero.mp z with z | z <;> exact hc0 z) (rootQ_scale hr hc hk')
      have e1 : c * fF u v * (((fL u v).fdiv (fG u v) : Int) : Rat) = c * u := by rw [← f1]; grind
      have e2 : c * fF u v * (((fM u v).fdiv (fG u v) : Int) : Rat) = c * v := by rw [← f2]; grind
      rw [e1, e2] at k1
      rw [k1, k2]
      congr 1
      grind
/-- a bead told from the other end -/
theorem gone_symm {p q : Pl} {s : Rat} (hp : PlOk p) (hq : PlOk q) : goneQ q p (1 - s) = goneQ p q s := by
  have np := hp.nonneg
  have nq := hq.nonneg
  unfold goneQ
  have ex : q.x + (p.x - q.x) * (1 - s) = p.x + (q.x - p.x) * s := by grind
  have ey : q.y + (p.y - q.y) * (1 - s) = p.y + (q.y - p.y) * s := by grind
  have e1 : (1 : Rat) - (1 - s) = s := by grind
  simp only [ex, ey, e1]
  by_cases hm : (p.a : Rat) * (1 - s) = 0 ∧ (p.b : Rat) * (1 - s) = 0
  · by_cases hn : (q.a : Rat) * s = 0 ∧ (q.b : Rat) * s = 0
    · rw [if_pos (.inl hn), if_pos hn, if_pos (.inl hm), if_pos hm, hm.1, hm.2, hn.1, hn.2, formQ_zero, formQ_zero]
    · rw [if_pos (.inr hm), if_neg hn, if_pos (.inl hm), if_pos hm]
  · by_cases hn : (q.a : Rat) * s = 0 ∧ (q.b : Rat) * s = 0
    · rw [if_pos (.inl hn), if_pos hn, if_pos (.inr hn), if_neg hm]
    · have c1 : ¬ (((q.a : Rat) * s = 0 ∧ (q.b : Rat) * s = 0) ∨ ((p.a : Rat) * (1 - s) = 0 ∧ (p.b : Rat) * (1 - s) = 0)) := fun h => h.elim hn hm
      have c2 : ¬ (((p.a : Rat) * (1 - s) = 0 ∧ (p.b : Rat) * (1 - s) = 0) ∨ ((q.a : Rat) * s = 0 ∧ (q.b : Rat) * s = 0)) := fun h => h.elim hm hn
      rw [if_neg c1, if_neg c2, kinB_symm (r := q.r) (s := p.r)]
      cases hk : kinB p.r q.r with
      | false => rfl
      | true =>
        rw [if_pos rfl, if_pos rfl]
        obtain ⟨h1, h2, k, hk0, ek⟩ := (kinB_iff np nq).mp hk
        have p1 : 0 < p.r := Rat.lt_of_le_of_ne np (fun z => h1 z.symm)
        have p2 : 0 < q.r := Rat.lt_of_le_of_ne nq (fun z => h2 z.symm)
        have kp : 0 < k := by
          refine Rat.lt_of_le_of_ne hk0 fun z => ?_
          have := Rat.mul_pos p1 p2
          rw [← ek, ← z, Rat.mul_zero] at this
          exact absurd this (by decide)
        have b1 : borQ q.r p.r = k / p.r := by
          unfold borQ
          rw [Rat.mul_comm, ← ek, rootQ_sq hk0]
        have b2 : borQ p.r q.r = k / q.r := by
          unfold borQ
          rw [← ek, rootQ_sq hk0]
        have tp : 0 < k / q.r := by
          rw [Rat.div_def]
          exact Rat.mul_pos kp (Rat.inv_pos.mpr p2)
        have key := formQ_mul (x := p.x + (q.x - p.x) * s) (y := p.y + (q.y - p.y) * s) (u := (p.a : Rat) * (1 - s) + (q.a : Rat) * s * (k / p.r)) (v := (p.b : Rat) * (1 - s) + (q.b : Rat) * s * (k / p.r)) (r := q.r) (c := k / q.r) tp hq.root nq
        have e2 : q.r * (k / q.r * (k / q.r)) = p.r := by grind
        have e3 : k / q.r * ((p.a : Rat) * (1 - s) + (q.a : Rat) * s * (k / p.r)) = (q.a : Rat) * s + (p.a : Rat) * (1 - s) * (k / q.r) := by grind
        have e4 : k / q.r * ((p.b : Rat) * (1 - s) + (q.b : Rat) * s * (k / p.r)) = (q.b : Rat) * s + (p.b : Rat) * (1 - s) * (k / q.r) := by grind
        rw [e2, e3, e4] at key
        rw [b1, b2, key]
end K31
end
section
set_option maxHeartbeats 2000000
set_option autoImplicit false
/-! Ways, shares, the base, as data. -/
namespace K31
open PySem PySem.Spec PyProof.Rows L2
def pinsM (pins : List PinE) : MO := .dK (pins.map fun e => (e.1 : Int)) (pins.map fun e => ptD e.2.1 e.2.2)
def barsM (bars : List BarE) : MO := .dT (bars.map fun e => [(e.1 : Int), (e.2.1 : Int)]) (bars.map fun e => numD e.2.2)
def beadsM (beads : List BeadE) : MO := .dT (beads.map fun e => [(e.1 : Int), (e.2.1 : Int), (e.2.2.1 : Int)]) (beads.map fun e => numD e.2.2.2)
theorem numD_lit (n : Int) (d : Nat) (h1 : (Rat.divInt n d).num = n := by decide +kernel) (h2 : (Rat.divInt n d).den = d := by decide +kernel) (hd : d ≠ 1 := by decide) : numD (Rat.divInt n d) = .tup [.int n, .int d] := by rw [numD_pair (by rw [h2]; exact hd), h1, h2]
def wayQ : List (Rat × Rat) := [(((1 : Int) : Rat), ((0 : Int) : Rat)), (((0 : Int) : Rat), ((1 : Int) : Rat)), (((-1 : Int) : Rat), ((0 : Int) : Rat)), (Rat.divInt 3 (5 : Nat), Rat.divInt 4 (5 : Nat)), (Rat.divInt 5 (13 : Nat), Rat.divInt (-12) (13 : Nat)), (Rat.divInt (-4) (5 : Nat), Rat.divInt 3 (5 : Nat))]
def waysD : List D := wayQ.map fun w => ptD w.1 w.2
theorem ways_eq : D.lst [.tup [.int 1, .int 0], .tup [.int 0, .int 1], .tup [.int (-1), .int 0], .tup [.tup [.int 3, .int 5], .tup [.int 4, .int 5]], .tup [.tup [.int 5, .int 13], .tup [.int (-12), .int 13]], .tup [.tup [.int (-4), .int 5], .tup [.int 3, .int 5]]] = .lst waysD := by
  show _ = D.lst [ptD _ _, ptD _ _, ptD _ _, .tup [numD _, numD _], .tup [numD _, numD _], .tup [numD _, numD _]]
  rw [ptD_int, ptD_int, ptD_int, numD_lit 3 5, numD_lit 4 5, numD_lit 5 13, numD_lit (-12) 13, numD_lit (-4) 5]
  rfl
theorem way_in {w : Rat × Rat} (h : w ∈ wayQ) : ∃ (d : Nat) (c1 c2 : Int), w.1 * (d : Rat) = (c1 : Rat) ∧ w.2 * (d : Rat) = (c2 : Rat) ∧ 1 ≤ d ∧ d ≤ 13 ∧ c1.natAbs ≤ d ∧ c2.natAbs ≤ d ∧ w.1 * w.1 + w.2 * w.2 = 1 := by
  unfold wayQ at h
  simp only [List.mem_cons, List.not_mem_nil, or_false] at h
  rcases h with rfl | rfl | rfl | rfl | rfl | rfl
  · exact ⟨1, 1, 0, by decide +kernel, by decide +kernel, by decide, by decide, by decide, by decide, by decide +kernel⟩
  · exact ⟨1, 0, 1, by decide +kernel, by decide +kernel, by decide, by decide, by decide, by decide, by decide +kernel⟩
  · exact ⟨1, -1, 0, by decide +kernel, by decide +kernel, by decide, by decide, by decide, by decide, by decide +kernel⟩
  · exact ⟨5, 3, 4, by decide +kernel, by decide +kernel, by decide, by decide, by decide, by decide, by decide +kernel⟩
  · exact ⟨13, 5, -12, by decide +kernel, by decide +kernel, by decide, by decide, by decide, by decide, by decide +kernel⟩
  · exact ⟨5, -4, 3, by decide +kernel, by decide +kernel, by decide, by decide, by decide, by decide, by decide +kernel⟩
def shQ : List Rat := [Rat.divInt 1 (2 : Nat), Rat.divInt 1 (4 : Nat), ((-1 : Int) : Rat), ((2 : Int) : Rat), Rat.divInt 1 (3 : Nat), ((0 : Int) : Rat)]
theorem sh_eq : D.lst [.tup [.int 1, .int 2], .tup [.int 1, .int 4], .int (-1), .int 2, .tup [.int 1, .int 3], .int 0] = .lst (shQ.map numD) := by
  show _ = D.lst [numD _, numD _, numD _, numD _, numD _, numD _]
  rw [numD_lit 1 2, numD_lit 1 4, numD_lit 1 3, numD_intCast, numD_intCast, numD_intCast]
  rfl
theorem bd_dec {q : Rat} (h1 : decide (q.num.natAbs < 2 ^ 3) = true) (h2 : decide (q.den < 2 ^ 3) = true) : Bd 3 3 q := ⟨show q.num.natAbs < 2 ^ 3 from of_decide_eq_true h1, show q.den < 2 ^ 3 from of_decide_eq_true h2⟩
theorem sh_in {s : Rat} (h : s ∈ shQ) : ∃ (d : Nat) (σ : Int), 0 < d ∧ d ≤ 4 ∧ s * (d : Rat) = (σ : Rat) ∧ ((d : Int) - σ).natAbs + σ.natAbs ≤ 3 * d ∧ Bd 3 3 s ∧ Bd 3 3 (1 - s) := by
  unfold shQ at h
  simp only [List.mem_cons, List.not_mem_nil, or_false] at h
  rcases h with rfl | rfl | rfl | rfl | rfl | rfl
  · exact ⟨2, 1, by decide, by decide, by decide +kernel, by decide, bd_dec (by decide +kernel) (by decide +kernel), bd_dec (by decide +kernel) (by decide +kernel)⟩
  · exact ⟨4, 1, by decide, by decide, by decide +kernel, by decide, bd_dec (by decide +kernel) (by decide +kernel), bd_dec (by decide +kernel) (by decide +kernel)⟩
  · exact ⟨1, -1, by decide, by decide, by decide +kernel, by decide, bd_dec (by decide +kernel) (by decide +kernel), bd_dec (by decide +kernel) (by decide +kernel)⟩
  · exact ⟨1, 2, by decide, by decide, by decide +kernel, by decide, bd_dec (by decide +kernel) (by decide +kernel), bd_dec (by decide +kernel) (by decide +kernel)⟩
  · exact ⟨3, 1, by decide, by decide, by decide +kernel, by decide, bd_dec (by decide +kernel) (by decide +kernel), bd_dec (by decide +kernel) (by decide +kernel)⟩
  · exact ⟨1, 0, by decide, by decide, by decide +kernel, by decide, bd_dec (by decide +kernel) (by decide +kernel), bd_dec (by decide +kernel) (by decide +kernel)⟩
/-- the joints that are points -/
def baseD (ps : List Pl) : List D := ((List.range ps.length).map fun (i : Nat) => D.int (i : Int)).filterMap fun d => match d with
  | .int j => match ps[j.toNat]? with
    | some p => if p.r = 0 then some (.int j) else none
    | none => none
  | _ => none
def baseF (ps : List Pl) : D → Option D := fun d => match d with
  | .int j => match ps[j.toNat]? with
    | some p => if p.r = 0 then some (.int j) else none
    | none => none
  | _ => none
theorem base_in {ps : List Pl} {d : D} (h : d ∈ baseD ps) : ∃ (j : Nat) (p : Pl), d = .int (j : Int) ∧ ps[j]? = some p ∧ p.r = 0 := by
  obtain ⟨e, he, hf⟩ := List.mem_filterMap.mp h
  obtain ⟨j, hj, rfl⟩ := List.mem_map.mp he
  have hj' : j < ps.length := List.mem_range.mp hj
  have hp : ps[j]? = some ps[j] := List.getElem?_eq_getElem hj'
  have hf' : baseF ps (.int (j : Int)) = some d := hf
  unfold baseF at hf'
  dsimp only at hf'
  rw [Int.toNat_natCast, hp] at hf'
  dsimp only at hf'
  split at hf'
  · rename_i hr
    cases hf'
    exact ⟨j, _, rfl, hp, hr⟩
  · cases hf'
theorem base_ne {ps : List Pl} {p : Pl} (h0 : ps[0]? = some p) (hr : p.r = 0) : D.int 0 ∈ baseD ps := by
  refine List.mem_filterMap.mpr ⟨.int 0, List.mem_map.mpr ⟨0, List.mem_range.mpr (List.getElem?_eq_some_iff.mp h0).1, rfl⟩, ?_⟩
  show baseF ps (.int 0) = some (.int 0)
  unfold baseF
  dsimp only
  rw [show (0 : Int).toNat = 0 from rfl, h0]
  dsimp only
  rw [if_pos hr]
end K31
end
section
set_option maxHeartbeats 2000000
set_option autoImplicit false
/-! Rows of pins, bars and beads; comprehensions over told items. -/
namespace K31
open PySem PySem.Spec PyProof.Rows L2
theorem tabD {α β : Type} (es : List α) (g : α → D) (f : α → β) (b : β) (h : ∀ e ∈ es, ∀ e' ∈ es, g e = g e' → f e = f e') : ∃ F : D → β, ∀ e ∈ es, F (g e) = f e := by
  classical
  refine ⟨fun d => if h : ∃ e, e ∈ es ∧ g e = d then f h.choose else b, fun e he => ?_⟩
  have hx : ∃ e', e' ∈ es ∧ g e' = g e := ⟨e, he, rfl⟩
  show (if h : ∃ e', e' ∈ es ∧ g e' = g e then f h.choose else b) = f e
  rw [dif_pos hx]
  exact h _ hx.choose_spec.1 e he hx.choose_spec.2
section
variable {X : Cx} {ρ : Rho} {tg iter elt : Expr} {pos : Pos} {scope : Scope} {own : List (Str × Nat)} {g : TG} {α : Type}
/-- [elt for tg in iter], the items told by es -/
theorem dlcA (es : List α) (gi fi : α → D) (hc : X.calm = true) (nd : X.N.Nodup) (hi : DI X tg iter ρ (es.map gi)) (ok : BlkOk X.N X.env.scope scope own) (hg : Blk X scope fun X' => PG X' tg g) (hl : es.length ≤ 1000) (inj : ∀ e ∈ es, ∀ e' ∈ es, gi e = gi e' → fi e = fi e')
    (hs : ∀ e ∈ es, ∃ ρ2, BindC X.K g (own.map (·.2)) (wipeD ρ (own.map (·.2))) (gi e) ρ2 ∧ Blk X scope fun X' => DE X' elt ρ2 (fi e)) (hfs : ∀ x, foldedSetIterable iter X.env x = pure x := by intro _; rfl) : DE X (.ListComp elt [⟨tg, iter, [], 0⟩] scope pos) ρ (.lst (es.map fi)) := by
  obtain ⟨F, hF⟩ := tabD es gi fi .non inj
  have h := dlc (X := X) (ρ := ρ) (elt := elt) (pos := pos) (own := own) (g := g) F hc nd hi ok hg (by rw [List.length_map]; exact hl) (fun d hd => by
    obtain ⟨e, he, rfl⟩ := List.mem_map.mp hd
    obtain ⟨ρ2, hb, hq⟩ := hs e he
    exact ⟨ρ2, hb, by rw [hF e he]; exact hq⟩) hfs
  rw [List.map_map, List.map_congr_left (f := F ∘ gi) (g := fi) fun e he => hF e he] at h
  exact h
end
def pinR (e : PinE) : D := .tup [.int (e.1 : Int), ptD e.2.1 e.2.2]
def barR (e : BarE) : D := .tup [.int (e.1 : Int), .int (e.2.1 : Int), numD e.2.2]
def beadR (e : BeadE) : D := .tup [.int (e.1 : Int), .int (e.2.1 : Int), .int (e.2.2.1 : Int), numD e.2.2.2]
def keyP (e : PinE) : Int := (e.1 : Int)
def keyB (e : BarE) : List Int := [(e.1 : Int), (e.2.1 : Int)]
def keyE (e : BeadE) : List Int := [(e.1 : Int), (e.2.1 : Int), (e.2.2.1 : Int)]
def codB (e : BarE) : Int := TS.code 64 (keyB e)
def codE (e : BeadE) : Int := TS.code 64 (keyE e)
def pinS (pins : List PinE) : List PinE := srt keyP pins
def barS (bars : List BarE) : List BarE := srt codB bars
def beadS (beads : List BeadE) : List BeadE := srt codE beads
theorem code_inj {B : Int} : ∀ {r q : List Int}, r.length = q.length → TS.Bd B r → TS.Bd B q → TS.code B r = TS.code B q → r = q
  | [], [], _, _, _, _ => rfl
  | [], _ :: _, h, _, _, _ => by cases h
  | _ :: _, [], h, _, _, _ => by cases h
  | d :: r, e :: q, hl, h1, h2, h => by
    have hl' : r.length = q.length := Nat.succ.inj hl
    have b1 : TS.Bd B r := fun m hm => h1 m (List.mem_cons_of_mem _ hm)
    have b2 : TS.Bd B q := fun m hm => h2 m (List.mem_cons_of_mem _ hm)
    rcases Int.lt_trichotomy d e with c | c | c
    · have := TS.code_lt hl' b1 b2 c; omega
    · subst c
      have s1 := TS.code_same (B := B) (d := d) hl'
      have s2 := TS.code_same (B := B) (d := d) hl'.symm
      have : TS.code B r = TS.code B q := by
        rcases Int.lt_trichotomy (TS.code B r) (TS.code B q) with k | k | k
        · have := s1.mpr k; omega
        · exact k
        · have := s2.mpr k; omega
      rw [code_inj hl' b1 b2 this]
    · have := TS.code_lt hl'.symm b2 b1 c; omega
theorem nodup_inj {α β : Type} {f : α → β} : ∀ {xs : List α}, (xs.map f).Nodup → ∀ a ∈ xs, ∀ b ∈ xs, f a = f b → a = b
  | [], _, a, ha, _, _, _ => absurd ha (by simp)
  | x :: xs, h, a, ha, b, hb, e => by
    rw [List.map_cons, List.nodup_cons] at h
    rcases List.mem_cons.mp ha with q1 | q1
    · rcases List.mem_cons.mp hb with q2 | q2
      · rw [q1, q2]
      · exact absurd (List.mem_map.mpr ⟨b, q2, by rw [← e, q1]⟩) h.1
    · rcases List.mem_cons.mp hb with q2 | q2
      · exact absurd (List.mem_map.mpr ⟨a, q1, by rw [e, q2]⟩) h.1
      · exact nodup_inj h.2 a q1 b q2 e
theorem map_nodup {α β γ : Type} {f : α → β} {g : α → γ} (h : ∀ a b, g a = g b → f a = f b) : ∀ {xs : List α}, (xs.map f).Nodup → (xs.map g).Nodup
  | [], _ => by simp
  | x :: xs, n => by
    rw [List.map_cons, List.nodup_cons] at n ⊢
    refine ⟨fun z => n.1 ?_, map_nodup h n.2⟩
    obtain ⟨y, hy, e⟩ := List.mem_map.mp z
    exact List.mem_map.mpr ⟨y, hy, h _ _ e⟩
/-- keys of their own, all below 64 -/
structure Keyed (pins : List PinE) (bars : List BarE) (beads : List BeadE) : Prop where
  pn : (pins.map keyP).Nodup
  bn : (bars.map keyB).Nodup
  en : (beads.map keyE).Nodup
  bb : ∀ e ∈ bars, e.1 < 64 ∧ e.2.1 < 64
  eb : ∀ e ∈ beads, e.1 < 64 ∧ e.2.1 < 64 ∧ e.2.2.1 < 64
  ln : pins.length < 64 ∧ bars.length < 64 ∧ beads.length < 64
theorem keyB_bd {e : BarE} (h : e.1 < 64 ∧ e.2.1 < 64) : TS.Bd 64 (keyB e) := fun m hm => by
  unfold keyB at hm
  simp only [List.mem_cons, List.not_mem_nil, or_false] at hm
  rcases hm with rfl | rfl <;> omega
theorem keyE_bd {e : BeadE} (h : e.1 < 64 ∧ e.2.1 < 64 ∧ e.2.2.1 < 64) : TS.Bd 64 (keyE e) := fun m hm => by
  unfold keyE at hm
  simp only [List.mem_cons, List.not_mem_nil, or_false] at hm
  rcases hm with rfl | rfl | rfl <;> omega
section
variable {pins : List PinE} {bars : List BarE} {beads : List BeadE}
theorem Keyed.codB (h : Keyed pins bars beads) : ∀ a ∈ bars, ∀ b ∈ bars, TS.code 64 (keyB a) = TS.code 64 (keyB b) → keyB a = keyB b := fun a ha b hb e => code_inj rfl (keyB_bd (h.bb a ha)) (keyB_bd (h.bb b hb)) e
theorem Keyed.codE (h : Keyed pins bars beads) : ∀ a ∈ beads, ∀ b ∈ beads, TS.code 64 (keyE a) = TS.code 64 (keyE b) → keyE a = keyE b := fun a ha b hb e => code_inj rfl (keyE_bd (h.eb a ha)) (keyE_bd (h.eb b hb)) e
theorem Keyed.pinS (h : Keyed pins bars beads) : srt (fun i => i) (pins.map keyP) = (pinS pins).map keyP := srt_map (f := fun i : Int => i) keyP fun a _ b _ e => e
theorem Keyed.barS (h : Keyed pins bars beads) : srt (TS.code 64) (bars.map keyB) = (barS bars).map keyB := srt_map (f := TS.code 64) keyB h.codB
theorem Keyed.beadS (h : Keyed pins bars beads) : srt (TS.code 64) (beads.map keyE) = (beadS beads).map keyE := srt_map (f := TS.code 64) keyE h.codE
theorem Pose.keyed {x0 y0 : Rat} {i : Nat} {ps : List Pl} (h : Pose x0 y0 i ps pins bars beads) (hi : i ≤ 6) : Keyed pins bars beads where
  pn := map_nodup (fun a b e => by unfold keyP at e; exact Int.ofNat.inj e) h.pk
  bn := map_nodup (fun a b e => by
    unfold keyB at e
    injection e with e1 e2
    injection e2 with e2 _
    exact Prod.ext (Int.ofNat.inj e1) (Int.ofNat.inj e2)) h.bk
  en := map_nodup (fun a b e => by
    unfold keyE at e
    injection e with e1 e2
    injection e2 with e2 e3
    injection e3 with e3 _
    exact Prod.ext (Int.ofNat.inj e1) (Prod.ext (Int.ofNat.inj e2) (Int.ofNat.inj e3))) h.dk
  bb := fun e he => by
    have h1 := (h.br e he).lt
    obtain ⟨_, _, _, _, _, h2, _⟩ := h.br e he
    have := h.len
    omega
  eb := fun e he => by
    have h1 := (h.bd e he).lt
    obtain ⟨_, _, _, _, _, _, h2, h3, _⟩ := h.bd e he
    have := h.len
    omega
  ln := by have := h.ln; omega
end
end K31
end
section
set_option maxHeartbeats 4000000
set_option autoImplicit false
/-! The walk: the rows of a machine. -/
namespace K31
open PySem PySem.Spec PyProof.Rows L2
section
variable {P : Program} {w : World} {K : PySem.W.Frag} {mg : Str → Option Value} {base : Heap}
def rowsD (pins : List PinE) (bars : List BarE) (beads : List BeadE) : D := .lst [.lst (pins.map pinR), .lst (bars.map barR), .lst (beads.map beadR)]
def S__law_rows (ds : List D) (d : D) : Prop := ∃ (x : D) (pins : List PinE) (bars : List BarE) (beads : List BeadE), ds = [.lst [x, frzD (pinsM pins), frzD (barsM bars), frzD (beadsM beads)]] ∧ Keyed pins bars beads ∧ d = rowsD (pinS pins) (barS bars) (beadS beads)
theorem units1 {n : Nat} (h : n + 64 < cLine) : n + 1 < cLine := by omega
theorem keyD_inj {a b : List Int} (h : keyD a = keyD b) : a = b := by
  unfold keyD at h
  injection h with h
  have : ∀ {a b : List Int}, a.map D.int = b.map D.int → a = b := fun {a} => by
    induction a with
    | nil => intro b h; cases b with
      | nil => rfl
      | cons => cases h
    | cons x a ih => intro b h; cases b with
      | nil => cases h
      | cons y b =>
        rw [List.map_cons, List.map_cons] at h
        injection h with h1 h2
        injection h1 with h1
        rw [h1, ih h2]
  exact this h
abbrev N__law_rows : List Str := ["_law_posed_here", "_law_pins", "_law_bars", "_law_beads", "_law_found", "_law_joint", "_law_names"]
theorem sc__law_rows : FnScope N__law_rows ["_law_posed_here"] (defScope s__law_rows) := ⟨rfl, rfl, rfl, by decide +kernel, rfl, by decide +kernel, by decide +kernel⟩
theorem ok__law_rows (T : TB K mg) : Ok P w K mg base 1 "_law_rows" 1 S__law_rows := by
  obtain ⟨fd, F⟩ := T.f__law_rows
  refine ok_of (N := N__law_rows) (ps := ["_law_posed_here"]) F T.g__law_rows sc__law_rows rfl (fun _ _ _ _ _ _ us hl => match us, hl with | [_], _ => rfl) fun cdv A outer s H ds d E hr hl hS => ?_
  have hu := hr.units
  obtain ⟨x, pins, bars, beads, rfl, hk, rfl⟩ := hS
  have eP : frzD (pinsM pins) = .dK (pins.map keyP) (pins.map fun e => ptD e.2.1 e.2.2) := rfl
  have eB : frzD (barsM bars) = .dT (bars.map keyB) (bars.map fun e => numD e.2.2) := rfl
  have eE : frzD (beadsM beads) = .dT (beads.map keyE) (beads.map fun e => numD e.2.2.2) := rfl
  rw [eP, eB, eE]
  have lP : (pinS pins).length = pins.length := srt_length
  have lB : (barS bars).length = bars.length := srt_length
  have lE : (beadS beads).length = beads.length := srt_length
  have hln := hk.ln
  refine ⟨_, ?_, .inl rfl⟩
  refine db1 (dasg (dtup (dacons (dixL (dv 0 rfl) dint rfl) (dacons (dixL (dv 0 rfl) dint rfl) (dacons (dixL (dv 0 rfl) dint rfl) danil)))) (dgT rfl (dgs1 (dgN sc__law_rows.nd (i := 1) rfl) (dgs1 (dgN sc__law_rows.nd (i := 2) rfl) (dgs1 (dgN sc__law_rows.nd (i := 3) rfl) dgs0))))) ?_
  refine db1 (dset (i := 4) (d := .lst [.lst ((pinS pins).map pinR), .lst ((barS bars).map barR)]) sc__law_rows.nd rfl (dlst (dacons ?_ (dacons ?_ danil)))) ?_
  · refine dlcA (own := [("_law_joint", 5)]) (pinS pins) (fun e => .int (keyP e)) pinR rfl sc__law_rows.nd (diL ((dsortI T.b_sorted (dlistK rfl T.b_list (dv 1 rfl))).is ?_)) (blkOk_by (N := N__law_rows) (sc := defScope s__law_rows) (by decide +kernel)) (pgN (i := 5) sc__law_rows.nd rfl) (by omega) (fun e he e' he' q => ?_) (fun e he => ?_)
    · rw [hk.pinS, List.map_map]; rfl
    · injection q with q
      rw [nodup_inj hk.pn e (mem_srt.mp he) e' (mem_srt.mp he') q]
    · obtain ⟨j, hj⟩ := List.getElem?_of_mem (mem_srt.mp he)
      exact ⟨_, bcN, fun _ _ _ _ _ => dtup (dacons (dv 5 rfl) (dacons (ddgetK (j := j) (by exact units1 (by exact hu)) (dv 1 rfl) (dv 5 rfl) hk.pn (by rw [List.getElem?_map, hj]; rfl) (by rw [List.getElem?_map, hj]; rfl)) danil))⟩
  · refine dlcA (own := [("_law_names", 6)]) (barS bars) (fun e => keyD (keyB e)) barR rfl sc__law_rows.nd (diL ((dsortT (n := 2) (B := 64) (by decide) T.b_sorted (dlistT rfl T.b_list (dv 2 rfl)) (by rw [List.length_map]; omega) (fun k hm => ?_) (fun a ha b hb q => ?_)).is ?_)) (blkOk_by (N := N__law_rows) (sc := defScope s__law_rows) (by decide +kernel)) (pgN (i := 6) sc__law_rows.nd rfl) (by omega) (fun e he e' he' q => ?_) (fun e he => ?_)
    · obtain ⟨e, he, rfl⟩ := List.mem_map.mp hm
      exact ⟨rfl, keyB_bd (hk.bb e he)⟩
    · obtain ⟨e, he, rfl⟩ := List.mem_map.mp ha
      obtain ⟨e', he', rfl⟩ := List.mem_map.mp hb
      exact hk.codB e he e' he' q
    · rw [hk.barS, List.map_map]; rfl
    · rw [nodup_inj hk.bn e (mem_srt.mp he) e' (mem_srt.mp he') (keyD_inj q)]
    · obtain ⟨j, hj⟩ := List.getElem?_of_mem (mem_srt.mp he)
      exact ⟨_, bcN, fun _ _ _ _ _ => dcatT (ds := (keyB e).map D.int) (ds2 := [numD e.2.2]) (dv 6 rfl) (dtup (dacons (ddgetT (j := j) (by exact units1 (by exact hu)) (dv 2 rfl) (dv 6 rfl) hk.bn (by rw [List.getElem?_map, hj]; rfl) (by rw [List.getElem?_map, hj]; rfl)) danil)) rfl rfl (by simp [keyB]) (by simp) (by simp [keyB])⟩
  · refine dbR (dret (dcatL (ds := [.lst ((pinS pins).map pinR), .lst ((barS bars).map barR)]) (ds2 := [.lst ((beadS beads).map beadR)]) (dv 4 rfl) (dlst (dacons ?_ danil)) (by simp)))
    refine dlcA (own := [("_law_names", 6)]) (beadS beads) (fun e => keyD (keyE e)) beadR rfl sc__law_rows.nd (diL ((dsortT (n := 3) (B := 64) (by decide) T.b_sorted (dlistT rfl T.b_list (dv 3 rfl)) (by rw [List.length_map]; omega) (fun k hm => ?_) (fun a ha b hb q => ?_)).is ?_)) (blkOk_by (N := N__law_rows) (sc := defScope s__law_rows) (by decide +kernel)) (pgN (i := 6) sc__law_rows.nd rfl) (by omega) (fun e he e' he' q => ?_) (fun e he => ?_)
    · obtain ⟨e, he, rfl⟩ := List.mem_map.mp hm
      exact ⟨rfl, keyE_bd (hk.eb e he)⟩
    · obtain ⟨e, he, rfl⟩ := List.mem_map.mp ha
      obtain ⟨e', he', rfl⟩ := List.mem_map.mp hb
      exact hk.codE e he e' he' q
    · rw [hk.beadS, List.map_map]; rfl
    · rw [nodup_inj hk.en e (mem_srt.mp he) e' (mem_srt.mp he') (keyD_inj q)]
    · obtain ⟨j, hj⟩ := List.getElem?_of_mem (mem_srt.mp he)
      exact ⟨_, bcN, fun _ _ _ _ _ => dcatT (ds := (keyE e).map D.int) (ds2 := [numD e.2.2.2]) (dv 6 rfl) (dtup (dacons (ddgetT (j := j) (by exact units1 (by exact hu)) (dv 3 rfl) (dv 6 rfl) hk.en (by rw [List.getElem?_map, hj]; rfl) (by rw [List.getElem?_map, hj]; rfl)) danil)) rfl rfl (by simp [keyE]) (by simp) (by simp [keyE])⟩
end
end K31
end
section
set_option maxHeartbeats 4000000
set_option autoImplicit false
/-! The walk: where a pose is torn. -/
namespace K31
open PySem PySem.Spec PyProof.Rows L2
section
variable {X : Cx} {ρ : Rho} {tg iter : Expr} {pos : Pos} {o : Out} {α : Type}
theorem db_ifret {ρ' : Rho} {c : Expr} {ss : List Stmt} {z : Bool} {r : D} (hc : DT X c ρ z) (hs : DB X ss ρ (.rt r)) (hw : Wk ρ ρ') : (z = true → DB X [.If c ss [] pos] ρ (.rt r)) ∧ (z = false → DB X [.If c ss [] pos] ρ (.nx ρ')) := ⟨fun h => dbR (dif_t (h ▸ hc) hs), fun h => db1 (dif_f (h ▸ hc) db0) (db0k hw)⟩
/-- the first one that is bad ends the walk -/
theorem db_find {body rest : List Stmt} (es : List α) (bad : α → Bool) (row : α → D) (ret : Nat → D) (hp : PassesOwn (model X.prog X.w) X.A X.env X.xe) (hc : X.calm = true) (hi : DI X tg iter ρ (enumD (es.map row)))
    (hs : ∀ (i : Nat) e, es[i]? = some e → ∃ ρ2, DG X tg ρ (.tup [.int (i : Int), row e]) ρ2 ∧ (bad e = true → DB X body ρ2 (.rt (ret i))) ∧ (bad e = false → DB X body ρ2 (.nx ρ)))
    (h1 : ∀ i, es.findIdx? bad = some i → o = .rt (ret i)) (h2 : es.findIdx? bad = none → DB X rest ρ o) (hfs : ∀ x, foldedSetIterable iter X.env x = pure x := by intro _; rfl) : DB X (.For tg iter body [] pos :: rest) ρ o := by
  have step : ∀ (i : Nat) d, (enumD (es.map row))[i]? = some d → ∃ e, es[i]? = some e ∧ d = .tup [.int (i : Int), row e] := fun i d h => by
    obtain ⟨x, hx, rfl⟩ := enumD_get h
    rw [List.getElem?_map] at hx
    obtain ⟨e, he, rfl⟩ := Option.map_eq_some_iff.mp hx
    exact ⟨e, he, rfl⟩
  have hl : (enumD (es.map row)).length = es.length := by rw [enumD_length, List.length_map]
  let rets : Nat → Option D := fun i => match es[i]? with
    | some e => if bad e = true then some (ret i) else none
    | none => none
  have body_ : ∀ (i : Nat) d, (enumD (es.map row))[i]? = some d → (∀ j, j < i → rets j = none) → ∃ ρ2, DG X tg ρ d ρ2 ∧ ((rets i = none → DB X body ρ2 (.nx ρ)) ∧ (∀ r, rets i = some r → DB X body ρ2 (.rt r))) := fun i d hd _ => by
    obtain ⟨e, he, rfl⟩ := step i d hd
    obtain ⟨ρ2, g, b1, b2⟩ := hs i e he
    have hr : rets i = if bad e = true then some (ret i) else none := by show (match es[i]? with | some e => if bad e = true then some (ret i) else none | none => none) = _; rw [he]
    refine ⟨ρ2, g, fun z => b2 ?_, fun r z => ?_⟩
    · cases hb : bad e with
      | false => rfl
      | true => rw [hr, if_pos hb] at z; cases z
    · cases hb : bad e with
      | false => rw [hr, if_neg (by rw [hb]; decide)] at z; cases z
      | true => rw [hr, if_pos hb] at z; cases z; exact b1 hb
  cases hf : es.findIdx? bad with
  | none =>
    refine db1 (dfor (fun _ => ρ) rets hp hc hi rfl body_ (.inr ⟨rfl, fun j hj => ?_⟩) hfs) (h2 hf)
    rw [hl] at hj
    have hb := List.findIdx?_eq_none_iff.mp hf es[j] (List.getElem_mem hj)
    show (match es[j]? with | some e => if bad e = true then some (ret j) else none | none => none) = none
    rw [List.getElem?_eq_getElem hj]
    show (if bad es[j] = true then some (ret j) else none) = none
    rw [if_neg (by rw [hb]; decide)]
  | some i =>
    obtain ⟨hi', hb, hmin⟩ := List.findIdx?_eq_some_iff_getElem.mp hf
    rw [h1 i hf]
    refine dbR (dfor (fun _ => ρ) rets hp hc hi rfl body_ (.inl ⟨ret i, i, by rw [hl]; exact hi', rfl, ?_, fun j hj => ?_⟩) hfs)
    · show (match es[i]? with | some e => if bad e = true then some (ret i) else none | none => none) = _
      rw [List.getElem?_eq_getElem hi']
      exact if_pos hb
    · have hb' := hmin j hj
      show (match es[j]? with | some e => if bad e = true then some (ret j) else none | none => none) = none
      rw [List.getElem?_eq_getElem (Nat.lt_trans hj hi')]
      exact if_neg hb'
end
instance decPl : DecidableEq Pl := fun p q => decidable_of_iff (p.x = q.x ∧ p.y = q.y ∧ p.a = q.a ∧ p.b = q.b ∧ p.r = q.r) ⟨fun ⟨a, b, c, d, e⟩ => by
  cases p; cases q; cases a; cases b; cases c; cases d; cases e; rfl, fun h => by rw [h]; exact ⟨rfl, rfl, rfl, rfl, rfl⟩⟩
theorem plD_good9 (p : Pl) : Good (plD p) 9 := ⟨ptD_good _ _ 6, ptD_good _ _ 6, numD_good p.r 7, trivial⟩
def pinBad (qs : List Pl) (e : PinE) : Bool := !decide (qs[e.1]? = some (ptPl e.2.1 e.2.2))
def barBad (qs : List Pl) (e : BarE) : Bool := match qs[e.1]?, qs[e.2.1]? with
  | some p, some q => !decide (sqQ p.x p.y q = some (e.2.2 * e.2.2))
  | _, _ => true
def beadBad (qs : List Pl) (e : BeadE) : Bool := match qs[e.2.1]?, qs[e.2.2.1]? with
  | some p, some q => !decide (beadQ p q e.2.2.2 = qs[e.1]?)
  | _, _ => true
def tearQ (qs : List Pl) (pins : List PinE) (bars : List BarE) (beads : List BeadE) : Option (Str × Nat) := match pins.findIdx? (pinBad qs) with
  | some i => some ("pin", i)
  | none => match bars.findIdx? (barBad qs) with
    | some i => some ("bar", i)
    | none => match beads.findIdx? (beadBad qs) with
      | some i => some ("bead", i)
      | none => none
def tearD : Option (Str × Nat) → D
  | some (k, i) => .tup [.str k, .int (i : Int)]
  | none => .non
/-- the rows speak of places that are there, bars of points -/
structure Fits (qs : List Pl) (pins : List PinE) (bars : List BarE) (beads : List BeadE) : Prop where
  ok : ∀ p ∈ qs, PlOk p ∧ PlSz p
  pn : ∀ e ∈ pins, ∃ p, qs[e.1]? = some p
  br : ∀ e ∈ bars, ∃ p q, qs[e.1]? = some p ∧ p = ptPl p.x p.y ∧ qs[e.2.1]? = some q ∧ Bd 20 20 e.2.2
  bd : ∀ e ∈ beads, ∃ p q t, qs[e.2.1]? = some p ∧ qs[e.2.2.1]? = some q ∧ qs[e.1]? = some t ∧ Bd 3 3 e.2.2.2 ∧ Bd 3 3 (1 - e.2.2.2)
theorem atI_map' {ps : List Pl} {j : Nat} {p : Pl} (h : ps[j]? = some p) : atI (ps.map plD) (j : Int) = some (plD p) := atI_nat (by rw [List.getElem?_map, h]; rfl)
theorem plD_pt (x y : Rat) : plD (ptPl x y) = .tup [ptD x y, .tup [.int 0, .int 0], .int 0] := by
  show D.tup [ptD x y, ptD ((0 : Int) : Rat) ((0 : Int) : Rat), numD 0] = _
  rw [ptD_int, numD_zero]
theorem cmp_pin {X : Cx} (hu : X.A.units + 64 < cLine) {qs : List Pl} {e : PinE} {p : Pl} {z : Bool} (hp : qs[e.1]? = some p) (hb : pinBad qs e = z) : CmpD X .NotEq (plD p) (.tup [ptD e.2.1 e.2.2, .tup [.int 0, .int 0], .int 0]) z := by
  rw [← plD_pt, ← hb]
  unfold pinBad
  rw [hp]
  exact cne hu (plD_good9 _) (plD_good9 _) (decide_eq_true_iff.trans ⟨fun h => by rw [Option.some.inj h], fun h => by rw [plD_inj h]⟩)
theorem cmp_bar {X : Cx} (hu : X.A.units + 64 < cLine) {qs : List Pl} {e : BarE} {p q : Pl} (hp : qs[e.1]? = some p) (hq : qs[e.2.1]? = some q) : CmpD X .NotEq (optD (sqQ p.x p.y q)) (numD (e.2.2 * e.2.2)) (barBad qs e) := by
  unfold barBad
  rw [hp, hq]
  exact cneO hu
theorem optPl_good (o : Option Pl) : Good (optPl o) 9 := by
  cases o with
  | none => trivial
  | some p => exact plD_good9 p
theorem optPl_inj {o : Option Pl} {p : Pl} (h : optPl o = plD p) : o = some p := by
  cases o with
  | none => cases h
  | some q => rw [plD_inj h]
theorem cmp_bead {X : Cx} (hu : X.A.units + 64 < cLine) {qs : List Pl} {e : BeadE} {p q t : Pl} (hp : qs[e.2.1]? = some p) (hq : qs[e.2.2.1]? = some q) (ht : qs[e.1]? = some t) : CmpD X .NotEq (optPl (beadQ p q e.2.2.2)) (plD t) (beadBad qs e) := by
  unfold beadBad
  rw [hp, hq, ht]
  exact cne hu (optPl_good _) (plD_good9 _) (decide_eq_true_iff.trans ⟨fun h => by rw [h]; rfl, optPl_inj⟩)
section
variable {P : Program} {w : World} {K : PySem.W.Frag} {mg : Str → Option Value} {base : Heap}
def S__law_tear (ds : List D) (d : D) : Prop := ∃ (qs : List Pl) (pins : List PinE) (bars : List BarE) (beads : List BeadE), ds = [rowsD pins bars beads, .tup (qs.map plD)] ∧ Fits qs pins bars beads ∧ d = tearD (tearQ qs pins bars beads)
abbrev N__law_tear : List Str := ["_law_rows_here", "_law_places", "_law_at", "_law_row"]
theorem sc__law_tear : FnScope N__law_tear ["_law_rows_here", "_law_places"] (defScope s__law_tear) := ⟨rfl, rfl, rfl, by decide +kernel, rfl, by decide +kernel, by decide +kernel⟩
theorem ok__law_tear (T : TB K mg) : Ok P w K mg base 7 "_law_tear" 2 S__law_tear := by
  obtain ⟨fd, F⟩ := T.f__law_tear
  refine ok_of (N := N__law_tear) (ps := ["_law_rows_here", "_law_places"]) F T.g__law_tear sc__law_tear rfl (fun _ _ _ _ _ _ us hl => match us, hl with | [_, _], _ => rfl) fun cdv A outer s H ds d E hr hl hS => ?_
  have hu := hr.units
  obtain ⟨qs, pins, bars, beads, rfl, hf, rfl⟩ := hS
  refine ⟨_, ?_, .inl rfl⟩
  unfold tearQ
  refine db_find pins (pinBad qs) pinR (fun i => .tup [.str "pin", .int (i : Int)]) PassesOwn.never rfl (diEL T.b_enumerate (dixL (dv 0 rfl) dint rfl)) (fun i e he => ?_) (fun i hi => by rw [hi]; rfl) (fun hn => ?_)
  · obtain ⟨p, hp⟩ := hf.pn e (List.mem_of_getElem? he)
    exact ⟨_, dgT rfl (dgs1 (dgN (i := 2) sc__law_tear.nd rfl) (dgs1 (dgN (i := 3) sc__law_tear.nd rfl) dgs0)), db_ifret (dt_cmp (cmp_pin hu hp rfl) (dixT (dv 1 rfl) (dixT (dv 3 rfl) dint rfl) (atI_map' hp)) (dtup (dacons (dixT (dv 3 rfl) dint rfl) (dacons (dtup (dacons dint (dacons dint danil))) (dacons dint danil))))) (dbR (dret (dtup (dacons dstr (dacons (dv 2 rfl) danil))))) ⟨.inr rfl, .inr rfl, .inl rfl, .inl rfl, trivial⟩⟩
  rw [hn]
  refine db_find bars (barBad qs) barR (fun i => .tup [.str "bar", .int (i : Int)]) PassesOwn.never rfl (diEL T.b_enumerate (dixL (dv 0 rfl) dint rfl)) (fun i e he => ?_) (fun i hi => by rw [hi]; rfl) (fun hn => ?_)
  · obtain ⟨p, q, hp, hpt, hq, hb20⟩ := hf.br e (List.mem_of_getElem? he)
    obtain ⟨okp, szp⟩ := hf.ok p (List.mem_of_getElem? hp)
    obtain ⟨okq, szq⟩ := hf.ok q (List.mem_of_getElem? hq)
    exact ⟨_, dgT rfl (dgs1 (dgN (i := 2) sc__law_tear.nd rfl) (dgs1 (dgN (i := 3) sc__law_tear.nd rfl) dgs0)), db_ifret (dt_cmp (cmp_bar hu hp hq) (dcall (ok__law_square T) (hr.mono (by decide)) (dacons (dixT (dv 1 rfl) (dixT (dv 3 rfl) dint rfl) (atI_map' hp)) (dacons (dixT (dv 1 rfl) (dixT (dv 3 rfl) dint rfl) (atI_map' hq)) danil)) ⟨p.x, p.y, q, by rw [← hpt], szp.x, szp.y, okq, szq, rfl⟩) (dcall (ok__law_times T) (hr.mono (by decide)) (dacons (dixT (dv 3 rfl) dint rfl) (dacons (dixT (dv 3 rfl) dint rfl) danil)) ⟨e.2.2, e.2.2, rfl, hb20.pr hb20 (by decide) (by decide), rfl⟩)) (dbR (dret (dtup (dacons dstr (dacons (dv 2 rfl) danil))))) ⟨.inr rfl, .inr rfl, .inl rfl, .inl rfl, trivial⟩⟩
  rw [hn]
  refine db_find beads (beadBad qs) beadR (fun i => .tup [.str "bead", .int (i : Int)]) PassesOwn.never rfl (diEL T.b_enumerate (dixL (dv 0 rfl) dint rfl)) (fun i e he => ?_) (fun i hi => by rw [hi]; rfl) (fun hn => ?_)
  · obtain ⟨p, q, t, hp, hq, ht, b1, b2⟩ := hf.bd e (List.mem_of_getElem? he)
    obtain ⟨okp, szp⟩ := hf.ok p (List.mem_of_getElem? hp)
    obtain ⟨okq, szq⟩ := hf.ok q (List.mem_of_getElem? hq)
    exact ⟨_, dgT rfl (dgs1 (dgN (i := 2) sc__law_tear.nd rfl) (dgs1 (dgN (i := 3) sc__law_tear.nd rfl) dgs0)), db_ifret (dt_cmp (cmp_bead hu hp hq ht) (dcall (ok__law_bead T) (hr.mono (by decide)) (dacons (dixT (dv 1 rfl) (dixT (dv 3 rfl) dint rfl) (atI_map' hp)) (dacons (dixT (dv 1 rfl) (dixT (dv 3 rfl) dint rfl) (atI_map' hq)) (dacons (dixT (dv 3 rfl) dint rfl) danil))) ⟨p, q, e.2.2.2, rfl, okp, okq, szp, szq, b1, b2, rfl⟩) (dixT (dv 1 rfl) (dixT (dv 3 rfl) dint rfl) (atI_map' ht))) (dbR (dret (dtup (dacons dstr (dacons (dv 2 rfl) danil))))) ⟨.inr rfl, .inr rfl, .inl rfl, .inl rfl, trivial⟩⟩
  rw [hn]
  exact dbR (dret dnon)
end
end K31
end
section
set_option maxHeartbeats 2000000
set_option autoImplicit false
/-! Instances of own classes: made, read, written, their truth. -/
namespace K31
open PySem PySem.Spec PyProof.Rows L2
theorem LeM.toLe {W W' : Wd} (e : LeM [] [] W W') : Le W W' := ⟨fun b o h => e.hh b o (fun _ hp => nomatch hp) h, e.ss, fun b h1 h2 => e.new b (fun _ hp => nomatch hp) h1 h2⟩
theorem MOk.nil {K : PySem.W.Frag} {W : Wd} : MOk K W [] := ⟨fun _ hp => (nomatch hp), List.nodup_nil⟩
theorem zip_lookup : ∀ {ns : List Str} {xs : List V} {i : Nat} {f : Str} {x : V}, ns.Nodup → ns[i]? = some f → xs[i]? = some x → (ns.zip xs).lookup f = some x
  | [], _, _, _, _, _, h, _ => by simp at h
  | _ :: _, [], _, _, _, _, _, h => by simp at h
  | n :: ns, y :: xs, 0, f, x, _, h1, h2 => by
    simp at h1 h2
    subst h1 h2
    simp [List.lookup]
  | n :: ns, y :: xs, i + 1, f, x, nd, h1, h2 => by
    obtain ⟨h3, h4⟩ := List.nodup_cons.mp nd
    have h1' : ns[i]? = some f := by simpa using h1
    have hne : (f == n) = false := by
      refine beq_eq_false_iff_ne.mpr fun e => h3 ?_
      rw [← e]
      exact List.mem_of_getElem? h1'
    rw [List.zip_cons_cons, List.lookup_cons, hne]
    exact zip_lookup h4 h1' (by simpa using h2)
theorem putF_zip : ∀ {ns : List Str} {xs : List V} {f : Str} {y : V}, ns.length = xs.length → f ∉ ns → putF f y (ns.zip xs) = (ns ++ [f]).zip (xs ++ [y])
  | [], [], _, _, _, _ => rfl
  | [], _ :: _, _, _, h, _ => by cases h
  | _ :: _, [], _, _, h, _ => by cases h
  | n :: ns, x :: xs, f, y, h, hn => by
    have h1 : ¬ n = f := fun e => hn (by rw [e]; exact List.mem_cons_self ..)
    show putF f y ((n, x) :: ns.zip xs) = _
    rw [putF, if_neg h1, putF_zip (Nat.succ.inj h) fun z => hn (List.mem_cons_of_mem _ z)]
    rfl
section
variable {X : Cx} {ρ ρ' : Rho} {m : Mu} {e a b c o : Expr} {es : List Expr} {S : D → Mu → Prop} {R : D → Mu → Prop} {N : Rho → Mu → Prop} {pos pos' : Pos} {d : D} {ds : List D} {p : Addr} {f : Str}
theorem de_em (h : EM X e ρ [] (keepE d [])) : DE X e ρ d := fun σ W E Q q => h σ W E MOk.nil Q fun d' m' v W2 ⟨e1, e2⟩ le M2 r => by
  subst e1 e2
  exact q v W2 le.toLe r
/-- o.f -/
theorem dfld {C : Addr} {ns : List Str} {i : Nat} (ha : DE X a ρ (.obj C ns ds)) (cl : Cls X.K C) (n : NoAttr X.K C f) (nd : ns.Nodup) (hf : ns[i]? = some f) (hd : ds[i]? = some d) (hb : attributeBase a f X.env (eval a X.env) = eval a X.env := by rfl) : DE X (.Attribute a f pos) ρ d :=
  .of (pe_fld (peW a) hb) fun σ W E Q q => ha σ W E _ fun v W1 e1 r1 => by
    obtain ⟨p, dx, xs, rfl, h2, h3, h4⟩ := r1
    obtain ⟨x, hx, rx⟩ := h3.get hd
    exact ⟨p, C, dx, _, x, rfl, W1.sub _ _ h2, cl, n, zip_lookup nd hf hx, q x W1 e1 rx⟩
/-- o.f of an object that changes -/
theorem em_fldM {C dx : Addr} {ns : List Str} {i : Nat} (ha : DE X a ρ (.fn p)) (hm : (p, MO.ins C dx ns ds) ∈ m) (cl : Cls X.K C) (n : NoAttr X.K C f) (nd : ns.Nodup) (hf : ns[i]? = some f) (hd : ds[i]? = some d) (hS : S d m) (hb : attributeBase a f X.env (eval a X.env) = eval a X.env := by rfl) : EM X (.Attribute a f pos) ρ m S :=
  fun σ W E M Q q pins s I => (pe_fld (peW a) hb).run pins s σ W.h Q I (ha σ W E _ fun v W1 e1 r1 => by
    obtain ⟨_, xs, h2, h3, h4⟩ := (M.le e1).at_ _ hm
    obtain ⟨x, hx, rx⟩ := h3.get hd
    exact ⟨p, C, dx, _, x, r1, h2, cl, n, zip_lookup nd hf hx, q d m x W1 hS (e1.toM m) (M.le e1) rx⟩)
/-- o.f = e -/
theorem ins_put {W : Wd} {C dx : Addr} {ns : List Str} {pre post : Mu} {v : V} (M : MOk X.K W (pre ++ (p, .ins C dx ns ds) :: post)) (hf : f ∉ ns) (rv : Rp X.K W.s d v) : ∃ fs, W.h p = some (.ins C dx fs) ∧ fs.length = ns.length ∧
    ∃ hs : W.s p = none, MOk X.K (W.put p (.ins C dx (putF f v fs)) hs) (pre ++ (p, .ins C dx (ns ++ [f]) (ds ++ [d])) :: post) ∧ LeM (pre ++ (p, .ins C dx ns ds) :: post) (pre ++ (p, .ins C dx (ns ++ [f]) (ds ++ [d])) :: post) W (W.put p (.ins C dx (putF f v fs)) hs) := by
  obtain ⟨hs, xs, hx, rx, hlen⟩ := M.mem
  have lx := rx.length
  refine ⟨_, hx, by rw [List.length_zip]; omega, hs, M.put hs ⟨xs ++ [v], ?_, show RpL X.K W.s _ _ from RpL.append rx ⟨v, [], rfl, rv, rfl⟩, by simp [hlen]⟩, LeM.put hs (by rw [hx]; exact fun z => nomatch z)⟩
  rw [← putF_zip (by omega) hf]
  exact upd_same
theorem sm_fld {pos0 : Pos} (ho : DE X o ρ (.fn p)) (h : EM X e ρ m fun dv m1 => ∃ pre post C dx ns ds, m1 = pre ++ (p, .ins C dx ns ds) :: post ∧ Cls X.K C ∧ NoAttr X.K C f ∧ f ∉ ns ∧ ns.length < 1000 ∧ N ρ (pre ++ (p, .ins C dx (ns ++ [f]) (ds ++ [dv])) :: post))
    (hs : swapsWith e (some (.Attribute o f pos')) pos.line X.env = pure false := by rfl) : SM X (.Assign [.Attribute o f pos'] e pos) ρ m R N := fun σ W E M D out pins s I =>
  (ps_fld (peW o) (peW e) hs).run pins s σ W.h D I (h σ W E M _ fun dv m1 v W1 ⟨pre, post, C, dx, ns, ds, em, cl, na, hf, hl, hN⟩ le M1 rv => ho σ W1 (E.mm le) _ fun x W2 e2 rx => by
    subst em
    obtain ⟨fs, hx, lf, hs2, M3, le3⟩ := ins_put (M1.le e2) hf (Rp.le e2 rv)
    refine ⟨p, C, dx, fs, rx, hx, cl, na, by omega, ?_⟩
    exact out.2 ρ _ σ _ hN ((le.trans (e2.toM _)).trans le3) M3 (show EnvD X.K W2.s σ ρ from (E.mm le).le e2))
/-! ### an attribute as a target -/
def gAtt (K : PySem.W.Frag) (to : TE) (f : Str) : TG := fun v σ H Q => to σ H fun x H1 => ∃ a C dx fs, x = .ref a ∧ H1 a = some (.ins C dx fs) ∧ Cls K C ∧ NoAttr K C f ∧ fs.length < 1000 ∧ Q σ (upd H1 a (.ins C dx (putF f v fs)))
theorem pg_att {to : TE} (ho : PE X o to) : PG X (.Attribute o f pos) (gAtt X.K to f) := by
  refine ⟨fun pins s σ H v u Q I r h => ?_⟩
  rw [arm_assign_Attribute]
  refine wpAny_bind (wpAny_holding (thn (ho.run pins s σ H _ I h) fun ov s1 ⟨x, H1, I1, r1, a, C, dx, fs, ex, ea, c, n, l, q⟩ => ?_))
  subst ex
  cases (show ov = Value.ref a from r1)
  refine wpAny_bind (wpAny_standAt (wpAny_bind (wpAny_holding (setattr_ok I1 ea c n l r fun s2 I2 => ?_))))
  exact wpAny_release ⟨σ, _, I2, q⟩
/-! ### made -/
/-- what making and __init__ promise: F0 at the new object and the arguments -/
theorem em_make {k n : Nat} {C fi : Addr} {x : Str} {px : Pos} {F0 : List D → Mu → (D → Mu → Prop) → Prop} (Mk_ : Mk X.K C fi) (F : FnR X.prog X.w X.K X.mg X.base CX0 k fi (spM X.K F0 n)) (hr : Room (k + 1) X.A) (hm : X.mg x = some (.ref C))
    (h : AM X (e :: es) ρ m fun ds m1 => ds.length + 1 = n ∧ ∀ q dx, F0 (.fn q :: ds) ((q, .ins C dx [] []) :: m1) fun d m' => d = .non ∧ ∃ ns ds', m' = (q, .ins C dx ns ds') :: m1 ∧ S (.obj C ns ds') m1) (hg : Gl X x := by rfl)
    (hdb : (x == ("__debug__" : Str)) = false := by decide) (he : starEach (e :: es) X.env = (false, eval e X.env) :: starEach es X.env := by rfl) (hpl : (backTo pos (starEach es X.env)).any (·.1) = false := by rfl) : EM X (.Call (.Name x px) (e :: es) [] pos) ρ m S := by
  refine fun σ W E M Q q pins s I => (StX.pe_makeR Mk_ F hr hg hm (pass0 (X := X)) (paW (e :: es)) hdb he hpl).run pins s σ W.h Q I (h σ W E M _ fun ds m1 vs W1 ⟨hl, hF⟩ le M1 r1 => fun x dx hx hdx ne => ?_)
  have e1 : Le W1 (W1.new dx (.own x)) := Le.new1 hdx
  have hx2 : (W1.new dx (.own x)).h x = none := (upd_ne fun z => ne z.symm).trans hx
  have M2 := (M1.le e1).neu (o := .ins C dx [] []) (u := .ins C dx []) hx2 ⟨[], upd_same, rfl, rfl⟩
  have r2 : RpL X.K ((W1.new dx (.own x)).neu x (.ins C dx []) hx2).s (.fn x :: ds) (.ref x :: vs) := ⟨_, _, rfl, rfl, show RpL X.K (W1.new dx (.own x)).s ds vs from RpL.le e1 r1⟩
  refine ⟨(W1.new dx (.own x)).neu x (.ins C dx []) hx2, .fn x :: ds, (x, .ins C dx [] []) :: m1, _, rfl, by simpa using hl, r2, M2, hF x dx, fun d m' v W3 ⟨ed, ns, ds', em, hS⟩ le3 M3 r3 => ?_⟩
  subst ed em
  obtain ⟨u, hu, M4, le4, r4⟩ := MOk.frz (pre := []) M3
  exact ⟨r3, q (.obj C ns ds') m1 (.ref x) (W3.frz x u hu) hS ((((le.trans (e1.toM _)).trans (LeM.neu hx2)).trans le3).trans le4) M4 r4⟩
theorem em_make0 {k : Nat} {C fi : Addr} {x : Str} {px : Pos} {F0 : List D → Mu → (D → Mu → Prop) → Prop} (Mk_ : Mk X.K C fi) (F : FnR X.prog X.w X.K X.mg X.base CX0 k fi (spM X.K F0 1)) (hr : Room (k + 1) X.A) (hm : X.mg x = some (.ref C))
    (h : ∀ q dx, F0 [.fn q] ((q, .ins C dx [] []) :: m) fun d m' => d = .non ∧ ∃ ns ds', m' = (q, .ins C dx ns ds') :: m ∧ S (.obj C ns ds') m) (hg : Gl X x := by rfl)
    (hdb : (x == ("__debug__" : Str)) = false := by decide) : EM X (.Call (.Name x px) [] [] pos) ρ m S := by
  refine fun σ W E M Q q pins s I => ?_
  refine wpAny_Call_Name_kw (ld_glob I hg hm ?_ hdb)
  refine PySem.W.callWith_K0 I.kIn Mk_.kp (StX.run_makeR (us := []) (vs := []) Mk_ F hr (pass0 (X := X)) I .nil fun x dx hx hdx ne => ?_)
  have e1 : Le W (W.new dx (.own x)) := Le.new1 hdx
  have hx2 : (W.new dx (.own x)).h x = none := (upd_ne fun z => ne z.symm).trans hx
  have M2 := (M.le e1).neu (o := .ins C dx [] []) (u := .ins C dx []) hx2 ⟨[], upd_same, rfl, rfl⟩
  refine ⟨(W.new dx (.own x)).neu x (.ins C dx []) hx2, [.fn x], (x, .ins C dx [] []) :: m, _, rfl, rfl, ⟨_, _, rfl, rfl, rfl⟩, M2, h x dx, fun d m' v W3 ⟨ed, ns, ds', em, hS⟩ le3 M3 r3 => ?_⟩
  subst ed em
  obtain ⟨u, hu, M4, le4, r4⟩ := MOk.frz (pre := []) M3
  exact ⟨r3, q (.obj C ns ds') m (.ref x) (W3.frz x u hu) hS (((e1.toM _).trans (LeM.neu hx2)).trans (le3.trans le4)) M4 r4⟩
end
/-! ### defs at an address -/
theorem fnR_of {P : Program} {w : World} {K : PySem.W.Frag} {mg : Str → Option Value} {base : Heap} {CX : CXT} {k : Nat} {f : Addr} {fd : FuncData} {ps : List Str} {sp : Sp} (F : FnOk P w K mg base CX k f fd ps sp) (hb : L2.Binds K fd ps []) : FnR P w K mg base CX k f sp := fun A outer s H us vs Q E hr e0 r h => by
  have hl : us.length = ps.length := by rw [← r.length]; exact F.len _ _ _ _ h
  have z := F.run A outer s H ⟨us, []⟩ us vs Q E hr e0
  have b := hb s us (e0.mod.kin.keeps fun b o e => (e0.bs b o e).1) (by rw [List.append_nil]; exact hl)
  rw [List.append_nil] at b
  exact z b r h
theorem okR_of {P : Program} {w : World} {K : PySem.W.Frag} {mg : Str → Option Value} {base : Heap} {x qual : Str} {params : Arguments} {body : List Stmt} {scope : Scope} {f : Addr} {fd : FuncData} {N ps : List Str} {k n : Nat} {F0 : List D → Mu → (D → Mu → Prop) → Prop}
    (F : FunD K x qual params body scope [] [] f fd) (Sc : FnScope N ps scope) (hn : ps.length = n)
    (hbind : ∀ (kV doc pm : Value) (an : Option Addr) (cdv ct : Value) (us : List Value), us.length = ps.length → bindArgs (PySem.W.fnOf x qual params body scope .none kV doc pm an cdv ct) ⟨us, []⟩ = pure (ps.zip us))
    (hbody : ∀ (cdv : Value) (A : Around) (outer : List Env) (s : Shared) (H : Hp) (ds : List D) (m : Mu) (S : D → Mu → Prop) (E : XK), Room k (A.deeper (envOfC qual scope s.heap.objs.size f cdv)) → ds.length = n → F0 ds m S →
      BM (cxOf CX0 P w K mg base N qual scope f cdv A outer s H E).nox body (ds.map some ++ List.replicate (N.length - ds.length) none) m S fun _ m' => S .non m') : FnR P w K mg base CX0 (k + 1) f (spM K F0 n) := by
  refine fnR_of (ps := ps) (F.ok Sc (fun vs H Q E h => ?_) fun cdv A outer s H vs Q E hr h => ?_) (F.bindsN hbind)
  · obtain ⟨W, ds, m, S, _, hl, r, _⟩ := h
    rw [r.length, hl, hn]
  · obtain ⟨W, ds, m, S, rfl, hl, r, M, hF, q⟩ := h
    have hN : ds.length ≤ N.length := by
      have h1 := congrArg List.length Sc.pre
      rw [List.length_take] at h1
      omega
    refine ⟨wB (cxOf CX0 P w K mg base N qual scope f cdv A outer s W.h E).nox body, (pbW body).nox, ?_⟩
    exact hbody cdv A outer s W.h ds m S E hr hl hF _ W (EnvD.start r hN) M _ ⟨fun d m' v W2 hS le M2 r2 => q d m' v W2 hS le M2 r2, fun ρ' m' σ' W2 hS le M2 E2 => q .non m' .non W2 hS le M2 rfl⟩
end K31
end
section
set_option maxHeartbeats 2000000
set_option autoImplicit false
/-! sorted by a def of the text as key; how many unlike ints a tuple has. -/
namespace K31
open PySem PySem.Spec PyProof.Rows L2
/-! ### the order of keys -/
theorem lt_code {B : Int} : ∀ {xs ys : List Int}, xs.length = ys.length → TS.Bd B xs → TS.Bd B ys → xs < ys → TS.code B xs < TS.code B ys
  | [], [], _, _, _, h => absurd h (by decide)
  | [], _ :: _, hl, _, _, _ => by cases hl
  | _ :: _, [], hl, _, _, _ => by cases hl
  | x :: xs, y :: ys, hl, h1, h2, h => by
    have hl' : xs.length = ys.length := Nat.succ.inj hl
    rcases List.cons_lt_cons_iff.mp h with c | ⟨c, h'⟩
    · exact TS.code_lt hl' (fun m hm => h1 m (List.mem_cons_of_mem _ hm)) (fun m hm => h2 m (List.mem_cons_of_mem _ hm)) c
    · subst c
      exact (TS.code_same hl').mpr (lt_code hl' (fun m hm => h1 m (List.mem_cons_of_mem _ hm)) (fun m hm => h2 m (List.mem_cons_of_mem _ hm)) h')
def keyPy (ks : List Int) : PyData := .tuple (ks.map .int)
theorem sorted_keep {α : Type} {key : α → List Int} {n : Nat} {B : Int} {es : List α} (hk : ∀ e ∈ es, (key e).length = n ∧ TS.Bd B (key e)) (hs : es.Pairwise fun a b => TS.code B (key a) ≤ TS.code B (key b)) : es.mergeSort (PySem.W.dataLe false fun e => keyPy (key e)) = es := by
  refine List.mergeSort_of_pairwise (hs.imp_of_mem fun {a b} ha hb h => ?_)
  show (!PySem.W.rowLt ((key b).map .int) ((key a).map .int)) = true
  rw [PySem.W.dataLt_ints]
  have : ¬ key b < key a := fun z => by
    have := lt_code ((hk b hb).1.trans (hk a ha).1.symm) (hk b hb).2 (hk a ha).2 z
    omega
  simp [this]
theorem alike_ints : ∀ {xs ys : List Int}, PySem.W.alikeAll (xs.map .int) (ys.map .int) = true
  | [], _ => by simp [PySem.W.alikeAll]
  | x :: xs, [] => by simp [PySem.W.alikeAll]
  | x :: xs, y :: ys => by
    rw [List.map_cons, List.map_cons]
    simp only [PySem.W.alikeAll, PySem.W.alike, Bool.true_and]
    exact alike_ints
theorem depth_ints : ∀ ks : List Int, PyData.depthAll (ks.map .int) ≤ 1
  | [] => by simp [PyData.depthAll]
  | k :: ks => by
    have := depth_ints ks
    simp only [List.map_cons, PyData.depthAll, PyData.depth]
    omega
/-! ### the key def runs, and keeps all -/
inductive IntsR : List Value → List Int → Prop
  | nil : IntsR [] []
  | cons {i : Int} {t : Tok} {us : List Value} {ks : List Int} : IntsR us ks → IntsR (.int i t :: us) (i :: ks)
theorem intsR_of {K : PySem.W.Frag} {H : Hp} : ∀ {ks : List Int} {xs : List V} {us : List Value}, RpL K H (ks.map D.int) xs → Vals xs us → IntsR us ks
  | [], _, _, h, r => by
    cases h
    cases r
    exact .nil
  | k :: ks, _, _, h, r => by
    obtain ⟨x, ys, rfl, h1, h2⟩ := h
    cases r with
    | cons ra rr =>
      cases (show x = .int k from h1)
      obtain ⟨t, rfl⟩ := (show ∃ t, _ = Value.int k t from ra)
      exact .cons (intsR_of h2 rr)
theorem IntsR.reads {h : Heap} : ∀ {us : List Value} {ks : List Int}, IntsR us ks → ReadsAll h us (ks.map .int) []
  | _, _, .nil => .nil
  | _, _, .cons r => .cons (as := []) (bs := []) (.int _ _) (IntsR.reads r)
theorem IntsR.length : ∀ {us : List Value} {ks : List Int}, IntsR us ks → us.length = ks.length
  | _, _, .nil => rfl
  | _, _, .cons r => by simp [IntsR.length r]
theorem cut_last {α : Type} (xs : List α) (x : α) : ((xs ++ [x]).drop (HT.sIx (xs ++ [x]).length 0 none)).take (HT.sIx (xs ++ [x]).length (xs ++ [x]).length (some (-1)) - HT.sIx (xs ++ [x]).length 0 none) = xs := by
  have h1 : HT.sIx (xs ++ [x]).length 0 none = 0 := rfl
  have h2 : HT.sIx (xs ++ [x]).length (xs ++ [x]).length (some (-1)) = xs.length := by
    unfold HT.sIx
    simp
    omega
  rw [h1, h2]
  simp
abbrev N_joints_of : List Str := ["row"]
theorem sc_joints_of : FnScope N_joints_of ["row"] (defScope s_joints_of) := ⟨rfl, rfl, rfl, by decide +kernel, rfl, by decide +kernel, by decide +kernel⟩
theorem joints_cell : ∀ x ∈ (defScope s_joints_of).names, x.2 ≠ .cell := by decide +kernel
theorem joints_row : (defScope s_joints_of).names.lookup ("row" : Str) = some .local := by decide +kernel
/-- joints_of(row): all stands as before, a new tuple -/
theorem joints_pure {P : Program} {w : World} {K : PySem.W.Frag} {mg : Str → Option Value} (T : TB K mg) {A : Around} {s : Shared} {a : Addr} {us : List Value} {x : Value} {ks : List Int}
    (hroom : A.depth < recursionLimit) (KX : K.In s.heap) (lim : s.heap.NoLimit) (ht : IsTup s.heap a (us ++ [x]).toArray) (r : IntsR us ks) (hz : us.length ≤ 900) :
    wpAny (model P w) A (call (.ref (He.ga K "joints_of")) [.ref a]) (PySem.W.KeyPure (keyPy ks) s) (fun _ _ => False) s := by
  obtain ⟨fd, F⟩ := T.f_joints_of
  obtain ⟨oc, od, dV, kV, doc, pm, an, cdv, ct, osl, rfl, lk, hcd, hD, _⟩ := F.ex
  rcases hD with ⟨_, rfl⟩ | ⟨z, _⟩
  · obtain ⟨hp, g, d, t, os⟩ := s
    refine wpAny_call (codeAny_call_function hroom (KX _ _ lk) rfl sc_joints_of.co sc_joints_of.gen rfl (PySem.W.codeRec_of KX hcd) ?_)
    have hb : bindArgs (PySem.W.fnOf "joints_of" "joints_of" (defArgs s_joints_of) (defBody s_joints_of) (defScope s_joints_of) .none kV doc pm an cdv ct) ⟨[.ref a], []⟩ = pure (((["row"] : List Str)).zip [Value.ref a]) := rfl
    rw [hb]
    refine wpAny_pure ?_
    refine wpAny_newFunctionEnv joints_cell (fun y hy => ?_) (fun h₁ hns hsb => ⟨lim.fresh _ hsb, ?_⟩) sc_joints_of.kind
    · cases hy with
      | head => exact joints_row
      | tail _ z => cases z
    · refine codeAny_func ?_
      have kp : ∀ b o, hp.get? b = some o → h₁.get? b = some o := fun b o e => hsb.extBut b o (Nat.ne_of_lt (Heap.lt_size e)) (Heap.get?_push_of_some _ e)
      obtain ⟨ot, e1, e2, nt, e3⟩ := ht
      refine wpAny_execs_cons (wpAny_Return_some (Subscript_ (wpAny_Name (wpAny_loadName_local rfl joints_row hns rfl ?_) (by decide))))
      refine wpAny_Slice ?_
      refine evalPart_none_step (evalPart_some_step (UnaryOp_ (wpAny_Constant_int (neg_int (evalPart_none_step ?_)))))
      have ht2 : ∀ h2 : Heap, (∀ b o, h₁.get? b = some o → h2.get? b = some o) → IsTup h2 a (us ++ [x]).toArray := fun h2 k => ⟨ot, k _ _ (kp _ _ e1), e2, nt, e3⟩
      refine tail_any (ops := [_, .ref a]) (T := "tuple") ⟨ot, Heap.get?_push_of_some _ (kp _ _ e1), e2⟩ PyProof.Rows.slot_tuple_getitem.lookup ?_ (by with_unfolding_all rfl)
      refine HT.getItem_tuple_cut (lo := none) (hi := some (-1)) (ht2 _ fun b o e => Heap.get?_push_of_some _ e) (Heap.IsSliceOf.new ..) .none (.int _ _) ?_ ?_ (by rw [List.size_toArray, List.length_append, List.length_singleton]; exact sz_le (by omega))
      · rintro ⟨_, z⟩
        simp [HT.sIx] at z
        omega
      · refine ⟨_, _, rfl, fun b o e => Heap.get?_push_of_some _ (Heap.get?_push_of_some _ (kp b o e)), ?_⟩
        refine .tuple (Heap.get?_push_size _ rfl) rfl rfl ?_
        have e : (((us ++ [x]).toArray.toList.drop (HT.sIx (us ++ [x]).toArray.size 0 none)).take (HT.sIx (us ++ [x]).toArray.size (us ++ [x]).toArray.size (some (-1)) - HT.sIx (us ++ [x]).toArray.size 0 none)) = us := by
          have := cut_last us x
          simpa using this
        rw [e]
        exact r.reads
  · exact absurd rfl z
/-! ### sorted(rows, key=joints_of) -/
/-- a row of ints and one thing more -/
def RowAt (K : PySem.W.Frag) (H : Hp) (x : V) (ks : List Int) : Prop := ∃ t y, x = .ref t ∧ SqT K H t (ks.map V.int ++ [y]) ∧ ks ≠ [] ∧ ks.length ≤ 900
def rSortJ (K : PySem.W.Frag) : List V → List V → Hp → VK → Prop := fun vs zs H Q => ∃ (l : Addr) (bs : List (V × List Int)) (n : Nat) (B : Int), vs = [.ref l] ∧ zs = [.ref (He.ga K "joints_of")] ∧ SqL K H l (bs.map (·.1)) ∧ bs.length ≤ 900 ∧
  (∀ b ∈ bs, RowAt K H b.1 b.2 ∧ b.2.length = n ∧ TS.Bd B b.2) ∧ (bs.Pairwise fun a b => TS.code B a.2 ≤ TS.code B b.2) ∧ ∀ p, H p = none → Q (.ref p) (upd H p (.lst (bs.map (·.1))))
theorem intsR_vals : ∀ {ks : List Int} {us : List Value}, Vals (ks.map V.int) us → IntsR us ks
  | [], _, .nil => .nil
  | k :: ks, _, .cons r t => by
    obtain ⟨k', rfl⟩ := r
    exact .cons (intsR_vals t)
theorem each_rel {R : Value → V × List Int → Prop} (hR : ∀ v b, R v b → RelV b.1 v) : ∀ {us : List Value} {bs : List (V × List Int)}, PySem.W.EachIs R us bs → Vals (bs.map (·.1)) us
  | _, _, .nil => .nil
  | _, _, .cons h t => .cons (hR _ _ h) (each_rel hR t)
theorem each_of {R : Value → V × List Int → Prop} : ∀ {bs : List (V × List Int)} {us : List Value}, (∀ b ∈ bs, ∀ v, RelV b.1 v → R v b) → Vals (bs.map (·.1)) us → PySem.W.EachIs R us bs
  | [], _, _, .nil => .nil
  | b :: bs, _, h, .cons r t => .cons (h b (List.mem_cons_self ..) _ r) (each_of (fun b hb => h b (List.mem_cons_of_mem _ hb)) t)
theorem cr_sortJ {X : Cx} {k : Nat} (T : TB X.K X.mg) (hr : Room k X.A) : CallRK X (.builtin "sorted") [Str.ofString "key"] (rSortJ X.K) := by
  intro pins s σ H vs zs us ws Q I r rz h
  obtain ⟨l, bs, n, B, rfl, rfl, hl, hz, hb, hs, q⟩ := h
  obtain rfl := Vals.ref1 r
  obtain ⟨w1, rfl, e1⟩ := vals1 rz
  obtain rfl : w1 = Value.ref (He.ga X.K "joints_of") := e1
  obtain ⟨its, rv, pl, hzz⟩ := I.list hl
  let R : Value → V × List Int → Prop := fun v b => RelV b.1 v ∧ ∃ a us x, v = Value.ref a ∧ IsTup s.heap a (us ++ [x]).toArray ∧ IntsR us b.2 ∧ us.length ≤ 900
  have hR : ∀ b ∈ bs, ∀ v, RelV b.1 v → R v b := fun b hbm v rv => by
    obtain ⟨⟨t, y, e2, ht, _, h9⟩, _, _⟩ := hb b hbm
    refine ⟨rv, ?_⟩
    rw [e2] at rv
    cases rv
    obtain ⟨us, ru, hu, _⟩ := I.tuple ht
    obtain ⟨u1, u2, eu, r1, r2⟩ := StX.vals_split ru
    obtain ⟨x, rfl, _⟩ := vals1 r2
    subst eu
    exact ⟨t, u1, x, rfl, hu, intsR_vals r1, by rw [← r1.length, List.length_map]; exact h9⟩
  refine PySem.W.sorted_key_data (b := false) (R := R) (vs := its) (fun b : V × List Int => keyPy b.2) pl.isList (each_of hR rv) ?_ (.inl fun d hd => ?_) ?_ (fun b hbm => ?_) (ksk_s1 _ _) (fun _ => ksk_l1 _ _) (fun _ => ksk_t1 _ _) (fun v b hv hbm h tk kp => ?_) fun out c h' tk kp _ hD hlen eo => ?_
  · intro d hd d' hd'
    obtain ⟨b, _, rfl⟩ := List.mem_map.mp hd
    obtain ⟨b', _, rfl⟩ := List.mem_map.mp hd'
    show PySem.W.alikeAll _ _ = true
    exact alike_ints
  · obtain ⟨b, hbm, rfl⟩ := List.mem_map.mp hd
    obtain ⟨⟨_, _, _, _, hne, _⟩, _, _⟩ := hb b hbm
    cases hk : b.2 with
    | nil => exact absurd hk hne
    | cons i r => exact ⟨.int i, r.map .int, rfl⟩
  · exact sz_le (by omega)
  · have h1 := hr.units
    have h2 := depth_ints b.2
    have h3 : (keyPy b.2).depth = PyData.depthAll (b.2.map .int) + 1 := by unfold keyPy; simp only [PyData.depth]
    omega
  · obtain ⟨_, a, us, x, rfl, ⟨o, o1, o2⟩, hi, h9⟩ := hv
    exact joints_pure T (s := { s with heap := h, toks := tk }) (by exact hr.depth) (I.kIn.keeps kp) (I.nolimit.keeps kp) ⟨o, kp _ _ o1, o2⟩ hi h9
  · have em : bs.mergeSort (PySem.W.dataLe false fun b : V × List Int => keyPy b.2) = bs := sorted_keep (key := fun b : V × List Int => b.2) (n := n) (B := B) (fun b hbm => (hb b hbm).2) hs
    rw [em] at eo
    exact ⟨.ref _, _, I.laid (t' := tk) (o := .lst (bs.map (·.1))) kp (Nat.le_succ _) ⟨by rw [List.length_map]; exact sz_le (by omega), out, c, each_rel (fun v b h => h.1) eo, hD⟩, rfl, q _ (I.hok.fresh (Nat.le_succ _))⟩
theorem RpL.snoc_inv {K : PySem.W.Frag} {H : Hp} {d : D} : ∀ {ds : List D} {xs : List V}, RpL K H (ds ++ [d]) xs → ∃ ys y, xs = ys ++ [y] ∧ RpL K H ds ys ∧ Rp K H d y
  | [], xs, h => by
    obtain ⟨x, ys, rfl, h1, h2⟩ := h
    cases h2
    exact ⟨[], x, rfl, rfl, h1⟩
  | e :: ds, xs, h => by
    obtain ⟨x, ys, rfl, h1, h2⟩ := h
    obtain ⟨zs, y, rfl, h3, h4⟩ := RpL.snoc_inv (ds := ds) h2
    exact ⟨x :: zs, y, rfl, ⟨x, zs, rfl, h1, h3⟩, h4⟩
section
variable {X : Cx} {ρ : Rho} {a b : Expr} {d : D} {ds : List D} {pos p p2 kpos : Pos}
theorem dsortJ {k n : Nat} {B : Int} {α : Type} {es : List α} {row : α → D} {key : α → List Int} {lst : α → D} (T : TB X.K X.mg) (hr : Room k X.A) (ha : DE X a ρ (.lst (es.map row))) (hrow : ∀ e ∈ es, row e = .tup ((key e).map D.int ++ [lst e])) (hk : ∀ e ∈ es, (key e).length = n ∧ TS.Bd B (key e))
    (hn : 1 ≤ n) (hn9 : n ≤ 900) (hso : es.Pairwise fun a b => TS.code B (key a) ≤ TS.code B (key b)) (hl : es.length ≤ 900) (hg : Gl X "sorted" := by rfl) (hg2 : Gl X "joints_of" := by rfl) (hs : starEach [a] X.env = (false, eval a X.env) :: starEach [] X.env := by rfl)
    (he : backTo pos (starEach [a] X.env) = (false, eval a X.env) :: backTo pos (starEach [] X.env) := by rfl) (hpl : (backTo pos (starEach [a] X.env)).any (·.1) = false := by rfl)
    (hall : (backToKw pos (keywordEach [⟨some "key", .Name "joints_of" p2, kpos⟩] X.env)).all (·.1.isSome) = true := by rfl) (hnone : (backToKw pos (keywordEach [⟨some "key", .Name "joints_of" p2, kpos⟩] X.env)).any (·.1.isNone) = false := by rfl) (hks : (backToKw pos (keywordEach [⟨some "key", .Name "joints_of" p2, kpos⟩] X.env)).filterMap (·.1) = [Str.ofString "key"] := by rfl) :
    DE X (.Call (.Name "sorted" p) [a] [⟨some "key", .Name "joints_of" p2, kpos⟩] pos) ρ (.lst (es.map row)) :=
  .of (pe_callBK (cr_sortJ T hr) hg T.b_sorted boot_sorted (pa_cons (peW a) pa_nil hs) (pk_cons (pe_glob (v := .ref (He.ga X.K "joints_of")) hg2 T.g_joints_of rfl) pk_nil) (he := he) (hpl := hpl) (hall := hall) (hnone := hnone) (hks := hks)) fun σ W E Q q => ha σ W E _ fun v W1 e1 r1 => by
    obtain ⟨t, xs, rfl, h2, h3⟩ := r1
    have lx : xs.length = es.length := by rw [h3.length, List.length_map]
    have ex : (xs.zip (es.map key)).map (·.1) = xs := List.map_fst_zip (by rw [List.length_map]; omega)
    refine ⟨t, xs.zip (es.map key), n, B, rfl, rfl, by rw [ex]; exact Wd.seq h2, by rw [List.length_zip, List.length_map]; omega, fun b hb => ?_, ?_, fun p hp => ?_⟩
    · obtain ⟨i, hi⟩ := List.mem_iff_getElem?.mp hb
      obtain ⟨i1, i2⟩ := List.getElem?_zip_eq_some.mp hi
      rw [List.getElem?_map] at i2
      obtain ⟨e, he2, ek⟩ := Option.map_eq_some_iff.mp i2
      have hm := List.mem_of_getElem? he2
      obtain ⟨d, hd, rd⟩ := h3.nth i1
      rw [List.getElem?_map, he2] at hd
      have hd2 : row e = d := Option.some.inj hd
      rw [← hd2, hrow e hm] at rd
      obtain ⟨u, zs, eu, hz, rz⟩ := rd
      obtain ⟨ys, y, rfl, ry, _⟩ := RpL.snoc_inv rz
      obtain ⟨k1, k2⟩ := hk e hm
      refine ⟨⟨u, y, eu, ?_, ?_, ?_⟩, ?_, ?_⟩
      · rw [← ek, ← rpl_ints ry]; exact Wd.sqT hz
      · rw [← ek]; intro z; rw [z] at k1; simp at k1; omega
      · rw [← ek]; omega
      · rw [← ek]; exact k1
      · rw [← ek]; exact k2
    · rw [List.pairwise_iff_getElem] at hso ⊢
      intro i j hi hj hij
      rw [List.length_zip, List.length_map] at hi hj
      simp only [List.getElem_zip, List.getElem_map]
      exact hso i j (by omega) (by omega) hij
    · rw [ex]
      exact q _ _ (e1.trans (Le.new1 hp)) ⟨p, xs, rfl, .inl (.inl upd_same), RpL.le (Le.new1 hp) h3⟩
/-! ### len(set(t)), t a tuple of unlike ints -/
def tUnl (K : PySem.W.Frag) (ta : TE) : TE := fun σ H Q => ta σ H fun x H1 => ∃ (l : Addr) (ns : List Int), x = .ref l ∧ SqT K H1 l (ns.map V.int) ∧ ns.Nodup ∧ ns.length ≤ 100 ∧ Q (.int (ns.length : Nat)) H1
theorem pe_unl {ta : TE} (hm : X.mg "len" = none) (hm2 : X.mg "set" = none) (ha : PE X a ta) (hc : X.calm = true) (hg : Gl X "len") (hg2 : Gl X "set") (na : starEach [a] X.env = (false, eval a X.env) :: starEach [] X.env) : PE X (.Call (.Name "len" p) [.Call (.Name "set" p2) [a] [] kpos] [] pos) (tUnl X.K ta) := by
  refine ⟨fun pins s σ H Q I h => Call_ (ld_blt I hg hm boot_len (callWith_builtin1 (args_cons (Call_ (ld_blt I hg2 hm2 boot_set ?_)) rfl) rfl rfl))⟩
  refine callWith_type1 (args_cons (thn (ha.run pins s σ H _ I h) fun v s1 ⟨x, H1, I1, r1, q1⟩ => args_nil ?_) na) na rfl
  obtain ⟨l, ns, rfl, hq, hnd, hl, q1⟩ := q1
  cases r1
  obtain ⟨its, r, ht, hz⟩ := I1.tuple hq
  have hln := hl
  refine call_set_tupI ns (I1.ok.hd hc) ht (by simpa using intsAre_of r) (by unfold scanBound; omega) fun h' tk c hS hc' kp => ?_
  refine args_nil ?_
  obtain ⟨o, es, ep, t, ho, hex, hd, _, hnd2, hmem, _, hf, hsz, _⟩ := hS
  have hcard : es.size = ns.length := by
    have hp : (es.toList.map keyOf).Perm ns := (List.perm_ext_iff_of_nodup hnd2 hnd).mpr fun k => by
      rw [← hmem k]
      exact decide_eq_true_iff
    have := hp.length_eq
    simpa using this
  have I2 : Inv X pins σ H1 { s1 with heap := h', toks := tk } := I1.kept kp
  exact call_len_set ho hex hd hf (by rw [hcard]; omega) ⟨.int ns.length, H1, I2.tok _, ⟨_, by rw [hcard]⟩, q1⟩
theorem dunl {ks : List Int} (hc : X.calm = true) (hm : X.mg "len" = none) (hm2 : X.mg "set" = none) (ha : DE X a ρ (.tup (ks.map D.int))) (hn : ks.Nodup) (hl : ks.length ≤ 100) (hg : Gl X "len" := by rfl) (hg2 : Gl X "set" := by rfl) (na : starEach [a] X.env = (false, eval a X.env) :: starEach [] X.env := by rfl) :
    DE X (.Call (.Name "len" p) [.Call (.Name "set" p2) [a] [] kpos] [] pos) ρ (.int ks.length) :=
  .of (pe_unl hm hm2 (peW a) hc hg hg2 na) fun σ W E Q q => ha σ W E _ fun v W1 e1 r1 => by
    obtain ⟨t, xs, rfl, h2, h3⟩ := r1
    rw [rpl_ints h3] at h2
    exact ⟨t, ks, rfl, Wd.sqT h2, hn, hl, q _ W1 e1 rfl⟩
end
end K31
end
section
set_option maxHeartbeats 4000000
set_option autoImplicit false
/-! The walk: what a machine is made of. -/
namespace K31
open PySem PySem.Spec PyProof.Rows L2
theorem ints_good (ks : List Int) : Good (.tup (ks.map D.int)) 9 := show GoodL _ 8 from GoodL.of fun d hd => by
  obtain ⟨k, _, rfl⟩ := List.mem_map.mp hd
  trivial
theorem ints_inj : ∀ {ks ls : List Int}, ks.map D.int = ls.map D.int → ks = ls
  | [], [], _ => rfl
  | [], _ :: _, h => by cases h
  | _ :: _, [], h => by cases h
  | k :: ks, l :: ls, h => by
    rw [List.map_cons, List.map_cons] at h
    injection h with h1 h2
    injection h1 with h1
    rw [h1, ints_inj h2]
section
variable {X : Cx} {ρ : Rho} {e : Expr} {es : List Expr} {d : D} {ds : List D} {pos : Pos}
/-- a def that a slot holds -/
structure OkA (P : Program) (w : World) (K : PySem.W.Frag) (mg : Str → Option Value) (base : Heap) (k : Nat) (f : Addr) (n : Nat) (S : List D → D → Prop) : Prop where
  ex : ∃ (fd : FuncData) (ps : List Str), PySem.W.keepIn K (.ref f) = true ∧ L2.Binds K fd ps [] ∧ ps.length = n ∧ FnOk P w K mg base CX0 k f fd ps (spD K S n)
theorem Ok.at_ {P : Program} {w : World} {K : PySem.W.Frag} {mg : Str → Option Value} {base : Heap} {k n : Nat} {f : Addr} {x : Str} {S : List D → D → Prop} (F : Ok P w K mg base k x n S) (hm : mg x = some (.ref f)) : OkA P w K mg base k f n S := by
  obtain ⟨f', fd, ps, hm', hk, hb, hl, ok⟩ := F.ex
  rw [hm] at hm'
  cases hm'
  exact ⟨fd, ps, hk, hb, hl, ok⟩
theorem dcallL {k n i : Nat} {S : List D → D → Prop} {p : Pos} {x : Str} {f : Addr} (F : OkA X.prog X.w X.K X.mg X.base k f n S) (hr : Room k X.A) (hρ : ρ[i]? = some (some (.fn f))) (ha : DA X (e :: es) ρ ds) (hS : S ds d) (hn : ds.length = n := by rfl) (hN : X.N[i]? = some x := by rfl)
    (hv : Vis X.env.scope x := by first | exact Or.inl rfl | exact Or.inr (Or.inl rfl) | exact Or.inr (Or.inr rfl)) (hdb : (x == ("__debug__" : Str)) = false := by decide) (hcd : (x == ("__classdict__" : Str)) = false := by decide)
    (he : starEach (e :: es) X.env = (false, eval e X.env) :: starEach es X.env := by rfl) (hpl : (backTo pos (starEach es X.env)).any (·.1) = false := by rfl) : DE X (.Call (.Name x p) (e :: es) [] pos) ρ d := by
  obtain ⟨fd, ps, hk, hb, hl, ok⟩ := F.ex
  exact .of (pe_callL ok hr hN hv hk hb .nil (pass0 (X := X)) (paW (e :: es)) hdb hcd he hpl) fun σ W E Q q => by
    obtain ⟨v, h1, h2⟩ := E.at_ i _ hρ
    cases (show v = .ref f from h2)
    exact ⟨h1, ha σ W E _ fun vs W1 e1 r1 => ⟨W1, ds, d, rfl, hn, by rw [List.append_nil]; exact r1, hS, fun v W2 e2 r2 => q v W2 (e1.trans e2) r2⟩⟩
end
section
variable {P : Program} {w : World} {K : PySem.W.Frag} {mg : Str → Option Value} {base : Heap}
def S_are_joints (ds : List D) (d : D) : Prop := ∃ (ks : List Int) (n : Int), ds = [.tup (ks.map D.int), .int n] ∧ ks.Nodup ∧ ks.length ≤ 100 ∧ (∀ k ∈ ks, 0 ≤ k ∧ k < n) ∧ d = .bl true
abbrev N_are_joints : List Str := ["values", "many", "each"]
theorem sc_are_joints : FnScope N_are_joints ["values", "many"] (defScope s_are_joints) := ⟨rfl, rfl, rfl, by decide +kernel, rfl, by decide +kernel, by decide +kernel⟩
theorem ok_are_joints (T : TB K mg) : Ok P w K mg base 3 "are_joints" 2 S_are_joints := by
  obtain ⟨fd, F⟩ := T.f_are_joints
  refine ok_of (N := N_are_joints) (ps := ["values", "many"]) F T.g_are_joints sc_are_joints rfl (fun _ _ _ _ _ _ us hl => match us, hl with | [_, _], _ => rfl) fun cdv A outer s H ds d E hr hl hS => ?_
  obtain ⟨ks, n, rfl, hnd, hl9, hk, rfl⟩ := hS
  refine ⟨_, ?_, .inl rfl⟩
  refine dbR (dret (de_and_t (dall (bs := ks.map fun _ => true) rfl T.b_all (DE.is (dlc (own := [("each", 2)]) (fun d => .bl true) rfl sc_are_joints.nd (diT (dv 0 rfl)) (blkOk_by (N := N_are_joints) (sc := defScope s_are_joints) (by decide +kernel)) (pgN (i := 2) sc_are_joints.nd rfl) (by rw [List.length_map]; omega) (fun d hd => ?_)) (by rw [List.map_map, List.map_map]; rfl)) |>.is ?_) (de_one (DE.is (de_cmp ceqI (dunl rfl T.b_len T.b_set (dv 0 rfl) hnd hl9) (dlen T.b_len (dv 0 rfl) rfl)) ?_))))
  · obtain ⟨k, hkm, rfl⟩ := List.mem_map.mp hd
    obtain ⟨h1, h2⟩ := hk k hkm
    refine ⟨_, bcN, fun _ _ _ _ _ => dcall (ok_is_within T) (hr.mono (by decide)) (dacons (dv 2 rfl) (dacons dint (dacons (dsub (dv 1 rfl) dint) danil))) ⟨_, _, _, _, rfl, rfl, trivial, trivial, ?_⟩⟩
    show D.bl true = .bl (decide (0 ≤ k) && decide (k ≤ n - 1))
    rw [decide_eq_true h1, decide_eq_true (show k ≤ n - 1 by omega)]
    rfl
  · rw [List.all_map]
    simp
  · rw [List.length_map, decide_eq_true rfl]
/-- rows of ints and one thing more -/
theorem is_joints1 {a n : Int} (h : 0 ≤ a ∧ a < n) : S_are_joints [.tup [.int a], .int n] (.bl true) := ⟨[a], n, rfl, by simp, by simp, fun k hk => by
  simp only [List.mem_cons, List.not_mem_nil, or_false] at hk
  subst hk
  exact h, rfl⟩
theorem is_joints2 {a b n : Int} (hab : a < b) (ha : 0 ≤ a) (hb : b < n) : S_are_joints [.tup [.int a, .int b], .int n] (.bl true) := ⟨[a, b], n, rfl, by simp; omega, by simp, fun k hk => by
  simp only [List.mem_cons, List.not_mem_nil, or_false] at hk
  rcases hk with rfl | rfl <;> omega, rfl⟩
theorem is_joints3 {a b c n : Int} (hab : a ≠ b) (hac : a ≠ c) (hbc : b ≠ c) (ha : 0 ≤ a ∧ a < n) (hb : 0 ≤ b ∧ b < n) (hc : 0 ≤ c ∧ c < n) : S_are_joints [.tup [.int a, .int b, .int c], .int n] (.bl true) := ⟨[a, b, c], n, rfl, by simp; exact ⟨⟨hab, hac⟩, hbc⟩, by simp, fun k hk => by
  simp only [List.mem_cons, List.not_mem_nil, or_false] at hk
  rcases hk with rfl | rfl | rfl <;> assumption, rfl⟩
def S_is_pin (ds : List D) (d : D) : Prop := ∃ (e : PinE) (n : Int), ds = [pinR e, .int n] ∧ (e.1 : Int) < n ∧ d = .bl true
abbrev N_is_pin : List Str := ["value", "many"]
theorem sc_is_pin : FnScope N_is_pin ["value", "many"] (defScope s_is_pin) := ⟨rfl, rfl, rfl, by decide +kernel, rfl, by decide +kernel, by decide +kernel⟩
theorem ok_is_pin (T : TB K mg) : Ok P w K mg base 5 "is_pin" 2 S_is_pin := by
  obtain ⟨fd, F⟩ := T.f_is_pin
  refine ok_of (N := N_is_pin) (ps := ["value", "many"]) F T.g_is_pin sc_is_pin rfl (fun _ _ _ _ _ _ us hl => match us, hl with | [_, _], _ => rfl) fun cdv A outer s H ds d E hr hl hS => ?_
  obtain ⟨e, n, rfl, h1, rfl⟩ := hS
  refine ⟨_, ?_, .inl rfl⟩
  exact dbR (dret (de_and_t (dcall (ok_is_list T) (hr.mono (by decide)) (dacons (dv 0 rfl) danil) ⟨_, _, rfl, rfl, rfl⟩) (de_and_t (DE.is (de_cmp ceqI (dlen T.b_len (dv 0 rfl) rfl) dint) rfl) (de_and_t (dcall (ok_are_joints T) (hr.mono (by decide)) (dacons (dslT (dv 0 rfl) .no (.int dint) (show ¬((0 : Nat) = 0 ∧ (1 : Nat) = 2) by decide)) (dacons (dv 1 rfl) danil)) (is_joints1 ⟨by omega, h1⟩)) (de_one (dcall (ok_is_point T) (hr.mono (by decide)) (dacons (dixT (dv 0 rfl) dint rfl) danil) ⟨_, _, rfl, rfl⟩))))))
theorem num_pos9 {q : Rat} (h : 0 < q) : 0 < q.num := by
  have q1 := Rat.num_nonneg.mpr (Rat.le_of_lt h)
  have q2 : q.num ≠ 0 := fun z => by
    rw [Rat.num_eq_zero.mp z] at h
    exact absurd h (by decide)
  omega
def S_is_bar (ds : List D) (d : D) : Prop := ∃ (e : BarE) (n : Int), ds = [barR e, .int n] ∧ e.1 < e.2.1 ∧ (e.2.1 : Int) < n ∧ 0 < e.2.2 ∧ d = .bl true
abbrev N_is_bar : List Str := ["value", "many"]
theorem sc_is_bar : FnScope N_is_bar ["value", "many"] (defScope s_is_bar) := ⟨rfl, rfl, rfl, by decide +kernel, rfl, by decide +kernel, by decide +kernel⟩
theorem ok_is_bar (T : TB K mg) : Ok P w K mg base 5 "is_bar" 2 S_is_bar := by
  obtain ⟨fd, F⟩ := T.f_is_bar
  refine ok_of (N := N_is_bar) (ps := ["value", "many"]) F T.g_is_bar sc_is_bar rfl (fun _ _ _ _ _ _ us hl => match us, hl with | [_, _], _ => rfl) fun cdv A outer s H ds d E hr hl hS => ?_
  obtain ⟨e, n, rfl, h1, h2, h3, rfl⟩ := hS
  refine ⟨_, ?_, .inl rfl⟩
  refine db1 (dif_f (dw_val (dw_or_f (DT.is (dt_not (dt_val (dcall (ok_is_list T) (hr.mono (by decide)) (dacons (dv 0 rfl) danil) ⟨_, _, rfl, rfl, rfl⟩))) rfl) (dw_or_f (DT.is (dt_cmp cneI (dlen T.b_len (dv 0 rfl) rfl) dint) rfl) (dw_or1 (DT.is (dt_not (dt_val (dcall (ok_are_joints T) (hr.mono (by decide)) (dacons (dslT (dv 0 rfl) .no (.int dint) (show ¬((0 : Nat) = 0 ∧ (2 : Nat) = 3) by decide)) (dacons (dv 1 rfl) danil)) (is_joints2 (by omega) (by omega) h2)))) rfl))))) db0) ?_
  have h4 : e.2.2.num.sign = 1 := Int.sign_eq_one_of_pos (num_pos9 h3)
  exact dbR (dret (de_and_t (dcall (ok_is_number T) (hr.mono (by decide)) (dacons (dixT (dv 0 rfl) dint rfl) danil) ⟨_, rfl, rfl⟩) (de_one (DE.is (de_cmp cgt (dcall (ok_sign_in T) (hr.mono (by decide)) (dacons (dcall (ok_kept T) (hr.mono (by decide)) (dacons (dixT (dv 0 rfl) dint rfl) danil) ⟨e.2.2, rfl, rfl⟩) danil) ⟨e.2.2, rfl, rfl⟩) dint) (by rw [h4]; rfl)))))
def S_is_bead (ds : List D) (d : D) : Prop := ∃ (e : BeadE) (n : Int), ds = [beadR e, .int n] ∧ e.1 ≠ e.2.1 ∧ e.1 ≠ e.2.2.1 ∧ e.2.1 < e.2.2.1 ∧ (e.1 : Int) < n ∧ (e.2.2.1 : Int) < n ∧ d = .bl true
abbrev N_is_bead : List Str := ["value", "many"]
theorem sc_is_bead : FnScope N_is_bead ["value", "many"] (defScope s_is_bead) := ⟨rfl, rfl, rfl, by decide +kernel, rfl, by decide +kernel, by decide +kernel⟩
theorem ok_is_bead (T : TB K mg) : Ok P w K mg base 5 "is_bead" 2 S_is_bead := by
  obtain ⟨fd, F⟩ := T.f_is_bead
  refine ok_of (N := N_is_bead) (ps := ["value", "many"]) F T.g_is_bead sc_is_bead rfl (fun _ _ _ _ _ _ us hl => match us, hl with | [_, _], _ => rfl) fun cdv A outer s H ds d E hr hl hS => ?_
  obtain ⟨e, n, rfl, h1, h2, h3, h4, h5, rfl⟩ := hS
  refine ⟨_, ?_, .inl rfl⟩
  exact dbR (dret (de_and_t (dcall (ok_is_list T) (hr.mono (by decide)) (dacons (dv 0 rfl) danil) ⟨_, _, rfl, rfl, rfl⟩) (de_and_t (DE.is (de_cmp ceqI (dlen T.b_len (dv 0 rfl) rfl) dint) rfl) (de_and_t (dcall (ok_are_joints T) (hr.mono (by decide)) (dacons (dslT (dv 0 rfl) .no (.int dint) (show ¬((0 : Nat) = 0 ∧ (3 : Nat) = 4) by decide)) (dacons (dv 1 rfl) danil)) (is_joints3 (by omega) (by omega) (by omega) ⟨by omega, by omega⟩ ⟨by omega, by omega⟩ ⟨by omega, by omega⟩)) (de_one (dcall (ok_is_number T) (hr.mono (by decide)) (dacons (dixT (dv 0 rfl) dint rfl) danil) ⟨_, rfl, rfl⟩))))))
def S_kept_pin (ds : List D) (d : D) : Prop := ∃ e : PinE, ds = [pinR e] ∧ d = pinR e
abbrev N_kept_pin : List Str := ["pin"]
theorem sc_kept_pin : FnScope N_kept_pin ["pin"] (defScope s_kept_pin) := ⟨rfl, rfl, rfl, by decide +kernel, rfl, by decide +kernel, by decide +kernel⟩
theorem ok_kept_pin (T : TB K mg) : Ok P w K mg base 5 "kept_pin" 1 S_kept_pin := by
  obtain ⟨fd, F⟩ := T.f_kept_pin
  refine ok_of (N := N_kept_pin) (ps := ["pin"]) F T.g_kept_pin sc_kept_pin rfl (fun _ _ _ _ _ _ us hl => match us, hl with | [_], _ => rfl) fun cdv A outer s H ds d E hr hl hS => ?_
  obtain ⟨e, rfl, rfl⟩ := hS
  exact ⟨_, dbR (dret (dtup (dacons (dixT (dv 0 rfl) dint rfl) (dacons (dcall (ok_kept_row T) (hr.mono (by decide)) (dacons (dixT (dv 0 rfl) dint rfl) danil) ⟨e.2.1, e.2.2, rfl, rfl⟩) danil)))), .inl rfl⟩
def S_kept_bar (ds : List D) (d : D) : Prop := ∃ e : BarE, ds = [barR e] ∧ e.1 < e.2.1 ∧ d = barR e
abbrev N_kept_bar : List Str := ["bar", "one", "other", "length"]
theorem sc_kept_bar : FnScope N_kept_bar ["bar"] (defScope s_kept_bar) := ⟨rfl, rfl, rfl, by decide +kernel, rfl, by decide +kernel, by decide +kernel⟩
theorem ok_kept_bar (T : TB K mg) : Ok P w K mg base 5 "kept_bar" 1 S_kept_bar := by
  obtain ⟨fd, F⟩ := T.f_kept_bar
  refine ok_of (N := N_kept_bar) (ps := ["bar"]) F T.g_kept_bar sc_kept_bar rfl (fun _ _ _ _ _ _ us hl => match us, hl with | [_], _ => rfl) fun cdv A outer s H ds d E hr hl hS => ?_
  obtain ⟨e, rfl, h1, rfl⟩ := hS
  refine ⟨_, db1 (dasg (dv 0 rfl) (dgT rfl (dgs1 (dgN (i := 1) sc_kept_bar.nd rfl) (dgs1 (dgN (i := 2) sc_kept_bar.nd rfl) (dgs1 (dgN (i := 3) sc_kept_bar.nd rfl) dgs0))))) ?_, .inl rfl⟩
  refine dbR (dret (DE.is (dtup (dacons (dmin rfl T.b_min (dv 1 rfl) (dv 2 rfl)) (dacons (dmax rfl T.b_max (dv 1 rfl) (dv 2 rfl)) (dacons (dcall (ok_kept T) (hr.mono (by decide)) (dacons (dv 3 rfl) danil) ⟨e.2.2, rfl, rfl⟩) danil)))) ?_))
  rw [if_neg (by omega), if_pos (by omega)]
  rfl
def S_kept_bead (ds : List D) (d : D) : Prop := ∃ e : BeadE, ds = [beadR e] ∧ e.2.1 < e.2.2.1 ∧ d = beadR e
abbrev N_kept_bead : List Str := ["bead", "joint", "one", "other", "share"]
theorem sc_kept_bead : FnScope N_kept_bead ["bead"] (defScope s_kept_bead) := ⟨rfl, rfl, rfl, by decide +kernel, rfl, by decide +kernel, by decide +kernel⟩
theorem ok_kept_bead (T : TB K mg) : Ok P w K mg base 5 "kept_bead" 1 S_kept_bead := by
  obtain ⟨fd, F⟩ := T.f_kept_bead
  refine ok_of (N := N_kept_bead) (ps := ["bead"]) F T.g_kept_bead sc_kept_bead rfl (fun _ _ _ _ _ _ us hl => match us, hl with | [_], _ => rfl) fun cdv A outer s H ds d E hr hl hS => ?_
  obtain ⟨e, rfl, h1, rfl⟩ := hS
  refine ⟨_, db1 (dasg (dv 0 rfl) (dgT rfl (dgs1 (dgN (i := 1) sc_kept_bead.nd rfl) (dgs1 (dgN (i := 2) sc_kept_bead.nd rfl) (dgs1 (dgN (i := 3) sc_kept_bead.nd rfl) (dgs1 (dgN (i := 4) sc_kept_bead.nd rfl) dgs0)))))) ?_, .inl rfl⟩
  exact dbR (dif_t (DT.is (dt_cmp clt (dv 2 rfl) (dv 3 rfl)) (decide_eq_true (by omega))) (dbR (dret (dtup (dacons (dv 1 rfl) (dacons (dv 2 rfl) (dacons (dv 3 rfl) (dacons (dcall (ok_kept T) (hr.mono (by decide)) (dacons (dv 4 rfl) danil) ⟨e.2.2.2, rfl, rfl⟩) danil))))))))
def S_joints_of (ds : List D) (d : D) : Prop := ∃ es e, ds = [.tup (es ++ [e])] ∧ d = .tup es
theorem cutD_last (es : List D) (e : D) : cutD (es ++ [e]) none (some (-1)) = es := cut_last es e
theorem ok_joints_of (T : TB K mg) : Ok P w K mg base 1 "joints_of" 1 S_joints_of := by
  obtain ⟨fd, F⟩ := T.f_joints_of
  refine ok_of (N := N_joints_of) (ps := ["row"]) F T.g_joints_of sc_joints_of rfl (fun _ _ _ _ _ _ us hl => match us, hl with | [_], _ => rfl) fun cdv A outer s H ds d E hr hl hS => ?_
  obtain ⟨es, e, rfl, rfl⟩ := hS
  refine ⟨_, dbR (dret (DE.is (dslT (dv 0 rfl) .no (.int (dneg dint)) ?_) (by rw [cutD_last]))), .inl rfl⟩
  rintro ⟨_, z⟩
  simp [HT.sIx] at z
  omega
theorem cut_first (xs : List D) : cutD xs (some 1) none = xs.drop 1 := by
  unfold cutD
  cases xs with
  | nil => rfl
  | cons x xs =>
    have e1 : HT.sIx (x :: xs).length 0 (some 1) = 1 := by
      simp [HT.sIx]
    have e2 : HT.sIx (x :: xs).length (x :: xs).length none = (x :: xs).length := rfl
    rw [e1, e2]
    refine List.take_of_length_le ?_
    simp
/-- a row: its joints, and one thing more -/
def rowJ (r : List Int × D) : D := .tup (r.1.map D.int ++ [r.2])
def S_kept_rows (P : Program) (w : World) (K : PySem.W.Frag) (mg : Str → Option Value) (base : Heap) (ds : List D) (d : D) : Prop := ∃ (rows : List (List Int × D)) (n : Nat) (B m : Int) (f1 f2 : Addr) (part : Str), ds = [.lst (rows.map rowJ), .int m, .fn f1, .fn f2, .str part] ∧
  OkA P w K mg base 5 f1 2 (fun ds d => ∃ r ∈ rows, ds = [rowJ r, .int m] ∧ d = .bl true) ∧ OkA P w K mg base 5 f2 1 (fun ds d => ∃ r ∈ rows, ds = [rowJ r] ∧ d = rowJ r) ∧
  (∀ r ∈ rows, r.1.length = n ∧ TS.Bd B r.1) ∧ 1 ≤ n ∧ n ≤ 100 ∧ rows.length ≤ 900 ∧ (rows.Pairwise fun a b => TS.code B a.1 < TS.code B b.1) ∧ d = .tup (rows.map rowJ)
def cutJ : D → D
  | .tup ds => .tup ds.dropLast
  | d => d
theorem cutJ_row (r : List Int × D) : cutJ (rowJ r) = .tup (r.1.map D.int) := by
  show D.tup (r.1.map D.int ++ [r.2]).dropLast = _
  rw [List.dropLast_concat]
abbrev N_kept_rows : List Str := ["values", "many", "is_row", "kept_of", "part", "value", "rows", "names", "row", "one", "other"]
theorem sc_kept_rows : FnScope N_kept_rows ["values", "many", "is_row", "kept_of", "part"] (defScope s_kept_rows) := ⟨rfl, rfl, rfl, by decide +kernel, rfl, by decide +kernel, by decide +kernel⟩
theorem ok_kept_rows (T : TB K mg) : Ok P w K mg base 6 "kept_rows" 5 (S_kept_rows P w K mg base) := by
  obtain ⟨fd, F⟩ := T.f_kept_rows
  refine ok_of (N := N_kept_rows) (ps := ["values", "many", "is_row", "kept_of", "part"]) F T.g_kept_rows sc_kept_rows rfl (fun _ _ _ _ _ _ us hl => match us, hl with | [_, _, _, _, _], _ => rfl) fun cdv A outer s H ds d E hr hl hS => ?_
  have hu := hr.units
  obtain ⟨rows, n, B, m, f1, f2, part, rfl, F1, F2, hk, hn1, hn9, hl9, hso, rfl⟩ := hS
  have hlen : (rows.map rowJ).length ≤ 1000 := by rw [List.length_map]; omega
  refine ⟨_, ?_, .inl rfl⟩
  refine db1 (dif_f (dw_val (dw_or_f (DT.is (dt_not (dt_val (dcall (ok_is_list T) (hr.mono (by decide)) (dacons (dv 0 rfl) danil) ⟨_, _, rfl, rfl, rfl⟩))) rfl) (dw_or1 (DT.is (dt_not (dt_val (dall (bs := rows.map fun _ => true) rfl T.b_all (DE.is (dlc (own := [("value", 5)]) (fun d => .bl true) rfl sc_kept_rows.nd (diL (dv 0 rfl)) (blkOk_by (N := N_kept_rows) (sc := defScope s_kept_rows) (by decide +kernel)) (pgN (i := 5) sc_kept_rows.nd rfl) hlen (fun d hd => ?_)) (by rw [List.map_map, List.map_map]; rfl))))) (by rw [List.all_map]; simp))))) db0) ?_
  · obtain ⟨r, hrm, rfl⟩ := List.mem_map.mp hd
    exact ⟨_, bcN, fun _ _ _ _ _ => dcallL F1 (hr.mono (by decide)) (i := 2) rfl (dacons (dv 5 rfl) (dacons (dv 1 rfl) danil)) ⟨r, hrm, rfl, rfl⟩⟩
  refine db1 (dset (i := 6) sc_kept_rows.nd rfl (dsortJ (k := 5) (n := n) (B := B) (row := rowJ) (key := fun r : List Int × D => r.1) (lst := fun r => r.2) T (hr.mono (by decide)) (DE.is (dlc (own := [("value", 5)]) (fun d => d) rfl sc_kept_rows.nd (diL (dv 0 rfl)) (blkOk_by (N := N_kept_rows) (sc := defScope s_kept_rows) (by decide +kernel)) (pgN (i := 5) sc_kept_rows.nd rfl) hlen (fun d hd => ?_)) (by rw [List.map_id'])) (fun _ _ => rfl) hk hn1 (by omega) (hso.imp fun h => by omega) hl9)) ?_
  · obtain ⟨r, hrm, rfl⟩ := List.mem_map.mp hd
    exact ⟨_, bcN, fun _ _ _ _ _ => dcallL F2 (hr.mono (by decide)) (i := 3) rfl (dacons (dv 5 rfl) danil) ⟨r, hrm, rfl, rfl⟩⟩
  refine db1 (dsetLc (i := 7) (own := [("row", 8)]) cutJ rfl sc_kept_rows.nd rfl rfl (sw_true rfl rfl rfl (by decide +kernel)) (diL (dv 6 rfl)) (blkOk_by (N := N_kept_rows) (sc := defScope s_kept_rows) (by decide +kernel)) (pgN (i := 8) sc_kept_rows.nd rfl) hlen (fun d hd => ?_)) ?_
  · obtain ⟨r, hrm, rfl⟩ := List.mem_map.mp hd
    exact ⟨_, bcN, fun _ _ _ _ _ => dcall (ok_joints_of T) (hr.mono (by decide)) (dacons (dv 8 rfl) danil) ⟨_, _, rfl, cutJ_row r⟩⟩
  have e7 : (rows.map rowJ).map cutJ = rows.map fun r => .tup (r.1.map D.int) := by
    rw [List.map_map]
    exact List.map_congr_left fun r _ => cutJ_row r
  rw [e7]
  refine db1 (dif_f (dt_val (DE.is (dany (bs := (zipD (rows.map fun r => .tup (r.1.map D.int)) (cutD (rows.map fun r => .tup (r.1.map D.int)) (some 1) none)).map fun _ => false) rfl T.b_any (DE.is (dlc (own := [("one", 9), ("other", 10)]) (fun d => .bl false) rfl sc_kept_rows.nd (diZL T.b_zip (dv 7 rfl) (dslL (dv 7 rfl) (.int dint) .no)) (blkOk_by (N := N_kept_rows) (sc := defScope s_kept_rows) (by decide +kernel)) (pgP (i := 9) (j := 10) rfl sc_kept_rows.nd rfl rfl) (by rw [zipD_length, List.length_map]; omega) (fun d hd => ?_)) (by rw [List.map_map]; rfl))) (by rw [List.any_map]; simp))) db0) ?_
  · obtain ⟨i, hi⟩ := List.mem_iff_getElem?.mp hd
    unfold zipD at hi
    rw [List.getElem?_map] at hi
    obtain ⟨⟨d1, d2⟩, hz, rfl⟩ := Option.map_eq_some_iff.mp hi
    obtain ⟨h1, h2⟩ := List.getElem?_zip_eq_some.mp hz
    rw [List.getElem?_map] at h1
    obtain ⟨r1, hr1, rfl⟩ := Option.map_eq_some_iff.mp h1
    have h3 : (rows.map fun r => D.tup (r.1.map D.int))[i + 1]? = some d2 := by
      have e9 : cutD (rows.map fun r => D.tup (r.1.map D.int)) (some 1) none = (rows.map fun r => D.tup (r.1.map D.int)).drop 1 := cut_first _
      rw [e9, List.getElem?_drop] at h2
      rw [Nat.add_comm]
      exact h2
    rw [List.getElem?_map] at h3
    obtain ⟨r2, hr2, rfl⟩ := Option.map_eq_some_iff.mp h3
    refine ⟨_, bcP (by decide), fun _ _ _ _ _ => de_cmp (ceq hu (ints_good _) (ints_good _) ⟨fun z => absurd z (by decide), fun z => ?_⟩) (dv 9 rfl) (dv 10 rfl)⟩
    injection z with z
    have hlt := (List.pairwise_iff_getElem.mp hso) i (i + 1) (List.getElem?_eq_some_iff.mp hr1).1 (List.getElem?_eq_some_iff.mp hr2).1 (by omega)
    rw [(List.getElem?_eq_some_iff.mp hr1).2, (List.getElem?_eq_some_iff.mp hr2).2, ints_inj z] at hlt
    exact absurd hlt (by omega)
  exact dbR (dret (dtupleOf T.b_tuple (dv 6 rfl) rfl))
end
end K31
end
section
set_option maxHeartbeats 4000000
set_option autoImplicit false
/-! The walk: machines, poses, tears. -/
namespace K31
open PySem PySem.Spec PyProof.Rows L2
section
variable {P : Program} {w : World} {K : PySem.W.Frag} {mg : Str → Option Value} {base : Heap} {X : Cx} {ρ : Rho} {e a : Expr} {es : List Expr} {d : D} {ds : List D} {pos : Pos}
theorem OkA.imp {k n : Nat} {f : Addr} {S S' : List D → D → Prop} (F : OkA P w K mg base k f n S) (h : ∀ ds d, S' ds d → S ds d) : OkA P w K mg base k f n S' := by
  obtain ⟨fd, ps, hk, hb, hl, ok⟩ := F.ex
  exact ⟨fd, ps, hk, hb, hl, ok.imp fun vs H Q E ⟨W, ds, d, e1, e2, r, hS, q⟩ => ⟨W, ds, d, e1, e2, r, h ds d hS, q⟩⟩
/-- a def as a value -/
theorem dglf {x : Str} {p : Pos} {f : Addr} (hm : X.mg x = some (.ref f)) (hg : Gl X x := by rfl) (hd : (x == ("__debug__" : Str)) = false := by decide) : DE X (.Name x p) ρ (.fn f) :=
  .of (pe_glob (v := .ref f) hg hm rfl hd) fun σ W E Q q => q _ W (Le.refl W) rfl
/-- isinstance(a, C), a an instance of C itself -/
theorem disiC {C : Addr} {y : Str} {ns : List Str} {p p2 : Pos} (hm : X.mg "isinstance" = none) (hm2 : X.mg y = some (.ref C)) (cl : Cls X.K C) (i : Isi X.K C) (hk : PySem.W.kitOne X.K (.ref C) (.ref C) = some true) (ha : DE X a ρ (.obj C ns ds)) (hg : Gl X "isinstance" := by rfl) (hg2 : Gl X y := by rfl)
    (hs : starEach [a, .Name y p2] X.env = (false, eval a X.env) :: starEach [.Name y p2] X.env := by rfl) (hd : (y == ("__debug__" : Str)) = false := by decide) : DE X (.Call (.Name "isinstance" p) [a, .Name y p2] [] pos) ρ (.bl true) :=
  .of (pe_callB call_isi hg hm boot_isinstance (pa_cons (peW a) (pa_cons (pe_glob (v := .ref C) hg2 hm2 rfl hd) pa_nil) hs) (he := hs)) fun σ W E Q q => ha σ W E _ fun v W1 e1 r1 => by
    obtain ⟨t, dx, xs, rfl, h2, _, _⟩ := r1
    exact ⟨.ref t, .ref C, .ref C, .ref C, true, rfl, .own C, .base (.ins (W1.sub _ _ h2) cl i.ha i.hn i.ht i.hm), hk, q _ W1 e1 rfl⟩
/-- a constant of a class -/
theorem dcval {C : Addr} {f : Str} {i : Int} {u : Value} (ha : DE X a ρ (.fn C)) (r : ClX.CRead X.K C (.type "type")) (c : ClX.CVal X.K C (.type "type") f (.int i) u) (hb : attributeBase a f X.env (eval a X.env) = eval a X.env := by rfl) : DE X (.Attribute a f pos) ρ (.int i) :=
  .of (ClX.pe_cval (peW a) hb) fun σ W E Q q => ha σ W E _ fun v W1 e1 r1 => ⟨C, _, _, u, r1, r, c, q _ W1 e1 rfl⟩
/-- a def with one default, called without it -/
structure OkD (P : Program) (w : World) (K : PySem.W.Frag) (mg : Str → Option Value) (base : Heap) (k : Nat) (x : Str) (n : Nat) (z : Str) (S : List D → D → Prop) : Prop where
  ex : ∃ (f : Addr) (fd : FuncData) (ps : List Str) (dd : List Value), mg x = some (.ref f) ∧ PySem.W.keepIn K (.ref f) = true ∧ L2.Binds K fd ps dd ∧ Vals [V.str z] dd ∧ ps.length = n + 1 ∧ FnOk P w K mg base CX0 k f fd ps (spD K S (n + 1))
theorem dcallD {k n : Nat} {z : Str} {S : List D → D → Prop} {x : Str} {p : Pos} (F : OkD X.prog X.w X.K X.mg X.base k x n z S) (hr : Room k X.A) (ha : DA X (e :: es) ρ ds) (hS : S (ds ++ [.str z]) d) (hn : ds.length = n := by rfl) (hg : Gl X x := by rfl)
    (hdb : (x == ("__debug__" : Str)) = false := by decide) (he : starEach (e :: es) X.env = (false, eval e X.env) :: starEach es X.env := by rfl) (hpl : (backTo pos (starEach es X.env)).any (·.1) = false := by rfl) : DE X (.Call (.Name x p) (e :: es) [] pos) ρ d := by
  obtain ⟨f, fd, ps, dd, hm, hk, hb, hd, hl, ok⟩ := F.ex
  exact .of (pe_call ok hr hg hm hk hb hd (pass0 (X := X)) (paW (e :: es)) hdb he hpl) fun σ W E Q q => ha σ W E _ fun vs W1 e1 r1 => ⟨W1, ds ++ [.str z], d, rfl, by rw [List.length_append, hn]; rfl, RpL.append r1 (show RpL X.K W1.s [.str z] [.str z] from ⟨_, [], rfl, rfl, rfl⟩), hS, fun v W2 e2 r2 => q v W2 (e1.trans e2) r2⟩
end
section
variable {P : Program} {w : World} {K : PySem.W.Frag} {mg : Str → Option Value} {base : Heap}
abbrev mNs : List Str := ["many", "pins", "bars", "beads", "pen"]
def machD (K : PySem.W.Frag) (n : Nat) (pins : List PinE) (bars : List BarE) (beads : List BeadE) : D := .obj (He.ga K "Machine") mNs [.int n, .tup (pins.map pinR), .tup (bars.map barR), .tup (beads.map beadR), .int ((n : Int) - 1)]
theorem TC.isiM (T : TC P K mg) : Isi K (He.ga K "Machine") := T.parts.2.1
theorem TC.kitM (T : TC P K mg) : PySem.W.kitOne K (.ref (He.ga K "Machine")) (.ref (He.ga K "Machine")) = some true := T.parts.2.2.1
theorem TC.readM (T : TC P K mg) : ClX.CRead K (He.ga K "Machine") (.type "type") := T.parts.2.2.2.1
theorem TC.naM (T : TC P K mg) : ∀ f ∈ mNs, NoAttr K (He.ga K "Machine") f := fun f hf => by
  simp only [List.mem_cons, List.not_mem_nil, or_false] at hf
  rcases hf with rfl | rfl | rfl | rfl | rfl
  · exact T.noat 12 rfl
  · exact T.noat 13 rfl
  · exact T.noat 14 rfl
  · exact T.noat 15 rfl
  · exact T.noat 16 rfl
def S_need_machine (K : PySem.W.Frag) (ds : List D) (d : D) : Prop := ∃ (ns : List Str) (fs : List D), ds = [.obj (He.ga K "Machine") ns fs, .str "machine"] ∧ d = .non
abbrev N_need_machine : List Str := ["value", "part"]
theorem sc_need_machine : FnScope N_need_machine ["value", "part"] (defScope s_need_machine) := ⟨rfl, rfl, rfl, by decide +kernel, rfl, by decide +kernel, by decide +kernel⟩
theorem ok_need_machine (T : TC P K mg) : OkD P w K mg base 2 "need_machine" 1 "machine" (S_need_machine K) := by
  obtain ⟨fd, F⟩ := T.f_need_machine
  obtain ⟨dd, hd, hb⟩ := F.binds1 (ps := ["value", "part"]) 1 0 (by decide) rfl fun T kV doc pm an cdv ct us its hu hi => match us, its, hu, hi with
    | [_], [_], _, _ => ⟨_, rfl, rfl⟩
  refine ⟨_, fd, ["value", "part"], dd, T.g_need_machine, F.kp, hb, hd, rfl, F.ok sc_need_machine (fun vs H Q E h => ?_) fun cdv A outer s H vs Q E hr h => ?_⟩
  · obtain ⟨W, ds, d, _, hl, r, _⟩ := h
    rw [r.length, hl]
    rfl
  · obtain ⟨W, ds, d, rfl, hl, r, ⟨ns, fs, rfl, rfl⟩, q⟩ := h
    refine ⟨wB (cxOf CX0 P w K mg base N_need_machine "need_machine" (defScope s_need_machine) (He.ga K "need_machine") cdv A outer s W.h E).nox (defBody s_need_machine), (pbW _).nox, ?_⟩
    have hb : DB (cxOf CX0 P w K mg base N_need_machine "need_machine" (defScope s_need_machine) (He.ga K "need_machine") cdv A outer s W.h E).nox (defBody s_need_machine) [some (.obj (He.ga K "Machine") ns fs), some (.str "machine")] (.nx [some (.obj (He.ga K "Machine") ns fs), some (.str "machine")]) :=
      db1 (dif_f (DT.is (dt_not (dt_val (disiC T.b_isinstance T.g_Machine T.cl_Machine T.isiM T.kitM (dv 0 rfl)))) rfl) db0) db0
    exact hb _ W (EnvD.start (N := N_need_machine) r (Nat.le_refl 2)) _ fun σ W2 e2 E2 => q .non W2 e2 rfl
def S_need_pose (P : Program) (w : World) (K : PySem.W.Frag) (mg : Str → Option Value) (base : Heap) (ds : List D) (d : D) : Prop := ∃ (X : D) (ps : List Pl) (pins : List PinE) (bars : List BarE) (beads : List BeadE), ds = [machD K ps.length pins bars beads, X] ∧ Pls X ps ∧ d = .tup (ps.map plD)
abbrev N_need_pose : List Str := ["machine", "value", "place"]
theorem sc_need_pose : FnScope N_need_pose ["machine", "value"] (defScope s_need_pose) := ⟨rfl, rfl, rfl, by decide +kernel, rfl, by decide +kernel, by decide +kernel⟩
theorem ok_need_pose (T : TC P K mg) : Ok P w K mg base 7 "need_pose" 2 (S_need_pose P w K mg base) := by
  obtain ⟨fd, F⟩ := T.f_need_pose
  refine ok_of (N := N_need_pose) (ps := ["machine", "value"]) F T.g_need_pose sc_need_pose rfl (fun _ _ _ _ _ _ us hl => match us, hl with | [_, _], _ => rfl) fun cdv A outer s H ds d E hr hl hS => ?_
  obtain ⟨X, ps, pins, bars, beads, rfl, hX, rfl⟩ := hS
  obtain ⟨es, hI, hl, hi⟩ := hX.items
  refine ⟨_, ?_, .inl rfl⟩
  refine db1 (dif_f (dw_val (dw_or_f (DT.is (dt_not (dt_val (dcall (ok_are_places T.toTB) (hr.mono (by decide)) (dacons (dv 1 rfl) danil) ⟨_, _, rfl, hX.are, rfl⟩))) rfl) (dw_or1 (DT.is (dt_cmp cneI (dlen T.b_len (dv 1 rfl) hX.len') (dfld (i := 0) (dv 0 rfl) T.cl_Machine (T.naM "many" (by decide)) (by decide) rfl rfl)) ?_)))) db0) ?_
  · simp
  refine dbR (dret (dtupleOf T.b_tuple (dlc (own := [("place", 2)]) keepD rfl sc_need_pose.nd (diS (dv 1 rfl) hI) (blkOk_by (N := N_need_pose) (sc := defScope s_need_pose) (by decide +kernel)) (pgN (i := 2) sc_need_pose.nd rfl) (by have := hX.len; omega) (fun d hd => ?_)) (by show some _ = some _; rw [hX.kept hI])))
  obtain ⟨i, hd'⟩ := List.mem_iff_getElem?.mp hd
  obtain ⟨p, hp, hq⟩ := hi i d hd'
  exact ⟨_, bcN, fun _ _ _ _ _ => dcall (ok_kept_place T.toTB) (hr.mono (by decide)) (dacons (dv 2 rfl) danil) ⟨_, p, rfl, hq, keepD_pl hq⟩⟩
end
end K31
end
section
set_option maxHeartbeats 4000000
set_option autoImplicit false
/-! The walk: a machine is made. -/
namespace K31
open PySem PySem.Spec PyProof.Rows L2
/-- rows that a machine with n joints takes as they are -/
structure MRows (n : Nat) (pins : List PinE) (bars : List BarE) (beads : List BeadE) : Prop where
  lo : 1 ≤ n
  hi : n ≤ 64
  ps : pins.Pairwise fun a b => keyP a < keyP b
  bs : bars.Pairwise fun a b => codB a < codB b
  es : beads.Pairwise fun a b => codE a < codE b
  pn : ∀ e ∈ pins, e.1 < n
  br : ∀ e ∈ bars, e.1 < e.2.1 ∧ e.2.1 < n ∧ 0 < e.2.2
  bd : ∀ e ∈ beads, e.1 ≠ e.2.1 ∧ e.1 ≠ e.2.2.1 ∧ e.2.1 < e.2.2.1 ∧ e.1 < n ∧ e.2.2.1 < n
  ln : pins.length < 64 ∧ bars.length < 64 ∧ beads.length < 64
section
variable {P : Program} {w : World} {K : PySem.W.Frag} {mg : Str → Option Value} {base : Heap}
def pinJ (e : PinE) : List Int × D := ([(e.1 : Int)], ptD e.2.1 e.2.2)
def barJ (e : BarE) : List Int × D := (keyB e, numD e.2.2)
def beadJ (e : BeadE) : List Int × D := (keyE e, numD e.2.2.2)
theorem keep_pins (T : TB K mg) {n : Nat} {pins : List PinE} {bars : List BarE} {beads : List BeadE} (h : MRows n pins bars beads) : S_kept_rows P w K mg base [.lst (pins.map pinR), .int n, .fn (He.ga K "is_pin"), .fn (He.ga K "kept_pin"), .str "pins"] (.tup (pins.map pinR)) := by
  have em : (pins.map pinJ).map rowJ = pins.map pinR := by rw [List.map_map]; rfl
  refine ⟨pins.map pinJ, 1, 64, n, _, _, _, by rw [em], ((ok_is_pin T).at_ T.g_is_pin).imp fun ds d hd => ?_, ((ok_kept_pin T).at_ T.g_kept_pin).imp fun ds d hd => ?_, fun r hr => ?_, by decide, by decide, by rw [List.length_map]; have := h.ln; omega, ?_, by rw [em]⟩
  · obtain ⟨r, hr, rfl, rfl⟩ := hd
    obtain ⟨e, he, rfl⟩ := List.mem_map.mp hr
    exact ⟨e, n, rfl, by have := h.pn e he; omega, rfl⟩
  · obtain ⟨r, hr, rfl, rfl⟩ := hd
    obtain ⟨e, he, rfl⟩ := List.mem_map.mp hr
    exact ⟨e, rfl, rfl⟩
  · obtain ⟨e, he, rfl⟩ := List.mem_map.mp hr
    refine ⟨rfl, fun m hm => ?_⟩
    have := h.pn e he
    have := h.hi
    simp only [pinJ, List.mem_cons, List.not_mem_nil, or_false] at hm
    omega
  · rw [List.pairwise_map]
    refine h.ps.imp_of_mem fun {a b} ha hb hab => ?_
    have h1 := h.pn a ha
    have h2 := h.pn b hb
    have := h.hi
    refine TS.code_lt (r := []) (q := []) rfl (fun m hm => absurd hm (by simp)) (fun m hm => absurd hm (by simp)) hab
theorem keep_bars (T : TB K mg) {n : Nat} {pins : List PinE} {bars : List BarE} {beads : List BeadE} (h : MRows n pins bars beads) : S_kept_rows P w K mg base [.lst (bars.map barR), .int n, .fn (He.ga K "is_bar"), .fn (He.ga K "kept_bar"), .str "bars"] (.tup (bars.map barR)) := by
  have em : (bars.map barJ).map rowJ = bars.map barR := by rw [List.map_map]; rfl
  refine ⟨bars.map barJ, 2, 64, n, _, _, _, by rw [em], ((ok_is_bar T).at_ T.g_is_bar).imp fun ds d hd => ?_, ((ok_kept_bar T).at_ T.g_kept_bar).imp fun ds d hd => ?_, fun r hr => ?_, by decide, by decide, by rw [List.length_map]; have := h.ln; omega, ?_, by rw [em]⟩
  · obtain ⟨r, hr, rfl, rfl⟩ := hd
    obtain ⟨e, he, rfl⟩ := List.mem_map.mp hr
    obtain ⟨h1, h2, h3⟩ := h.br e he
    exact ⟨e, n, rfl, h1, by omega, h3, rfl⟩
  · obtain ⟨r, hr, rfl, rfl⟩ := hd
    obtain ⟨e, he, rfl⟩ := List.mem_map.mp hr
    exact ⟨e, rfl, (h.br e he).1, rfl⟩
  · obtain ⟨e, he, rfl⟩ := List.mem_map.mp hr
    obtain ⟨h1, h2, h3⟩ := h.br e he
    have := h.hi
    exact ⟨rfl, keyB_bd ⟨by omega, by omega⟩⟩
  · rw [List.pairwise_map]
    exact h.bs
theorem keep_beads (T : TB K mg) {n : Nat} {pins : List PinE} {bars : List BarE} {beads : List BeadE} (h : MRows n pins bars beads) : S_kept_rows P w K mg base [.lst (beads.map beadR), .int n, .fn (He.ga K "is_bead"), .fn (He.ga K "kept_bead"), .str "beads"] (.tup (beads.map beadR)) := by
  have em : (beads.map beadJ).map rowJ = beads.map beadR := by rw [List.map_map]; rfl
  refine ⟨beads.map beadJ, 3, 64, n, _, _, _, by rw [em], ((ok_is_bead T).at_ T.g_is_bead).imp fun ds d hd => ?_, ((ok_kept_bead T).at_ T.g_kept_bead).imp fun ds d hd => ?_, fun r hr => ?_, by decide, by decide, by rw [List.length_map]; have := h.ln; omega, ?_, by rw [em]⟩
  · obtain ⟨r, hr, rfl, rfl⟩ := hd
    obtain ⟨e, he, rfl⟩ := List.mem_map.mp hr
    obtain ⟨h1, h2, h3, h4, h5⟩ := h.bd e he
    exact ⟨e, n, rfl, h1, h2, h3, by omega, by omega, rfl⟩
  · obtain ⟨r, hr, rfl, rfl⟩ := hd
    obtain ⟨e, he, rfl⟩ := List.mem_map.mp hr
    exact ⟨e, rfl, (h.bd e he).2.2.1, rfl⟩
  · obtain ⟨e, he, rfl⟩ := List.mem_map.mp hr
    obtain ⟨h1, h2, h3, h4, h5⟩ := h.bd e he
    have := h.hi
    exact ⟨rfl, keyE_bd ⟨by omega, by omega, by omega⟩⟩
  · rw [List.pairwise_map]
    exact h.es
def F_Machine_init (K : PySem.W.Frag) (ds : List D) (m : Mu) (S : D → Mu → Prop) : Prop := ∃ (q dx : Addr) (n : Nat) (pins : List PinE) (bars : List BarE) (beads : List BeadE) (m1 : Mu), ds = [.fn q, .int n, .lst (pins.map pinR), .lst (bars.map barR), .lst (beads.map beadR), .int ((n : Int) - 1)] ∧
  m = (q, .ins (He.ga K "Machine") dx [] []) :: m1 ∧ MRows n pins bars beads ∧ S .non ((q, .ins (He.ga K "Machine") dx mNs [.int n, .tup (pins.map pinR), .tup (bars.map barR), .tup (beads.map beadR), .int ((n : Int) - 1)]) :: m1)
abbrev N_Machine_init : List Str := ["self", "many", "pins", "bars", "beads", "pen"]
theorem sc_Machine_init : FnScope N_Machine_init ["self", "many", "pins", "bars", "beads", "pen"] (defScope s_Machine_init) := ⟨rfl, rfl, rfl, by decide +kernel, rfl, by decide +kernel, by decide +kernel⟩
theorem okR_Machine_init (T : TC P K mg) : FnR P w K mg base CX0 8 (He.ma K (He.ga K "Machine") "__init__") (spM K (F_Machine_init K) 6) := by
  obtain ⟨fd, F⟩ := T.f_Machine_init
  refine okR_of (N := N_Machine_init) (ps := ["self", "many", "pins", "bars", "beads", "pen"]) F sc_Machine_init rfl (fun _ _ _ _ _ _ us hl => match us, hl with | [_, _, _, _, _, _], _ => rfl) fun cdv A outer s H ds m S E hr hl hF => ?_
  obtain ⟨q, dx, n, pins, bars, beads, m1, rfl, rfl, h, hS⟩ := hF
  obtain ⟨u, hu⟩ := T.most
  have h1 := h.lo
  have h2 := h.hi
  refine bm1 (sm (dexpr (dcall (ok_need_integer T.toTB) (hr.mono (by decide)) (dacons (dv 1 rfl) (dacons dstr (dacons dint (dacons (dcval (dglf T.g_Machine) T.readM hu) danil)))) ⟨_, _, _, _, rfl, by omega, by omega, rfl⟩)) ?_)
  refine bm1 (sm_fld (pos0 := ⟨0, 0, 0, 0⟩) (dv 0 rfl) (em (dv 1 rfl) ⟨[], m1, _, dx, [], [], rfl, T.cl_Machine, T.naM "many" (by decide), by decide, by decide, ?_⟩))
  refine bm1 (sm_fld (pos0 := ⟨0, 0, 0, 0⟩) (dv 0 rfl) (em (dcall (ok_kept_rows T.toTB) (hr.mono (by decide)) (dacons (dv 2 rfl) (dacons (dv 1 rfl) (dacons (dglf T.g_is_pin) (dacons (dglf T.g_kept_pin) (dacons dstr danil))))) (keep_pins T.toTB h)) ⟨[], m1, _, dx, ["many"], _, rfl, T.cl_Machine, T.naM "pins" (by decide), by decide, by decide, ?_⟩))
  refine bm1 (sm_fld (pos0 := ⟨0, 0, 0, 0⟩) (dv 0 rfl) (em (dcall (ok_kept_rows T.toTB) (hr.mono (by decide)) (dacons (dv 3 rfl) (dacons (dv 1 rfl) (dacons (dglf T.g_is_bar) (dacons (dglf T.g_kept_bar) (dacons dstr danil))))) (keep_bars T.toTB h)) ⟨[], m1, _, dx, ["many", "pins"], _, rfl, T.cl_Machine, T.naM "bars" (by decide), by decide, by decide, ?_⟩))
  refine bm1 (sm_fld (pos0 := ⟨0, 0, 0, 0⟩) (dv 0 rfl) (em (dcall (ok_kept_rows T.toTB) (hr.mono (by decide)) (dacons (dv 4 rfl) (dacons (dv 1 rfl) (dacons (dglf T.g_is_bead) (dacons (dglf T.g_kept_bead) (dacons dstr danil))))) (keep_beads T.toTB h)) ⟨[], m1, _, dx, ["many", "pins", "bars"], _, rfl, T.cl_Machine, T.naM "beads" (by decide), by decide, by decide, ?_⟩))
  refine bm1 (sm (dexpr (dcall (ok_need_integer T.toTB) (hr.mono (by decide)) (dacons (dv 5 rfl) (dacons dstr (dacons dint (dacons (dsub (dv 1 rfl) dint) danil)))) ⟨_, _, _, _, rfl, by omega, by omega, rfl⟩)) ?_)
  refine bm1 (sm_fld (pos0 := ⟨0, 0, 0, 0⟩) (dv 0 rfl) (em (dv 5 rfl) ⟨[], m1, _, dx, ["many", "pins", "bars", "beads"], _, rfl, T.cl_Machine, T.naM "pen" (by decide), by decide, by decide, ?_⟩))
  exact bm0 hS
end
end K31
end
section
set_option maxHeartbeats 4000000
set_option autoImplicit false
/-! The walk: a pose is judged. -/
namespace K31
open PySem PySem.Spec PyProof.Rows L2
def tornD (K : PySem.W.Frag) (k : Str) (i : Nat) : D := .obj (He.ga K "Torn") ["word", "parts", "kind", "at"] [.str "torn", .tup [.str k, .int i], .str k, .int i]
def rightD (K : PySem.W.Frag) : D := .obj (He.ga K "Right") ["word", "parts"] [.str "right", .tup []]
def F_Torn_init (K : PySem.W.Frag) (ds : List D) (m : Mu) (S : D → Mu → Prop) : Prop := ∃ (q dx : Addr) (k : Str) (i : Nat) (m1 : Mu), ds = [.fn q, .str k, .int i] ∧ m = (q, .ins (He.ga K "Torn") dx [] []) :: m1 ∧
  S .non ((q, .ins (He.ga K "Torn") dx ["word", "parts", "kind", "at"] [.str "torn", .tup [.str k, .int i], .str k, .int i]) :: m1)
def F_Right_init (K : PySem.W.Frag) (ds : List D) (m : Mu) (S : D → Mu → Prop) : Prop := ∃ (q dx : Addr) (m1 : Mu), ds = [.fn q] ∧ m = (q, .ins (He.ga K "Right") dx [] []) :: m1 ∧ S .non ((q, .ins (He.ga K "Right") dx ["word", "parts"] [.str "right", .tup []]) :: m1)
/-- what making a paper promises -/
structure PapOk (P : Program) (w : World) (K : PySem.W.Frag) (mg : Str → Option Value) (base : Heap) : Prop where
  torn : FnR P w K mg base CX0 6 (He.ma K (He.ga K "Torn") "__init__") (spM K (F_Torn_init K) 3)
  right : FnR P w K mg base CX0 6 (He.ma K (He.ga K "Right") "__init__") (spM K (F_Right_init K) 1)
section
variable {X : Cx} {P : Program} {ρ : Rho} {e a b : Expr} {es : List Expr} {d : D} {ds : List D} {pos p : Pos}
theorem dtorn {k : Str} {i : Nat} (T : TC P X.K X.mg) (F : PapOk X.prog X.w X.K X.mg X.base) (hr : Room 7 X.A) (h : DA X [a, b] ρ [.str k, .int i]) (hg : Gl X "Torn" := by rfl) (he : starEach [a, b] X.env = (false, eval a X.env) :: starEach [b] X.env := by rfl) (hpl : (backTo pos (starEach [b] X.env)).any (·.1) = false := by rfl) :
    DE X (.Call (.Name "Torn" p) [a, b] [] pos) ρ (tornD X.K k i) :=
  de_em (em_make T.mk_Torn F.torn hr T.g_Torn (am h ⟨rfl, fun q dx => ⟨q, dx, k, i, [], rfl, rfl, rfl, _, _, rfl, rfl, rfl⟩⟩) hg (by decide) he hpl)
theorem dright (T : TC P X.K X.mg) (F : PapOk X.prog X.w X.K X.mg X.base) (hr : Room 7 X.A) (hg : Gl X "Right" := by rfl) : DE X (.Call (.Name "Right" p) [] [] pos) ρ (rightD X.K) :=
  de_em (em_make0 T.mk_Right F.right hr T.g_Right (fun q dx => ⟨q, dx, [], rfl, rfl, rfl, _, _, rfl, rfl, rfl⟩) hg (by decide))
theorem dmachine {n : Nat} {pins : List PinE} {bars : List BarE} {beads : List BeadE} (T : TC P X.K X.mg) (T2 : TC X.prog X.K X.mg) (hr : Room 9 X.A) (h : DA X (e :: es) ρ [.int n, .lst (pins.map pinR), .lst (bars.map barR), .lst (beads.map beadR), .int ((n : Int) - 1)]) (hm : MRows n pins bars beads) (hg : Gl X "Machine" := by rfl)
    (he : starEach (e :: es) X.env = (false, eval e X.env) :: starEach es X.env := by rfl) (hpl : (backTo pos (starEach es X.env)).any (·.1) = false := by rfl) : DE X (.Call (.Name "Machine" p) (e :: es) [] pos) ρ (machD X.K n pins bars beads) :=
  de_em (em_make T.mk_Machine (okR_Machine_init T2) hr T.g_Machine (am h ⟨rfl, fun q dx => ⟨q, dx, n, pins, bars, beads, [], rfl, rfl, hm, rfl, _, _, rfl, rfl, rfl⟩⟩) hg (by decide) he hpl)
end
section
variable {P : Program} {w : World} {K : PySem.W.Frag} {mg : Str → Option Value} {base : Heap}
def tearP (K : PySem.W.Frag) : Option (Str × Nat) → D
  | some (k, i) => tornD K k i
  | none => .non
def judgeP (K : PySem.W.Frag) : Option (Str × Nat) → D
  | some (k, i) => tornD K k i
  | none => rightD K
theorem cmp_gone {X : Cx} (hu : X.A.units + 64 < cLine) {qs : List Pl} {e : BeadE} {p q t : Pl} (hp : qs[e.2.1]? = some p) (hq : qs[e.2.2.1]? = some q) (ht : qs[e.1]? = some t) (okp : PlOk p) (okq : PlOk q) : CmpD X .NotEq (optPl (goneQ p q e.2.2.2)) (plD t) (beadBad qs e) := by
  rw [← bead_gone okp okq]
  exact cmp_bead hu hp hq ht
def S_tear_in (P : Program) (w : World) (K : PySem.W.Frag) (mg : Str → Option Value) (base : Heap) (ds : List D) (d : D) : Prop := PapOk P w K mg base ∧ ∃ (n : Nat) (qs : List Pl) (pins : List PinE) (bars : List BarE) (beads : List BeadE), ds = [machD K n pins bars beads, .tup (qs.map plD)] ∧ Fits qs pins bars beads ∧ d = tearP K (tearQ qs pins bars beads)
abbrev N_tear_in : List Str := ["machine", "places", "at", "joint", "point", "one", "other", "length", "share"]
theorem sc_tear_in : FnScope N_tear_in ["machine", "places"] (defScope s_tear_in) := ⟨rfl, rfl, rfl, by decide +kernel, rfl, by decide +kernel, by decide +kernel⟩
theorem ok_tear_in (T : TC P K mg) : Ok P w K mg base 8 "tear_in" 2 (S_tear_in P w K mg base) := by
  obtain ⟨fd, F⟩ := T.f_tear_in
  refine ok_of (N := N_tear_in) (ps := ["machine", "places"]) F T.g_tear_in sc_tear_in rfl (fun _ _ _ _ _ _ us hl => match us, hl with | [_, _], _ => rfl) fun cdv A outer s H ds d E hr hl hS => ?_
  have hu := hr.units
  obtain ⟨hP, n, qs, pins, bars, beads, rfl, hf, rfl⟩ := hS
  refine ⟨_, ?_, .inl rfl⟩
  unfold tearQ
  refine db_find pins (pinBad qs) pinR (fun i => tornD K "pin" i) PassesOwn.never rfl (diET T.b_enumerate (dfld (i := 1) (dv 0 rfl) T.cl_Machine (T.naM "pins" (by decide)) (by decide) rfl rfl)) (fun i e he => ?_) (fun i hi => by rw [hi]; rfl) (fun hn => ?_)
  · obtain ⟨p, hp⟩ := hf.pn e (List.mem_of_getElem? he)
    exact ⟨_, dgT rfl (dgs1 (dgN (i := 2) sc_tear_in.nd rfl) (dgs1 (dgT rfl (dgs1 (dgN (i := 3) sc_tear_in.nd rfl) (dgs1 (dgN (i := 4) sc_tear_in.nd rfl) dgs0))) dgs0)), db_ifret (dt_cmp (cmp_pin hu hp rfl) (dixT (dv 1 rfl) (dv 3 rfl) (atI_map' hp)) (dtup (dacons (dv 4 rfl) (dacons (dNONE T.toTB) (dacons dint danil))))) (dbR (dret (dtorn T hP (hr.mono (by decide)) (dacons dstr (dacons (dv 2 rfl) danil))))) ⟨.inr rfl, .inr rfl, .inl rfl, .inl rfl, .inl rfl, .inl rfl, .inl rfl, .inl rfl, .inl rfl, trivial⟩⟩
  rw [hn]
  refine db_find bars (barBad qs) barR (fun i => tornD K "bar" i) PassesOwn.never rfl (diET T.b_enumerate (dfld (i := 2) (dv 0 rfl) T.cl_Machine (T.naM "bars" (by decide)) (by decide) rfl rfl)) (fun i e he => ?_) (fun i hi => by rw [hi]; rfl) (fun hn => ?_)
  · obtain ⟨p, q, hp, hpt, hq, hb20⟩ := hf.br e (List.mem_of_getElem? he)
    obtain ⟨okp, szp⟩ := hf.ok p (List.mem_of_getElem? hp)
    obtain ⟨okq, szq⟩ := hf.ok q (List.mem_of_getElem? hq)
    exact ⟨_, dgT rfl (dgs1 (dgN (i := 2) sc_tear_in.nd rfl) (dgs1 (dgT rfl (dgs1 (dgN (i := 5) sc_tear_in.nd rfl) (dgs1 (dgN (i := 6) sc_tear_in.nd rfl) (dgs1 (dgN (i := 7) sc_tear_in.nd rfl) dgs0)))) dgs0)), db_ifret (dt_cmp (cmp_bar hu hp hq) (dcall (ok_off_by T.toTB) (hr.mono (by decide)) (dacons (dixT (dv 1 rfl) (dv 5 rfl) (atI_map' hp)) (dacons (dixT (dv 1 rfl) (dv 6 rfl) (atI_map' hq)) danil)) ⟨p.x, p.y, q, by rw [← hpt], szp.x, szp.y, okq, szq, rfl⟩) (dcall (ok_square T.toTB) (hr.mono (by decide)) (dacons (dv 7 rfl) danil) ⟨e.2.2, rfl, hb20.pr hb20 (by decide) (by decide), rfl⟩)) (dbR (dret (dtorn T hP (hr.mono (by decide)) (dacons dstr (dacons (dv 2 rfl) danil))))) ⟨.inr rfl, .inr rfl, .inl rfl, .inl rfl, .inl rfl, .inl rfl, .inl rfl, .inl rfl, .inl rfl, trivial⟩⟩
  rw [hn]
  refine db_find beads (beadBad qs) beadR (fun i => tornD K "bead" i) PassesOwn.never rfl (diET T.b_enumerate (dfld (i := 3) (dv 0 rfl) T.cl_Machine (T.naM "beads" (by decide)) (by decide) rfl rfl)) (fun i e he => ?_) (fun i hi => by rw [hi]; rfl) (fun hn => ?_)
  · obtain ⟨p, q, t, hp, hq, ht, b1, b2⟩ := hf.bd e (List.mem_of_getElem? he)
    obtain ⟨okp, szp⟩ := hf.ok p (List.mem_of_getElem? hp)
    obtain ⟨okq, szq⟩ := hf.ok q (List.mem_of_getElem? hq)
    exact ⟨_, dgT rfl (dgs1 (dgN (i := 2) sc_tear_in.nd rfl) (dgs1 (dgT rfl (dgs1 (dgN (i := 3) sc_tear_in.nd rfl) (dgs1 (dgN (i := 5) sc_tear_in.nd rfl) (dgs1 (dgN (i := 6) sc_tear_in.nd rfl) (dgs1 (dgN (i := 8) sc_tear_in.nd rfl) dgs0))))) dgs0)), db_ifret (dt_cmp (cmp_gone hu hp hq ht okp okq) (dcall (ok_gone T.toTB) (hr.mono (by decide)) (dacons (dixT (dv 1 rfl) (dv 5 rfl) (atI_map' hp)) (dacons (dixT (dv 1 rfl) (dv 6 rfl) (atI_map' hq)) (dacons (dv 8 rfl) danil))) ⟨p, q, e.2.2.2, rfl, okp, okq, szp, szq, b1, b2, rfl⟩) (dixT (dv 1 rfl) (dv 3 rfl) (atI_map' ht))) (dbR (dret (dtorn T hP (hr.mono (by decide)) (dacons dstr (dacons (dv 2 rfl) danil))))) ⟨.inr rfl, .inr rfl, .inl rfl, .inl rfl, .inl rfl, .inl rfl, .inl rfl, .inl rfl, .inl rfl, trivial⟩⟩
  rw [hn]
  exact dbR (dret dnon)
def S_judged (P : Program) (w : World) (K : PySem.W.Frag) (mg : Str → Option Value) (base : Heap) (ds : List D) (d : D) : Prop := PapOk P w K mg base ∧ ∃ (X : D) (qs : List Pl) (pins : List PinE) (bars : List BarE) (beads : List BeadE), ds = [machD K qs.length pins bars beads, X] ∧ Pls X qs ∧ Fits qs pins bars beads ∧ d = judgeP K (tearQ qs pins bars beads)
abbrev N_judged : List Str := ["machine", "places", "tear"]
theorem sc_judged : FnScope N_judged ["machine", "places"] (defScope s_judged) := ⟨rfl, rfl, rfl, by decide +kernel, rfl, by decide +kernel, by decide +kernel⟩
theorem ok_judged (T : TC P K mg) : Ok P w K mg base 9 "judged" 2 (S_judged P w K mg base) := by
  obtain ⟨fd, F⟩ := T.f_judged
  refine ok_of (N := N_judged) (ps := ["machine", "places"]) F T.g_judged sc_judged rfl (fun _ _ _ _ _ _ us hl => match us, hl with | [_, _], _ => rfl) fun cdv A outer s H ds d E hr hl hS => ?_
  obtain ⟨hP, Y, qs, pins, bars, beads, rfl, hY, hf, rfl⟩ := hS
  refine ⟨_, ?_, .inl rfl⟩
  refine db1 (dexpr (dcallD (ok_need_machine T) (hr.mono (by decide)) (dacons (dv 0 rfl) danil) ⟨_, _, rfl, rfl⟩)) ?_
  refine db1 (dset (i := 2) sc_judged.nd rfl (dcall (ok_tear_in T) (hr.mono (by decide)) (dacons (dv 0 rfl) (dacons (dcall (ok_need_pose T) (hr.mono (by decide)) (dacons (dv 0 rfl) (dacons (dv 1 rfl) danil)) ⟨Y, qs, pins, bars, beads, rfl, hY, rfl⟩) danil)) ⟨hP, _, qs, pins, bars, beads, rfl, hf, rfl⟩)) ?_
  cases ht : tearQ qs pins bars beads with
  | none => exact dbR (dret (de_if_t (DT.is (dt_cmp cisN (dv 2 rfl) dnon) rfl) (dright T hP (hr.mono (by decide)))))
  | some ki =>
    obtain ⟨k, i⟩ := ki
    refine dbR (dret (de_if_f (DT.is (dt_cmp cisN (dv 2 rfl) dnon) rfl) (DE.is (dv 2 rfl) rfl)))
end
end K31
end
section
set_option maxHeartbeats 4000000
set_option autoImplicit false
/-! The walk: papers. -/
namespace K31
open PySem PySem.Spec PyProof.Rows L2
/-- neither list nor tuple -/
def Leaf (x : D) : Prop := isSeq x = false ∧ ∃ t, x.ty = some t
section
variable {P : Program} {w : World} {K : PySem.W.Frag} {mg : Str → Option Value} {base : Heap}
def S_fixed (ds : List D) (d : D) : Prop := Leaf d ∧ ds = [d]
abbrev N_fixed : List Str := ["value", "each"]
theorem sc_fixed : FnScope N_fixed ["value"] (defScope s_fixed) := ⟨rfl, rfl, rfl, by decide +kernel, rfl, by decide +kernel, by decide +kernel⟩
theorem ok_fixed (T : TB K mg) : Ok P w K mg base 1 "fixed" 1 S_fixed := by
  obtain ⟨fd, F⟩ := T.f_fixed
  refine ok_of (N := N_fixed) (ps := ["value"]) F T.g_fixed sc_fixed rfl (fun _ _ _ _ _ _ us hl => match us, hl with | [_], _ => rfl) fun cdv A outer s H ds d E hr hl hS => ?_
  obtain ⟨⟨hs, t, ht⟩, rfl⟩ := hS
  exact ⟨_, dbR (dret (de_if_f (DT.is (dt_val (disiLT T.b_isinstance T.b_list T.b_tuple (dv 0 rfl) ht)) hs) (dv 0 rfl))), .inl rfl⟩
def S_fixed1 (ds : List D) (d : D) : Prop := ∃ xs : List D, ds = [.tup xs] ∧ (∀ x ∈ xs, Leaf x) ∧ xs.length ≤ 1000 ∧ d = .tup xs
theorem ok_fixed1 (T : TB K mg) : Ok P w K mg base 2 "fixed" 1 S_fixed1 := by
  obtain ⟨fd, F⟩ := T.f_fixed
  refine ok_of (N := N_fixed) (ps := ["value"]) F T.g_fixed sc_fixed rfl (fun _ _ _ _ _ _ us hl => match us, hl with | [_], _ => rfl) fun cdv A outer s H ds d E hr hl hS => ?_
  obtain ⟨xs, rfl, hx, hl9, rfl⟩ := hS
  refine ⟨_, dbR (dret (de_if_t (DT.is (dt_val (disiLT T.b_isinstance T.b_list T.b_tuple (dv 0 rfl) rfl)) rfl) (DE.is (dtupleOf T.b_tuple (dlc (own := [("each", 1)]) (fun d => d) rfl sc_fixed.nd (diT (dv 0 rfl)) (blkOk_by (N := N_fixed) (sc := defScope s_fixed) (by decide +kernel)) (pgN (i := 1) sc_fixed.nd rfl) hl9 (fun d hd => ?_)) rfl) (by rw [List.map_id'])))), .inl rfl⟩
  exact ⟨_, bcN, fun _ _ _ _ _ => dcall (ok_fixed T) (hr.mono (by decide)) (dacons (dv 1 rfl) danil) ⟨hx d hd, rfl⟩⟩
/-- what a paper's own __init__ promises -/
def F_Paper (K : PySem.W.Frag) (ds : List D) (m : Mu) (S : D → Mu → Prop) : Prop := ∃ (q C dx : Addr) (wd : Str) (xs : List D) (m1 : Mu), ds = .fn q :: .str wd :: xs ∧ (∀ x ∈ xs, Leaf x) ∧ xs.length ≤ 100 ∧ m = (q, .ins C dx [] []) :: m1 ∧ Cls K C ∧ NoAttr K C "word" ∧ NoAttr K C "parts" ∧
  S .non ((q, .ins C dx ["word", "parts"] [.str wd, .tup xs]) :: m1)
abbrev N_Paper_init : List Str := ["self", "word", "parts"]
theorem sc_Paper_init : FnScope N_Paper_init ((["self", "word"] : List Str) ++ (["parts"] : List Str)) (defScope s_Paper_init) := ⟨rfl, rfl, rfl, by decide +kernel, rfl, by decide +kernel, by decide +kernel⟩
theorem okR_Paper_init (T : TC P K mg) (n : Nat) : FnR P w K mg base CX0 4 (He.ma K (He.ga K "Paper") "__init__") (spM K (F_Paper K) n) := by
  obtain ⟨fd, F⟩ := T.f_Paper_init
  obtain ⟨oc, od, dV, kV, doc, pm, an, cdv, ct, osl, rfl, lk, hcd, hD, hK⟩ := F.ex
  rcases hD with ⟨_, rfl⟩ | ⟨h, _⟩
  · have z := StX.fn_star (CX := CX0) (P := P) (w := w) (K := K) (mg := mg) (base := base) (k := 3) (N := N_Paper_init) (ps := ["self", "word"]) (pv := "parts") (sp := fun vs H Q E => ∃ (W : Wd) (ds : List D) (m : Mu) (S : D → Mu → Prop) (q C dx : Addr) (wd : Str) (xs : List D) (m1 : Mu), W.h = H ∧ RpL K W.s [.fn q, .str wd, .tup xs] vs ∧ (∀ x ∈ xs, Leaf x) ∧ xs.length ≤ 100 ∧ MOk K W ((q, .ins C dx [] []) :: m1) ∧ Cls K C ∧ NoAttr K C "word" ∧ NoAttr K C "parts" ∧
        S .non ((q, .ins C dx ["word", "parts"] [.str wd, .tup xs]) :: m1) ∧ ∀ d m' v W2, S d m' → LeM ((q, .ins C dx [] []) :: m1) m' W W2 → MOk K W2 m' → Rp K W2.s d v → Q v W2.h) lk hcd sc_Paper_init StX.cxUp_none (fun us rest hl => match us, rest, hl with
      | [_, _], [], _ => rfl
      | [_, _], _ :: _, _ => rfl) fun A outer s H vs Q E hr h => ?_
    · intro A outer s H us vs Q E hr e0 r hsp
      obtain ⟨W, ds, m, S, rfl, e2, r1, M, ⟨q, C, dx, wd, xs, m1, rfl, hx, hl, rfl, cl, n1, n2, hS⟩, hq⟩ := hsp
      obtain ⟨v1, _, rfl, a1, v2, vs, rfl, a2, a3⟩ := r1
      refine z A outer s W.h us _ Q E hr e0 r ⟨[v1, v2], vs, rfl, rfl, by rw [a3.length]; exact sz_le (by omega), fun p hp => ?_⟩
      have e1 : Le W (W.new p (.tup vs)) := Le.new1 hp
      refine ⟨W.new p (.tup vs), [], [], S, q, C, dx, wd, xs, m1, rfl, ⟨v1, _, rfl, Rp.le e1 a1, v2, _, rfl, Rp.le e1 a2, .ref p, [], rfl, ⟨p, vs, rfl, .inl (.inl upd_same), RpL.le e1 a3⟩, rfl⟩, hx, hl, M.le e1, cl, n1, n2, hS, fun d m' v W2 h1 h2 h3 h4 => hq d m' v W2 h1 ((e1.toM _).trans h2) h3 h4⟩
    · obtain ⟨W, _, _, S, q, C, dx, wd, xs, m1, rfl, r1, hx, hl, M, cl, n1, n2, hS, hq⟩ := h
      refine ⟨wB (cxOf CX0 P w K mg base N_Paper_init "Paper.__init__" (defScope s_Paper_init) (He.ma K (He.ga K "Paper") "__init__") cdv A outer s W.h E).nox (defBody s_Paper_init), (pbW _).nox, ?_⟩
      have hb : BM (cxOf CX0 P w K mg base N_Paper_init "Paper.__init__" (defScope s_Paper_init) (He.ma K (He.ga K "Paper") "__init__") cdv A outer s W.h E).nox (defBody s_Paper_init) [some (.fn q), some (.str wd), some (.tup xs)] ((q, .ins C dx [] []) :: m1) S fun _ m' => S .non m' := by
        refine bm1 (sm_fld (pos0 := ⟨0, 0, 0, 0⟩) (dv 0 rfl) (em (dv 1 rfl) ⟨[], m1, C, dx, [], [], rfl, cl, n1, by decide, by decide, ?_⟩))
        refine bm1 (sm_fld (pos0 := ⟨0, 0, 0, 0⟩) (dv 0 rfl) (em (dcall (ok_fixed1 T.toTB) (hr.mono (by decide)) (dacons (dv 2 rfl) danil) ⟨xs, rfl, hx, by omega, rfl⟩) ⟨[], m1, C, dx, ["word"], _, rfl, cl, n2, by decide, by decide, ?_⟩))
        exact bm0 hS
      exact hb _ W (EnvD.start (N := N_Paper_init) r1 (Nat.le_refl 3)) M _ ⟨fun d m' v W2 hS le M2 r2 => hq d m' v W2 hS le M2 r2, fun ρ' m' σ' W2 hS le M2 E2 => hq .non m' .non W2 hS le M2 rfl⟩
  · exact absurd rfl h
end
end K31
end
section
set_option maxHeartbeats 4000000
set_option autoImplicit false
/-! super().__init__(..) in a def that closes over its class. -/
namespace K31
open PySem PySem.Spec PyProof.Rows L2
/-- what such a def's frame tells -/
structure SupEnv (X : Cx) (C g f cc : Addr) : Prop where
  kind : X.env.scope.kind = .function
  sup : X.env.scope.names.lookup ("super" : Str) = some .globalImplicit
  cls : X.env.scope.names.lookup ("__class__" : Str) = some .free
  own : X.env.scope.names.lookup ("self" : Str) = some .local
  fn : X.env.func = some f
  fo : ∃ (oc : Value) (od : Option Addr) (fd : FuncData) (osl : Array (Option Value)) (ar : Arg), X.K.lookup f = some ⟨oc, od, .func fd, osl⟩ ∧ (fd.params.posonlyargs ++ fd.params.args).head? = some ar ∧ ar.arg = ("self" : Str)
  code : ∃ (cda : Addr) (c2 : Value) (d2 : Option Addr) (s2 : Array (Option Value)) (vs : Array Value) (ff : Str) (tf : Tok), X.env.code = .ref cda ∧ X.K.lookup cda = some ⟨c2, d2, .fields vs, s2⟩ ∧ vs[2]? = some (.str ff tf) ∧ ((X.prog.main.file : Str) == ff) = true
  cell : X.env.cells.lookup ("__class__" : Str) = some cc ∧ ∃ (c1 : Value) (d1 : Option Addr) (s1 : Array (Option Value)), X.K.lookup cc = some ⟨c1, d1, .cell (some (.ref C)), s1⟩
  ns : PySem.W.nsIn X.K cStatics "thirdparty.any" = some none
  at_ : PySem.W.ks_superIn X.K C C "__init__" = some (some (.ref g))
  ty : PySem.W.typeIn X.K (.ref g) = some (.type "function")
  mro : PySem.W.mroIn X.K C (.ref C) = some true
  cd : ∃ cd, PySem.W.clsIn X.K C = some cd
  fi : PySem.W.fnIn X.K g = true
  top : (X.prog.main.scope.names.lookup ("super" : Str)).isSome = false
  mg : X.mg "super" = none
section
variable {X : Cx} {C g f cc a dx : Addr} {k : Nat} {sp : Sp} {e : Expr} {es : List Expr} {ta : TA} {p0 p1 apos pos epos : Pos} {body : List Stmt} {pins : List (Addr × Obj)} {σ : L2.St} {H : Hp} {s : Shared} {Q : VK} {fs : List (Str × V)} {pl : Sem Bool}
theorem super_st (S : SupEnv X C g f cc) (F : FnR X.prog X.w X.K X.mg X.base CX0 k g sp) (hr : Room k X.A) (hpa : PA X (e :: es) ta) (hN : X.N[0]? = some ("self" : Str)) (hσ : σ[0]? = some (some (.ref a))) (hH : H a = some (.ins C dx fs)) (I : Inv X pins σ H s)
    (hq : ta σ H fun vs H1 => sp (.ref a :: vs) H1 Q fun _ _ _ => False) (hi : interactive X.env = false) (hsw : swapsWith (.Call (.Attribute (.Call (.Name "super" p0) [] [] p1) "__init__" apos) (e :: es) [] pos) none epos.line X.env = pure false)
    (hst : starEach (e :: es) X.env = (false, eval e X.env) :: starEach es X.env) (hpl : (backTo pos (starEach es X.env)).any (·.1) = false)
    (he : eval (.Call (.Attribute (.Call (.Name "super" p0) [] [] p1) "__init__" apos) (e :: es) [] pos) X.env = (do
      let ov ← attributeBase (.Call (.Name "super" p0) [] [] p1) "__init__" X.env (eval (.Call (.Name "super" p0) [] [] p1) X.env)
      standAt apos.atName
      let (f, first) ← holding [ov] (getMethod ov "__init__" pl)
      callWith pos f first (backTo pos (starEach (e :: es) X.env)) [])) :
    PySem.wpAt (model X.prog X.w) X.A (.func body X.env) (exec (.Expr (.Call (.Attribute (.Call (.Name "super" p0) [] [] p1) "__init__" apos) (e :: es) [] pos) epos) X.env) (fun fl s' => fl = .next ∧ ∃ v H', Inv X pins σ H' s' ∧ Q v H') X.xe s := by
  obtain ⟨oc, od, fd, osl, ar, f1, f2, f3⟩ := S.fo
  obtain ⟨cda, c2, d2, s2, vs, ff, tf, g1, g2, g3, g4⟩ := S.code
  obtain ⟨l1, c1, d1, s1, l2⟩ := S.cell
  obtain ⟨cdC, hC⟩ := S.cd
  have X1 := I.kIn
  obtain ⟨oD, hD1, hD2⟩ : ∃ oD, s.heap.get? C = some oD ∧ oD.data = .cls cdC := by
    have hC' := hC
    unfold PySem.W.clsIn at hC'
    split at hC'
    · rename_i c d cd' sl ho
      cases hC'
      exact ⟨_, X1 _ _ ho, rfl⟩
    · cases hC'
  obtain ⟨mA, O, _⟩ := ins_get I.hok hH
  obtain ⟨od2, J, _⟩ := O.look
  obtain ⟨m, hns, hm⟩ := I.loc
  obtain ⟨u, ru, hu⟩ := hm 0 "self" _ hN hσ (.inl S.own)
  cases (show u = Value.ref a from ru)
  have hself : m "self" = some (.ref a) := by
    rcases hu with ⟨_, z⟩ | ⟨z, _⟩
    · exact z
    · rcases z with z | z
      · have z : X.env.scope.names.lookup ("self" : Str) = some .cell := z
        rw [S.own] at z; cases z
      · have z : X.env.scope.names.lookup ("self" : Str) = some .free := z
        rw [S.own] at z; cases z
  obtain ⟨mb, b1, b2⟩ := I.mod.blt
  refine PySem.ks_wpAt_Expr_any (Q := fun fl s' => fl = .next ∧ ∃ v H', Inv X pins σ H' s' ∧ Q v H') ?_ hi hsw
  refine PySem.ks_wpAt_MethodCall (pl := pl) ?_ he
  refine PySem.ks_wpAt_super_base (env := X.env) S.sup S.cls rfl S.fn (X1 _ _ f1) rfl f2 g1 (X1 _ _ g2) rfl g3 g4 S.top ?_
  refine PySem.W.ks_loadName_global S.kind S.sup (Calls.loadGlobal_builtin (by rw [I.ok.glob]; exact I.mod.glob.keeps I.bk) S.mg (by rw [I.ok.blt]; exact b1.keeps I.bk) ((b2 "super" (by decide)).trans (by decide +kernel : bootBuiltins "super" = some (.type "super"))) ⟨rfl, ?_⟩)
  refine wpAny_loadName_free S.kind S.cls l1 ⟨_, X1 _ _ l2, rfl⟩ ?_
  rw [f3]
  refine wpAny_loadName_local S.kind S.own hns hself ?_
  obtain ⟨hh, gg, dd, tt, os⟩ := s
  refine PySem.ks_wpAny_isType_cls hD1 hD2 ⟨rfl, ?_⟩
  refine PySem.ks_wpAny_call_super hD1 hD2 J.at_ J.cls (fun c ec => ?_) (PySem.W.looks_mroIn X1 S.mro) (fun h' e1 k1 => ?_)
  · have z := J.no
    unfold PySem.W.notCls at z
    rw [ec] at z
    exact Bool.noConfusion z
  have I2 : Inv X ((hh.objs.size, PySem.W.ks_superObj C a C) :: pins) σ H ⟨h', gg, dd, tt, os⟩ := ClX.pin_new (t' := tt) I k1 (Nat.le_refl _) e1 (fun v z => nomatch z)
  have X2 := I2.kIn
  obtain ⟨of, hof, hofc⟩ : ∃ of, h'.get? g = some of ∧ of.cls = .type "function" := by
    have ht' : (X.K.lookup g).map (·.cls) = some (.type "function") := S.ty
    cases z : X.K.lookup g with
    | none => rw [z] at ht'; cases ht'
    | some of => rw [z] at ht'; exact ⟨of, X2 _ _ z, Option.some.inj ht'⟩
  have hal : PySem.W.alongIn X.K "__init__" ((cdC.mro.dropWhile (· != .ref C)).drop 1) = some (some (.ref g)) := by
    have z := S.at_
    unfold PySem.W.ks_superIn at z
    rw [hC] at z
    exact z
  refine PySem.ks_wpAny_getMethod_super e1 (PySem.W.looks_opaque X2 S.ns) (l₀ := cdC.mro) ?_ rfl X2 hal hof hofc (PySem.W.ks_ne X1 J hC) rfl ?_
  · exact fun A Q E s k q => wpAny_bind ((PySem.W.looks_clsIn X2 hC) A _ E s k (wpAny_pure q))
  have I3 := ClX.met_new (g := g) (C := a) I2
  refine ClX.callwith_cm I3 (ClX.base_none I2 (Nat.le_refl _)) S.fi (thn (hpa.run pos _ _ σ H _ I3 hq) fun us s3 ⟨vs, H2, I4, rv, q2⟩ => ⟨⟨ClX.pin_at I4, I4.kIn⟩, ?_⟩) hst hpl
  refine thn (ClX.run_cm F hr pass0 I4 rv q2) fun u s' y => ⟨rfl, ?_⟩
  obtain ⟨v, H', I5, _, q⟩ := ClX.unpinE y
  exact ⟨v, H', I5, q⟩
end
end K31
end
section
set_option maxHeartbeats 4000000
set_option autoImplicit false
/-! Right and Torn are made. -/
namespace K31
open PySem PySem.Spec PyProof.Rows L2
theorem EnvD.startF {K : PySem.W.Frag} {H : Hp} {N : List Str} {ds : List D} {vs : List V} {ws : List (Option V)} (r : RpL K H ds vs) (hN : ds.length + ws.length ≤ N.length) : EnvD K H (NdefX.startF N vs ws) (ds.map some ++ List.replicate (N.length - ds.length) none) := by
  have hl := r.length
  refine ⟨by unfold NdefX.startF; simp [hl]; omega, fun i d e => ?_⟩
  by_cases hi : i < ds.length
  · rw [List.getElem?_append_left (by simpa using hi), List.getElem?_map] at e
    obtain ⟨d', hd, e2⟩ := Option.map_eq_some_iff.mp e
    cases e2
    obtain ⟨v, hv, rv⟩ := r.get hd
    refine ⟨v, ?_, rv⟩
    unfold NdefX.startF
    rw [List.getElem?_append_left (by rw [List.length_map]; omega), List.getElem?_map, hv]
    rfl
  · rw [List.getElem?_append_right (by rw [List.length_map]; omega), List.getElem?_replicate] at e
    split at e <;> cases e
/-- the def that closes over __class__ -/
abbrev supF (q : Str) (st : Stmt) (cc cda : Addr) : NdefX.NF := ⟨"__init__", q, defArgs st, defBody st, defScope st, [("__class__", cc)], cda⟩
abbrev supCall (p0 p1 apos pos : Pos) (e : Expr) (es : List Expr) : Expr := .Call (.Attribute (.Call (.Name "super" p0) [] [] p1) "__init__" apos) (e :: es) [] pos
section
variable {P : Program} {w : World} {K : PySem.W.Frag} {mg : Str → Option Value} {base : Heap}
theorem sup_fn {C B q : Str} {st : Stmt} {N ps : List Str} {n : Nat} {F0 : List D → Mu → (D → Mu → Prop) → Prop} {e : Expr} {es : List Expr} {p0 p1 apos pos epos : Pos} {rest : List Stmt} {ar : Arg} (T : TC P K mg) (pap : Pap P K C B q st) (htop : (P.main.scope.names.lookup ("super" : Str)).isSome = false)
    (Sc : NdefX.NScope N ps ["__class__"] (defScope st)) (hn : ps.length = n) (h1n : 1 ≤ n) (hst : defBody st = .Expr (supCall p0 p1 apos pos e es) epos :: rest) (hN0 : N[0]? = some ("self" : Str)) (har : ((defArgs st).posonlyargs ++ (defArgs st).args).head? = some ar) (har2 : ar.arg = ("self" : Str))
    (ksup : (defScope st).names.lookup ("super" : Str) = some .globalImplicit) (kown : (defScope st).names.lookup ("self" : Str) = some .local) (cl : Cls K (He.ga K C)) (n1 : NoAttr K (He.ga K C) "word") (n2 : NoAttr K (He.ga K C) "parts")
    (hbind : ∀ (kV doc pm : Value) (an : Option Addr) (cc cda : Addr) (ct : Value) (us : List Value), us.length = ps.length → bindArgs (PySem.W.fnX "__init__" q (defArgs st) (defBody st) (defScope st) [("__class__", cc)] .none kV doc pm an (.ref cda) ct) ⟨us, []⟩ = pure (ps.zip us))
    (hi : ∀ cc cda f L, interactive (NdefX.envF (supF q st cc cda) f L) = false) (hsw : ∀ cc cda f L, swapsWith (supCall p0 p1 apos pos e es) none epos.line (NdefX.envF (supF q st cc cda) f L) = pure false)
    (hse : ∀ cc cda f L, starEach (e :: es) (NdefX.envF (supF q st cc cda) f L) = (false, eval e (NdefX.envF (supF q st cc cda) f L)) :: starEach es (NdefX.envF (supF q st cc cda) f L)) (hpl : ∀ cc cda f L, (backTo pos (starEach es (NdefX.envF (supF q st cc cda) f L))).any (·.1) = false)
    (hev : ∀ cc cda f L, ∃ pl : Sem Bool, eval (supCall p0 p1 apos pos e es) (NdefX.envF (supF q st cc cda) f L) = (do
      let ov ← attributeBase (.Call (.Name "super" p0) [] [] p1) "__init__" (NdefX.envF (supF q st cc cda) f L) (eval (.Call (.Name "super" p0) [] [] p1) (NdefX.envF (supF q st cc cda) f L))
      standAt apos.atName
      let (f', first) ← holding [ov] (getMethod ov "__init__" pl)
      callWith pos f' first (backTo pos (starEach (e :: es) (NdefX.envF (supF q st cc cda) f L))) []))
    (hbody : ∀ (cc cda f : Addr) (A : Around) (outer : List Env) (s : Shared) (H : Hp) (E : XK) (ds : List D) (m : Mu) (S : D → Mu → Prop), Room 5 (A.deeper (NdefX.envF (supF q st cc cda) f s.heap.objs.size)) → ds.length = n → F0 ds m S → ∃ (q0 dx : Addr) (m1 : Mu) (ds' : List D) (wd : Str) (xs : List D), ds = .fn q0 :: ds' ∧ m = (q0, .ins (He.ga K C) dx [] []) :: m1 ∧
      DA (NdefX.ncx CX0 P w K mg base N (supF q st cc cda) f A outer s H E) (e :: es) (ds.map some ++ List.replicate (N.length - ds.length) none) (.str wd :: xs) ∧ (∀ x ∈ xs, Leaf x) ∧ xs.length ≤ 100 ∧
      BM (NdefX.ncx CX0 P w K mg base N (supF q st cc cda) f A outer s H E) rest (ds.map some ++ List.replicate (N.length - ds.length) none) ((q0, .ins (He.ga K C) dx ["word", "parts"] [.str wd, .tup xs]) :: m1) S fun _ m' => S .non m') :
    FnR P w K mg base CX0 6 (He.ma K (He.ga K C) "__init__") (spM K F0 n) := by
  obtain ⟨oc, od, kV, doc, pm, an, cda, ct, osl, cc, c1, d1, s1, c2, d2, s2, vs2, ff, tf, lk, hcd, lc, lcd, hv2, hff⟩ := pap.clo.ex
  intro A outer s H us vs Q E hr e0 r hsp
  obtain ⟨W, ds, m, S, rfl, hl, r1, M, hF, hq⟩ := hsp
  have KX : K.In s.heap := e0.mod.kin.keeps fun b o e => (e0.bs b o e).1
  have lim : s.heap.NoLimit := e0.mod.nolimit.keeps fun b o e => (e0.bs b o e).1
  have lv : vs.length = ps.length := by rw [r1.length, hl, hn]
  have lu : us.length = ps.length := by rw [← r.length, lv]
  have hpN : ps.length + 1 ≤ N.length := by
    have z := congrArg List.length Sc.pre
    rw [List.length_take, List.length_append] at z
    have : (["__class__"] : List Str).length = 1 := rfl
    omega
  have cells : NdefX.CellsAt [(("__class__" : Str), cc)] ["__class__"] [some (.ref (He.ga K C))] s.heap W.h := by
    have hc0 : W.h cc = none := (e0.bs cc _ (e0.mod.kin _ _ lc)).2
    have ic : s.heap.IsCell cc (some (.ref (He.ga K C))) := ⟨_, KX _ _ lc, rfl⟩
    have one : ∀ {y : Str} {c : Addr}, List.lookup y [(("__class__" : Str), cc)] = some c → y = "__class__" ∧ c = cc := fun {y c} h => by
      rw [List.lookup_cons] at h
      cases hb : (y == ("__class__" : Str)) with
      | true => rw [hb] at h; cases h; exact ⟨beq_iff_eq.mp hb, rfl⟩
      | false => rw [hb] at h; cases h
    refine ⟨rfl, fun y c h => ?_, fun x y c h1 h2 => ?_, fun i y h => ?_⟩
    · obtain ⟨_, rfl⟩ := one h
      exact ⟨hc0, _, ic⟩
    · rw [(one h1).1, (one h2).1]
    · match i, h with
      | 0, h =>
        cases h
        exact ⟨cc, by rw [List.lookup_cons]; rfl, fun v hv => by cases hv; exact ⟨_, rfl, ic⟩⟩
      | i + 1, h => simp at h
  obtain ⟨q0, dx, m1, ds', wd, xs, ed, em, hda, hlf, hxl, hbm⟩ := hbody cc cda (He.ma K (He.ga K C) "__init__") A outer s W.h E ds m S (hr.deeper _) hl hF
  refine PySem.ks_codeAny_call_defAt (body := .Expr (supCall p0 p1 apos pos e es) epos :: rest) (binds := ps.zip us) hr.depth (KX _ _ lk) rfl lim (PySem.W.codeRec_of KX hcd) (by rw [← hst]) (fun M' A' Q' E' z => by rw [hbind kV doc pm an cc cda ct us lu]; exact wpAny_pure z) Sc.nocell
    (fun ⟨nm, _⟩ hy => Sc.par nm (List.of_mem_zip hy).1) (fun h₁ hns kp => ?_) Sc.co Sc.gen Sc.kind
  have I : Inv (NdefX.ncx CX0 P w K mg base N (supF q st cc cda) (He.ma K (He.ga K C) "__init__") A outer s W.h E) [] (NdefX.startF N vs [some (.ref (He.ga K C))]) W.h { s with heap := h₁, toks := s.toks + (ps.zip us).length } := NdefX.inv_startN Sc hr.hd e0 lv r cells hns kp
  have E0 : EnvD K W.s (NdefX.startF N vs [some (.ref (He.ga K C))]) (ds.map some ++ List.replicate (N.length - ds.length) none) := EnvD.startF r1 (by rw [hl, ← hn]; exact hpN)
  have sup : SupEnv (NdefX.ncx CX0 P w K mg base N (supF q st cc cda) (He.ma K (He.ga K C) "__init__") A outer s W.h E) (He.ga K C) (He.ma K (He.ga K "Paper") "__init__") (He.ma K (He.ga K C) "__init__") cc :=
    ⟨Sc.kind, ksup, Sc.frk _ (List.mem_singleton.mpr rfl), kown, rfl, ⟨_, _, _, _, ar, lk, har, har2⟩, ⟨cda, _, _, _, _, _, _, rfl, lcd, hv2, hff⟩, ⟨by show List.lookup _ [_] = _; rw [List.lookup_cons]; rfl, _, _, _, lc⟩, T.parts.2.2.2.2.2.1, pap.sup, pap.ty, pap.mro, pap.cls, pap.fi, htop, T.b_super⟩
  subst ed em
  obtain ⟨v0, vs', ev, rv0, rvs⟩ := r1
  have ev0 : v0 = .ref q0 := rv0
  obtain ⟨_, xs0, hq0, _, _⟩ := M.at_ (q0, .ins (He.ga K C) dx [] []) (List.mem_cons_self ..)
  obtain ⟨pl, hpl2⟩ := hev cc cda (He.ma K (He.ga K C) "__init__") s.heap.objs.size
  have body := super_st (X := NdefX.ncx CX0 P w K mg base N (supF q st cc cda) (He.ma K (He.ga K C) "__init__") A outer s W.h E) (body := .Expr (supCall p0 p1 apos pos e es) epos :: rest) (a := q0) (dx := dx) (epos := epos) (pl := pl)
    (Q := fun _ H' => ∃ W2 : Wd, W2.h = H' ∧ LeM ((q0, .ins (He.ga K C) dx [] []) :: m1) ((q0, .ins (He.ga K C) dx ["word", "parts"] [.str wd, .tup xs]) :: m1) W W2 ∧ MOk K W2 ((q0, .ins (He.ga K C) dx ["word", "parts"] [.str wd, .tup xs]) :: m1)) sup (okR_Paper_init T (xs.length + 2)) ((hr.deeper _).mono (by decide)) (paW (e :: es)) hN0 (by rw [ev, ev0]; rfl) hq0 I
    (hda _ W E0 _ fun vsA W1 le1 rA => ⟨W1, .fn q0 :: .str wd :: xs, (q0, .ins (He.ga K C) dx [] []) :: m1, fun d m' => d = .non ∧ m' = (q0, .ins (He.ga K C) dx ["word", "parts"] [.str wd, .tup xs]) :: m1, rfl, rfl, ⟨_, _, rfl, rfl, rA⟩, M.le le1, ⟨q0, _, dx, wd, xs, m1, rfl, hlf, hxl, rfl, cl, n1, n2, rfl, rfl⟩, fun d m' v W2 hS le2 M2 _ => ⟨W2, rfl, (by obtain ⟨_, rfl⟩ := hS; exact (le1.toM _).trans le2), by obtain ⟨_, rfl⟩ := hS; exact M2⟩⟩)
    (hi ..) (hsw ..) (hse ..) (hpl ..) hpl2
  refine PySem.ks_wpAt_execs_cons (PySem.ks_wpAt_mono body (fun fl s' ⟨efl, v, H', I5, W2, eh, le2, M2⟩ => ?_) fun _ _ z => z)
  subst efl eh
  have fin : ∀ {σ' : L2.St} {H' : Hp} {v' : V} {u' : Value} {s' : Shared}, Inv (NdefX.ncx CX0 P w K mg base N (supF q st cc cda) (He.ma K (He.ga K C) "__init__") A outer s W.h E) [] σ' H' s' → L2.RelV v' u' → Q v' H' → CE outer P w W.h s Q u' s' :=
    fun {σ' H' v' u' s'} J rv' q => ⟨v', H', J.os, J.bare, J.base, J.hok, rv', q⟩
  refine wpAt_of_wpAny (wpAny_mono (hbm _ W2 (E0.mm le2) M2 { nx := fun _ H' => Q .non H', rt := Q } ⟨fun d m' v W3 hS le M3 r3 => hq d m' v W3 hS (le2.trans le) M3 r3, fun ρ' m' σ' W3 hS le M3 E3 => hq .non m' .non W3 hS (le2.trans le) M3 rfl⟩ [] s' I5) (fun fl s'' hs => ?_) fun e' s'' hs => hs)
  cases fl with
  | ret u =>
    obtain ⟨v, σ', H', J, rv, q⟩ := hs
    exact fin J rv q
  | next =>
    obtain ⟨σ', H', J, q⟩ := hs
    exact fin (v' := V.non) (u' := Value.none) J rfl q
  | brk =>
    obtain ⟨_, _, _, q⟩ := hs
    exact False.elim q
  | cont =>
    obtain ⟨_, _, _, q⟩ := hs
    exact False.elim q
end
end K31
end
section
set_option maxHeartbeats 4000000
set_option autoImplicit false
/-! Right and Torn are made. -/
namespace K31
open PySem PySem.Spec PyProof.Rows L2
section
variable {X : Cx} {ρ : Rho} {e o o2 : Expr} {m1 : Mu} {R : D → Mu → Prop} {N : Rho → Mu → Prop} {pos tp q1 q2 : Pos} {k : Nat} {p C dx : Addr} {f1 f2 : Str} {ns : List Str} {ds : List D} {d1 d2 : D}
/-- o.f, o.g = e -/
theorem sm_att2 (hc : X.calm = true) (ho : DE X o ρ (.fn p)) (ho2 : DE X o2 ρ (.fn p)) (h : EM X e ρ ((p, .ins C dx ns ds) :: m1) fun d m => d = .tup [d1, d2] ∧ m = (p, .ins C dx ns ds) :: m1) (cl : Cls X.K C) (n1 : NoAttr X.K C f1) (n2 : NoAttr X.K C f2) (hf1 : f1 ∉ ns) (hf2 : f2 ∉ ns ++ [f1]) (hl : ns.length < 990)
    (hN : N ρ ((p, .ins C dx (ns ++ [f1] ++ [f2]) (ds ++ [d1] ++ [d2])) :: m1)) (hs : swapsWithSole [.Tuple [.Attribute o f1 q1, .Attribute o2 f2 q2] k tp] e pos.line X.env = pure false := by rfl) (hw : swappedStores [.Tuple [.Attribute o f1 q1, .Attribute o2 f2 q2] k tp] e X.env = pure none := by rfl)
    (h1 : (assignEach [.Tuple [.Attribute o f1 q1, .Attribute o2 f2 q2] k tp] X.env).map (·.2) = [assign (.Tuple [.Attribute o f1 q1, .Attribute o2 f2 q2] k tp) X.env] := by rfl) (a1 : (assignEach [.Attribute o f1 q1, .Attribute o2 f2 q2] X.env).map (·.2) = assign (.Attribute o f1 q1) X.env :: (assignEach [.Attribute o2 f2 q2] X.env).map (·.2) := by rfl)
    (a2 : (assignEach [.Attribute o2 f2 q2] X.env).map (·.2) = assign (.Attribute o2 f2 q2) X.env :: (assignEach [] X.env).map (·.2) := by rfl) (hn : (assignEach [.Attribute o f1 q1, .Attribute o2 f2 q2] X.env).length = 2 := by rfl) (hst : (assignEach [.Attribute o f1 q1, .Attribute o2 f2 q2] X.env).findIdx? (·.1) = none := by rfl) :
    SM X (.Assign [.Tuple [.Attribute o f1 q1, .Attribute o2 f2 q2] k tp] e pos) ρ ((p, .ins C dx ns ds) :: m1) R N := fun σ W E M D out pins s I => by
  refine (ps_asg (peW e) (pg_tup hc (pgs_cons (pg_att (peW o)) (pgs_cons (pg_att (peW o2)) pgs_nil a2) a1) hn hst) hs hw h1).run pins s σ W.h D I (h σ W E M _ fun d m v W1 ⟨ed, em⟩ le1 M1 r1 => ?_)
  subst ed em
  obtain ⟨t, xs, rfl, t2, x, ys, rfl, rx, y, zs, rfl, ry, ez⟩ := r1
  cases ez
  refine ⟨t, [x, y], rfl, Wd.sqT t2, rfl, x, [y], rfl, ho σ W1 (E.mm le1) _ fun v2 W2 e2 r2 => ?_⟩
  obtain ⟨fs, hx, lf, hs2, M2, le2⟩ := ins_put (pre := []) (M1.le e2) hf1 (Rp.le e2 rx)
  refine ⟨p, C, dx, fs, r2, hx, cl, n1, by omega, y, [], rfl, ?_⟩
  have E2 : EnvD X.K (W2.put p (.ins C dx (putF f1 x fs)) hs2).s σ ρ := show EnvD X.K W2.s σ ρ from (E.mm le1).le e2
  refine ho2 σ _ E2 _ fun v3 W3 e3 r3 => ?_
  obtain ⟨gs, gx, lg, hs3, M3, le3⟩ := ins_put (pre := []) (M2.le e3) hf2 (Rp.le e3 (show Rp X.K (W2.put p (.ins C dx (putF f1 x fs)) hs2).s d2 y from show Rp X.K W2.s d2 y from Rp.le e2 ry))
  refine ⟨p, C, dx, gs, r3, gx, cl, n2, by rw [lg, List.length_append]; simp; omega, rfl, ?_⟩
  exact out.2 ρ _ σ _ hN ((((le1.trans (e2.toM _)).trans le2).trans (e3.toM _)).trans le3) M3 (show EnvD X.K W3.s σ ρ from E2.le e3)
end
section
variable {P : Program} {w : World} {K : PySem.W.Frag} {mg : Str → Option Value} {base : Heap}
theorem nsc_Right : NdefX.NScope ["self", "__class__"] ["self"] ["__class__"] (defScope s_Right_init) := NdefX.nscope_by (by decide +kernel)
theorem nsc_Torn : NdefX.NScope ["self", "kind", "at", "__class__"] ["self", "kind", "at"] ["__class__"] (defScope s_Torn_init) := NdefX.nscope_by (by decide +kernel)
theorem okR_Right_init (T : TC P K mg) (htop : (P.main.scope.names.lookup ("super" : Str)).isSome = false) : FnR P w K mg base CX0 6 (He.ma K (He.ga K "Right") "__init__") (spM K (F_Right_init K) 1) := by
  refine sup_fn T T.right htop nsc_Right rfl (Nat.le_refl 1) rfl rfl rfl rfl rfl rfl T.cl_Right (T.noat 17 rfl) (T.noat 18 rfl) (fun _ _ _ _ _ _ _ us hl => match us, hl with | [_], _ => rfl) (fun _ _ _ _ => rfl) (fun _ _ _ _ => rfl) (fun _ _ _ _ => rfl) (fun _ _ _ _ => rfl) (fun _ _ _ _ => ⟨_, rfl⟩) fun cc cda f A outer s H E ds m S hr hl hF => ?_
  obtain ⟨q, dx, m1, rfl, rfl, hS⟩ := hF
  exact ⟨q, dx, m1, [], "right", [], rfl, rfl, dacons dstr danil, fun _ h => absurd h (by simp), by decide, bm0 hS⟩
theorem okR_Torn_init (T : TC P K mg) (htop : (P.main.scope.names.lookup ("super" : Str)).isSome = false) : FnR P w K mg base CX0 6 (He.ma K (He.ga K "Torn") "__init__") (spM K (F_Torn_init K) 3) := by
  refine sup_fn T T.torn htop nsc_Torn rfl (by decide) rfl rfl rfl rfl rfl rfl T.cl_Torn (T.noat 19 rfl) (T.noat 20 rfl) (fun _ _ _ _ _ _ _ us hl => match us, hl with | [_, _, _], _ => rfl) (fun _ _ _ _ => rfl) (fun _ _ _ _ => rfl) (fun _ _ _ _ => rfl) (fun _ _ _ _ => rfl) (fun _ _ _ _ => ⟨_, rfl⟩) fun cc cda f A outer s H E ds m S hr hl hF => ?_
  obtain ⟨q, dx, k, i, m1, rfl, rfl, hS⟩ := hF
  refine ⟨q, dx, m1, _, "torn", [.str k, .int i], rfl, rfl, dacons dstr (dacons (dv 1 rfl) (dacons (dv 2 rfl) danil)), fun x hx => ?_, (show 2 ≤ 100 by decide), ?_⟩
  · simp only [List.mem_cons, List.not_mem_nil, or_false] at hx
    rcases hx with rfl | rfl <;> exact ⟨rfl, _, rfl⟩
  · refine bm1 ?_
    refine sm_att2 (p := q) (C := He.ga K "Torn") (dx := dx) (ns := ["word", "parts"]) (ds := [.str "torn", .tup [.str k, .int i]]) (d1 := .str k) (d2 := .int i) (m1 := m1) rfl (dv 0 rfl) (dv 0 rfl) ?_ T.cl_Torn ?_ ?_ (by decide) (by decide) (by decide) ?_
    · exact em_fldM (p := q) (C := He.ga K "Torn") (dx := dx) (ns := ["word", "parts"]) (ds := [.str "torn", .tup [.str k, .int i]]) (i := 1) (dv 0 rfl) (List.mem_cons_self ..) T.cl_Torn (T.noat 20 rfl) (by decide) rfl rfl ⟨rfl, rfl⟩
    · exact T.noat 21 rfl
    · exact T.noat 22 rfl
    · exact bm0 hS
theorem papOk (T : TC P K mg) (htop : (P.main.scope.names.lookup ("super" : Str)).isSome = false) : PapOk P w K mg base := ⟨okR_Torn_init T htop, okR_Right_init T htop⟩
end
end K31
end
section
set_option maxHeartbeats 4000000
set_option autoImplicit false
/-! The truth of papers. -/
namespace K31
open PySem PySem.Spec PyProof.Rows L2
section
variable {P : Program} {w : World} {K : PySem.W.Frag} {mg : Str → Option Value} {base : Heap}
def F_bool (z : Bool) (ds : List D) (m : Mu) (S : D → Mu → Prop) : Prop := ∃ x, ds = [x] ∧ S (.bl z) m
abbrev N_bool : List Str := ["self"]
theorem sc_Paper_bool : FnScope N_bool ["self"] (defScope s_Paper_bool) := ⟨rfl, rfl, rfl, by decide +kernel, rfl, by decide +kernel, by decide +kernel⟩
theorem sc_Denial_bool : FnScope N_bool ["self"] (defScope s_Denial_bool) := ⟨rfl, rfl, rfl, by decide +kernel, rfl, by decide +kernel, by decide +kernel⟩
theorem okR_Paper_bool (T : TC P K mg) : FnR P w K mg base CX0 1 (He.ma K (He.ga K "Paper") "__bool__") (spM K (F_bool true) 1) := by
  obtain ⟨fd, F⟩ := T.f_Paper_bool
  refine okR_of (N := N_bool) (ps := ["self"]) F sc_Paper_bool rfl (fun _ _ _ _ _ _ us hl => match us, hl with | [_], _ => rfl) fun cdv A outer s H ds m S E hr hl hF => ?_
  obtain ⟨x, rfl, hS⟩ := hF
  exact bm1 (sm_ret (em dbl hS))
theorem okR_Denial_bool (T : TC P K mg) : FnR P w K mg base CX0 1 (He.ma K (He.ga K "Denial") "__bool__") (spM K (F_bool false) 1) := by
  obtain ⟨fd, F⟩ := T.f_Denial_bool
  refine okR_of (N := N_bool) (ps := ["self"]) F sc_Denial_bool rfl (fun _ _ _ _ _ _ us hl => match us, hl with | [_], _ => rfl) fun cdv A outer s H ds m S E hr hl hF => ?_
  obtain ⟨x, rfl, hS⟩ := hF
  exact bm1 (sm_ret (em dbl hS))
end
section
variable {X : Cx} {P : Program} {ρ : Rho} {e : Expr} {C fb : Addr} {ns : List Str} {ds : List D} {z : Bool} {k : Nat}
theorem dt_obj (hb : PySem.W.findIn X.K (.ref C) "__bool__" = some (some (.ref fb))) (ht : PySem.W.typeIn X.K (.ref fb) = some (.type "function")) (F : FnR X.prog X.w X.K X.mg X.base CX0 k fb (spM X.K (F_bool z) 1)) (hr : Room k X.A) (h : DE X e ρ (.obj C ns ds))
    (he : ∀ whole, isTrue e X.env whole = (do let v ← whole; standAt e.pos; holding [v] (truthy v)) := by intro _; rfl) : DT X e ρ z := fun σ W E Q q pins s I => by
  rw [he]
  refine wpAny_bind (thn (h σ W E (fun v H1 => ∃ W2 : Wd, W2.h = H1 ∧ Le W W2 ∧ Rp X.K W2.s (.obj C ns ds) v) (fun v W2 le r => ⟨W2, rfl, le, r⟩) pins s I) fun u s1 ⟨v, H1, I1, ru, W2, eh, le, r⟩ => ?_)
  subst eh
  have r0 := r
  obtain ⟨a, dx, xs, rfl, h2, h3, h4⟩ := r
  cases (show u = Value.ref a from ru)
  obtain ⟨mA, O, _⟩ := ins_get I1.hok (W2.sub _ _ h2)
  obtain ⟨od2, J, _⟩ := O.look
  refine wpAny_bind (wpAny_standAt (wpAny_holding ?_))
  unfold truthy
  refine wpAny_bind (m := callSpecial? (.ref a) (Str.ofString "__bool__")) (PySem.W.special_fn I1.kIn J hb ht ?_)
  refine thn (wpAny_call (run_fnR (us := [.ref a]) (vs := [.ref a]) (E := fun _ _ _ => False) (Q := fun v H' => v = .bl z ∧ ∃ W3 : Wd, W3.h = H' ∧ Le W W3) F hr pass0 I1 (.cons rfl .nil) ⟨W2, [.obj C ns ds], [], fun d m' => d = .bl z ∧ m' = [], rfl, rfl, ⟨_, [], rfl, r0, rfl⟩, MOk.nil, ⟨_, rfl, rfl, rfl⟩, fun d m' v W3 hS le3 M3 r3 => ?_⟩)) fun u2 s2 ⟨v, H2, I2, rv, ev, W3, eh, le3⟩ => ?_
  · obtain ⟨rfl, rfl⟩ := hS
    exact ⟨r3, W3, rfl, le.trans le3.toLe⟩
  · subst ev eh
    obtain rfl : u2 = Value.bool z := rv
    exact wpAny_pure ⟨_, I2, q W3 le3⟩
theorem dt_judge (T : TC P X.K X.mg) (T2 : TC X.prog X.K X.mg) (hr : Room 1 X.A) {o : Option (Str × Nat)} (h : DE X e ρ (judgeP X.K o)) (he : ∀ whole, isTrue e X.env whole = (do let v ← whole; standAt e.pos; holding [v] (truthy v)) := by intro _; rfl) : DT X e ρ o.isNone := by
  cases o with
  | none => exact dt_obj T.right.bool T.right.tyb (okR_Paper_bool T2) hr h he
  | some ki => exact dt_obj T.torn.bool T.torn.tyb (okR_Denial_bool T2) hr h he
end
end K31
end
section
set_option maxHeartbeats 2000000
set_option autoImplicit false
/-! repr of nested lists and tuples; promises of calls with no repr under way. -/
namespace K31
open PySem PySem.Spec PyProof.Rows L2
mutual
/-- how many things are shown -/
def cnt : D → Nat
  | .lst ds => cntL ds + 1
  | .tup ds => cntL ds + 1
  | _ => 1
def cntL : List D → Nat
  | [] => 0
  | d :: ds => cnt d + 1 + cntL ds
end
mutual
/-- all is short -/
def Sho : D → Prop
  | .non => True
  | .int i => Lt2 i.natAbs 1900
  | .str x => (reprText x).length ≤ 1000
  | .lst ds => ShoL ds
  | .tup ds => ShoL ds
  | _ => False
def ShoL : List D → Prop
  | [] => True
  | d :: ds => Sho d ∧ ShoL ds
end
theorem ShoL.of : ∀ {ds : List D}, (∀ d ∈ ds, Sho d) → ShoL ds
  | [], _ => trivial
  | d :: ds, h => ⟨h d (List.mem_cons_self ..), ShoL.of fun x hx => h x (List.mem_cons_of_mem _ hx)⟩
theorem cntL_le {n : Nat} : ∀ {ds : List D}, (∀ d ∈ ds, cnt d ≤ n) → cntL ds ≤ (n + 1) * ds.length
  | [], _ => Nat.zero_le _
  | d :: ds, h => by
    have h1 := h d (List.mem_cons_self ..)
    have h2 := cntL_le (n := n) (ds := ds) fun x hx => h x (List.mem_cons_of_mem _ hx)
    show cnt d + 1 + cntL ds ≤ (n + 1) * (ds.length + 1)
    rw [Nat.mul_add]
    omega
theorem log_lt {i : Int} (h : Lt2 i.natAbs 1900) : i.natAbs.log2 < 1920 := Nat.lt_of_lt_of_le (log2_lt' (n := 1900) (by decide) h) (by decide)
mutual
theorem Sho.able : ∀ (d : D), Sho d → (toPy d).showable = true
  | .non, _ => rfl
  | .int i, h => decide_eq_true (log_lt h)
  | .str _, _ => rfl
  | .lst ds, h => ShoL.able ds h
  | .tup ds, h => ShoL.able ds h
  | .bl _, h => h.elim
  | .obj _ _ _, h => h.elim
  | .fn _, h => h.elim
  | .tpx _, h => h.elim
  | .dK _ _, h => h.elim
  | .dT _ _, h => h.elim
  | .opq _ _, h => h.elim
theorem ShoL.able : ∀ (ds : List D), ShoL ds → PyData.showableAll (toPyL ds) = true
  | [], _ => rfl
  | d :: ds, h => by
    show ((toPy d).showable && PyData.showableAll (toPyL ds)) = true
    rw [Sho.able d h.1, ShoL.able ds h.2]; rfl
end
mutual
theorem Sho.nodict : ∀ (d : D), Sho d → (toPy d).hasDict = false
  | .non, _ => rfl
  | .int i, h => rfl
  | .str _, _ => rfl
  | .lst ds, h => ShoL.nodict ds h
  | .tup ds, h => ShoL.nodict ds h
  | .bl _, h => h.elim
  | .obj _ _ _, h => h.elim
  | .fn _, h => h.elim
  | .tpx _, h => h.elim
  | .dK _ _, h => h.elim
  | .dT _ _, h => h.elim
  | .opq _ _, h => h.elim
theorem ShoL.nodict : ∀ (ds : List D), ShoL ds → PyData.hasDictAll (toPyL ds) = false
  | [], _ => rfl
  | d :: ds, h => by
    show ((toPy d).hasDict || PyData.hasDictAll (toPyL ds)) = false
    rw [Sho.nodict d h.1, ShoL.nodict ds h.2]; rfl
end
theorem textFrom_le : ∀ (ts : List Str) (k : Nat) (acc : Str), (textFrom k acc ts).length ≤ acc.length + piled ts
  | [], k, acc => by show acc.length ≤ acc.length + piled []; omega
  | t :: r, k, acc => by
    have ih := textFrom_le r (k + 1) (acc ++ (if k > 0 then ", " else "" : String) ++ t)
    have e : (acc ++ (if k > 0 then ", " else "" : String) ++ t).length ≤ acc.length + 2 + t.length := by
      rw [strLen_append, strLen_append]
      split <;> (try exact Nat.le_refl _)
      show acc.length + 0 + t.length ≤ _
      omega
    show (textFrom (k + 1) _ r).length ≤ _
    rw [piled_cons]
    omega
mutual
theorem Sho.len : ∀ (d : D), Sho d → (toPy d).shown.length ≤ 2000 * cnt d
  | .non, _ => by show (4 : Nat) ≤ 2000 * 1; decide
  | .int i, h => Nat.le_trans (int_text_len_1921 (log_lt h)) (by show (1921 : Nat) ≤ 2000 * 1; decide)
  | .str x, h => Nat.le_trans (show (reprText x).length ≤ 1000 from h) (by show (1000 : Nat) ≤ 2000 * 1; decide)
  | .lst ds, h => by
    have h1 := ShoL.len ds h
    have h2 := textFrom_le (PyData.shownAll (toPyL ds)) 0 "["
    show (textFrom 0 "[" (PyData.shownAll (toPyL ds)) ++ ("]" : Str)).length ≤ 2000 * (cntL ds + 1)
    rw [strLen_append]
    have e1 : (("[" : String) : Str).length = 1 := rfl
    have e2 : (("]" : String) : Str).length = 1 := rfl
    omega
  | .tup ds, h => by
    have h1 := ShoL.len ds h
    have h2 : (Str.join ", " (PyData.shownAll (toPyL ds))).length ≤ piled (PyData.shownAll (toPyL ds)) := by
      cases e : PyData.shownAll (toPyL ds) with
      | nil => exact Nat.zero_le _
      | cons x xs => have := join_length_add (x :: xs) (by simp); omega
    show (("(" : Str) ++ Str.join ", " (PyData.shownAll (toPyL ds)) ++ (if (PyData.shownAll (toPyL ds)).length == 1 then ",)" else ")" : String)).length ≤ 2000 * (cntL ds + 1)
    rw [strLen_append, strLen_append]
    have e1 : (("(" : String) : Str).length = 1 := rfl
    have e2 : (((if (PyData.shownAll (toPyL ds)).length == 1 then ",)" else ")" : String)) : Str).length ≤ 2 := by split <;> decide
    omega
  | .bl _, h => h.elim
  | .obj _ _ _, h => h.elim
  | .fn _, h => h.elim
  | .tpx _, h => h.elim
  | .dK _ _, h => h.elim
  | .dT _ _, h => h.elim
  | .opq _ _, h => h.elim
theorem ShoL.len : ∀ (ds : List D), ShoL ds → piled (PyData.shownAll (toPyL ds)) ≤ 2000 * cntL ds
  | [], _ => Nat.zero_le _
  | d :: ds, h => by
    have h1 := Sho.len d h.1
    have h2 := ShoL.len ds h.2
    show piled ((toPy d).shown :: PyData.shownAll (toPyL ds)) ≤ 2000 * (cnt d + 1 + cntL ds)
    rw [piled_cons]
    omega
end
def shownD (d : D) : Str := (toPy d).shown
section
variable {X : Cx} {ρ : Rho} {a : Expr} {d : D} {pos p : Pos}
def rRepr (K : PySem.W.Frag) : List V → Hp → VK → Prop := fun xs H Q => ∃ (b : Addr) (d : D), xs = [.ref b] ∧ Dp K H (.ref b) (toPy d) ∧ (toPy d).depth ≤ 9 ∧ Sho d ∧ cnt d ≤ 8000 ∧ Q (.str (shownD d)) H
theorem cr_repr (hG : X.A.guards = some []) (hu : X.A.units + 64 < cLine) : CallR X (.builtin "repr") (rRepr X.K) := by
  intro pins s σ H xs us Q I r h
  obtain ⟨b, d, rfl, hd, hdp, hs, hc, q⟩ := h
  obtain rfl := Vals.ref1 r
  obtain ⟨as, rd⟩ := Dp.reads I _ _ _ hd (rfl : RelV (.ref b) (.ref b))
  exact repr_of_reads' rd (Sho.able d hs) (fun z => by rw [Sho.nodict d hs] at z; cases z) hG (by omega) (fun _ _ e => e) (fun h' u tk hk => ⟨.str (shownD d), H, I.kept hk, ⟨u, rfl⟩, q⟩) (Nat.le_trans (Sho.len d hs) (Nat.le_trans (Nat.mul_le_mul_left 2000 hc) (by decide)))
theorem boot_repr : bootBuiltins "repr" = some (.builtin "repr") := by decide +kernel
theorem drepr (hm : X.mg "repr" = none) (hG : X.A.guards = some []) (hu : X.A.units + 64 < cLine) (ha : DE X a ρ d) (hi : ∃ ds, d.items = some ds) (g : Good d 9) (hs : Sho d) (hc : cnt d ≤ 8000) (hg : Gl X "repr" := by rfl) (hs : starEach [a] X.env = (false, eval a X.env) :: starEach [] X.env := by rfl) : DE X (.Call (.Name "repr" p) [a] [] pos) ρ (.str (shownD d)) :=
  .of (pe_callB (cr_repr hG hu) hg hm boot_repr (pa_cons (peW a) pa_nil hs) (he := hs)) fun σ W E Q q => ha σ W E _ fun v W1 e1 r1 => by
    have dp := Rp.dp d 9 v g (Rp.h r1)
    obtain ⟨es, hi⟩ := hi
    have hd := (Good.lay d 9 g).2
    cases d with
    | lst ds => obtain ⟨b, xs, rfl, _, _⟩ := r1; exact ⟨b, .lst ds, rfl, dp, hd, by assumption, hc, q _ W1 e1 rfl⟩
    | tup ds => obtain ⟨b, xs, rfl, _, _⟩ := r1; exact ⟨b, .tup ds, rfl, dp, hd, by assumption, hc, q _ W1 e1 rfl⟩
    | _ => cases hi
theorem cneS {x y : Str} : CmpD X .NotEq (.str x) (.str y) (!decide (x = y)) := ⟨_, op_ne, fun u v W hx hy Q q => by cases hx; cases hy; exact ⟨rfl, by
  have e : decide (V.str x = V.str y) = decide (x = y) := decide_eq_decide.mpr ⟨fun h => V.str.inj h, fun h => h ▸ rfl⟩
  rw [e]; exact q⟩⟩
end
end K31
end
section
set_option maxHeartbeats 2000000
set_option autoImplicit false
/-! Promises of calls with no repr under way; calls with two keywords. -/
namespace K31
open PySem PySem.Spec PyProof.Rows L2
/-- the def at f, called while no repr is under way -/
def FnRG (P : Program) (w : World) (K : PySem.W.Frag) (mg : Str → Option Value) (base : Heap) (CX : CXT) (k : Nat) (f : Addr) (sp : Sp) : Prop :=
  ∀ (A : Around) (outer : List Env) (s : Shared) (H : Hp) (us : List Value) (vs : List V) (Q : VK) (E : XK), Room k A → A.guards = some [] → Env0 P w K mg base A outer s H → Vals vs us → sp vs H Q E → codeAny (model P w) A (.call (.ref f) ⟨us, []⟩) (CR CX outer P w H s Q E) s
structure OkG (P : Program) (w : World) (K : PySem.W.Frag) (mg : Str → Option Value) (base : Heap) (k : Nat) (x : Str) (n : Nat) (S : List D → D → Prop) : Prop where
  ex : ∃ f : Addr, mg x = some (.ref f) ∧ PySem.W.keepIn K (.ref f) = true ∧ FnRG P w K mg base CX0 k f (spD K S n)
/-- the def at f, called with its two parameters by name, the second ahead -/
def FnRJ (P : Program) (w : World) (K : PySem.W.Frag) (mg : Str → Option Value) (base : Heap) (k : Nat) (f : Addr) (a b : Str) (sp : Sp) : Prop :=
  ∀ (A : Around) (outer : List Env) (s : Shared) (H : Hp) (u1 u2 : Value) (v1 v2 : V) (Q : VK) (E : XK), Room k A → Env0 P w K mg base A outer s H → RelV v1 u1 → RelV v2 u2 → sp [v2, v1] H Q E → codeAny (model P w) A (.call (.ref f) ⟨[], [(b, u1), (a, u2)]⟩) (CR CX0 outer P w H s Q E) s
structure OkJ (P : Program) (w : World) (K : PySem.W.Frag) (mg : Str → Option Value) (base : Heap) (k : Nat) (x a b : Str) (S : List D → D → Prop) : Prop where
  ex : ∃ f : Addr, mg x = some (.ref f) ∧ PySem.W.keepIn K (.ref f) = true ∧ FnRJ P w K mg base k f a b (spD K S 2)
section
variable {P : Program} {w : World} {K : PySem.W.Frag} {mg : Str → Option Value} {base : Heap} {x qual : Str} {params : Arguments} {body : List Stmt} {scope : Scope} {f : Addr} {fd : FuncData} {N ps : List Str} {k n : Nat} {S : List D → D → Prop}
theorem okG_of (F : FunD K x qual params body scope [] [] f fd) (hm : mg x = some (.ref f)) (Sc : FnScope N ps scope) (hn : ps.length = n)
    (hbind : ∀ (kV doc pm : Value) (an : Option Addr) (cdv ct : Value) (us : List Value), us.length = ps.length → bindArgs (PySem.W.fnOf x qual params body scope .none kV doc pm an cdv ct) ⟨us, []⟩ = pure (ps.zip us))
    (hbody : ∀ (cdv : Value) (A : Around) (outer : List Env) (s : Shared) (H : Hp) (ds : List D) (d : D) (E : XK), Room k (A.deeper (envOfC qual scope s.heap.objs.size f cdv)) → A.guards = some [] → ds.length = n → S ds d →
      ∃ o, DB (cxOf CX0 P w K mg base N qual scope f cdv A outer s H E).nox body (ds.map some ++ List.replicate (N.length - ds.length) none) o ∧ (o = .rt d ∨ (d = .non ∧ ∃ ρ, o = .nx ρ))) : OkG P w K mg base (k + 1) x n S := by
  have kp := F.kp
  obtain ⟨oc, od, dV, kV, doc, pm, an, cdv, ct, osl, rfl, lk, hcd, hD, hK⟩ := F.ex
  rcases hD with ⟨_, rfl⟩ | ⟨h, _⟩
  · refine ⟨f, hm, kp, fun A outer s H us vs Q E hr hG e0 r hsp => ?_⟩
    obtain ⟨W, ds, d, rfl, hl, r1, hS, q⟩ := hsp
    have lv : vs.length = ps.length := by rw [r1.length, hl, hn]
    have lu : us.length = ps.length := by rw [← r.length, lv]
    refine StX.run_bnd lk hcd Sc hr e0 (G := fun xs H2 => xs = vs ∧ H2 = W.h) (fun A' Ex Q' h => ?_) fun s2 H2 xs ⟨ex, eh⟩ hr' => ?_
    · rw [hbind kV doc pm an cdv ct us lu]
      exact wpAny_pure (h s W.h vs us e0 Un.refl rfl (fun _ _ z => z) r lv ⟨rfl, rfl⟩)
    · subst ex eh
      obtain ⟨o, hb, ho⟩ := hbody cdv A outer s2 W.h ds d E hr' hG hl hS
      have hN : ds.length ≤ N.length := by
        have h1 := congrArg List.length Sc.pre
        rw [List.length_take] at h1
        omega
      refine ⟨wB (cxOf CX0 P w K mg base N qual scope f cdv A outer s2 W.h E).nox body, (pbW body).nox, ?_⟩
      refine hb _ W (EnvD.start r1 hN) _ ?_
      rcases ho with rfl | ⟨rfl, ρ, rfl⟩
      · exact fun v W2 e2 r2 => q v W2 e2 r2
      · exact fun σ W2 e2 E2 => q .non W2 e2 rfl
  · exact absurd rfl h
theorem okJ_of {a b : Str} (F : FunD K x qual params body scope [] [] f fd) (hm : mg x = some (.ref f)) (Sc : FnScope N [a, b] scope)
    (hbind : ∀ (kV doc pm : Value) (an : Option Addr) (cdv ct u1 u2 : Value), bindArgs (PySem.W.fnOf x qual params body scope .none kV doc pm an cdv ct) ⟨[], [(b, u1), (a, u2)]⟩ = pure [(a, u2), (b, u1)])
    (hbody : ∀ (cdv : Value) (A : Around) (outer : List Env) (s : Shared) (H : Hp) (ds : List D) (d : D) (E : XK), Room k (A.deeper (envOfC qual scope s.heap.objs.size f cdv)) → ds.length = 2 → S ds d →
      ∃ o, DB (cxOf CX0 P w K mg base N qual scope f cdv A outer s H E).nox body (ds.map some ++ List.replicate (N.length - ds.length) none) o ∧ (o = .rt d ∨ (d = .non ∧ ∃ ρ, o = .nx ρ))) : OkJ P w K mg base (k + 1) x a b S := by
  have ok : FnOk P w K mg base CX0 (k + 1) f fd [a, b] (spD K S 2) := F.ok Sc (fun vs H Q E ⟨W, ds, d, _, hl, r, _⟩ => by rw [r.length, hl]; rfl) fun cdv A outer s H vs Q E hr ⟨W, ds, d, e, hl, r, hS, q⟩ => by
    subst e
    obtain ⟨o, hb, ho⟩ := hbody cdv A outer s W.h ds d E hr hl hS
    have hN : ds.length ≤ N.length := by
      have h1 := congrArg List.length Sc.pre
      have h2 : ([a, b] : List Str).length = 2 := rfl
      rw [List.length_take] at h1
      omega
    refine ⟨wB (cxOf CX0 P w K mg base N qual scope f cdv A outer s W.h E).nox body, (pbW body).nox, ?_⟩
    refine hb _ W (EnvD.start r hN) _ ?_
    rcases ho with rfl | ⟨rfl, ρ, rfl⟩
    · exact fun v W2 e2 r2 => q v W2 e2 r2
    · exact fun σ W2 e2 E2 => q .non W2 e2 rfl
  have kp := F.kp
  obtain ⟨oc, od, dV, kV, doc, pm, an, cdv, ct, osl, rfl, lk, hcd, hD, hK⟩ := F.ex
  rcases hD with ⟨_, rfl⟩ | ⟨h, _⟩
  · exact ⟨f, hm, kp, fun A outer s H u1 u2 v1 v2 Q E hr e0 r1 r2 hsp => ok.run A outer s H ⟨[], [(b, u1), (a, u2)]⟩ [u2, u1] [v2, v1] Q E hr e0 (.of_eq (hbind kV doc pm an cdv ct u1 u2)) (.cons r2 (.cons r1 .nil)) hsp⟩
  · exact absurd rfl h
end
section
variable {X : Cx} {ρ : Rho} {e e1 e2 : Expr} {es : List Expr} {d d1 d2 : D} {ds : List D} {pos p k1 k2 : Pos}
theorem dcallG {k n : Nat} {S : List D → D → Prop} {x : Str} (F : OkG X.prog X.w X.K X.mg X.base k x n S) (hr : Room k X.A) (hG : X.A.guards = some []) (ha : DA X (e :: es) ρ ds) (hS : S ds d) (hn : ds.length = n := by rfl) (hg : Gl X x := by rfl)
    (hdb : (x == ("__debug__" : Str)) = false := by decide) (he : starEach (e :: es) X.env = (false, eval e X.env) :: starEach es X.env := by rfl) (hpl : (backTo pos (starEach es X.env)).any (·.1) = false := by rfl) : DE X (.Call (.Name x p) (e :: es) [] pos) ρ d := by
  obtain ⟨f, hm, hk, ok⟩ := F.ex
  refine fun σ W E Q q pins s I => ?_
  refine wpAny_Call_Name_kw (ld_glob I hg hm ?_ hdb)
  refine PySem.W.callWith_K (h₀ := X.base) I.ok.mod.kin hk (thn (ha σ W E (fun vs H1 => ∃ W1 : Wd, W1.h = H1 ∧ Le W W1 ∧ RpL X.K W1.s ds vs) (fun vs W1 le r => ⟨W1, rfl, le, r⟩) pos pins s I) fun us s2 ⟨vs, H2, I2, r, W1, eh, le, rr⟩ => ⟨I2.kIn, ?_⟩) he hpl
  subst eh
  refine wpAny_call (codeAny_mono (ok X.A X.stack s2 W1.h us vs (fun v H' => ∃ W2 : Wd, W2.h = H' ∧ Le W1 W2 ∧ Rp X.K W2.s d v) (fun _ _ _ => False) hr hG I2.env0 r ⟨W1, ds, d, rfl, hn, rr, hS, fun v W2 e2 r2 => ⟨W2, rfl, e2, r2⟩⟩) fun r s' hq => ?_)
  cases r with
  | error e => exact hq.elim
  | ok fl =>
    cases fl with
    | ret u =>
      obtain ⟨v, H', I3, rv, W2, eh, le2, r2⟩ := I2.after hq
      subst eh
      exact ⟨v, _, I3, rv, q v W2 (le.trans le2) r2⟩
    | next => exact False.elim hq
    | brk => exact False.elim hq
    | cont => exact False.elim hq
theorem dcallJ {k : Nat} {S : List D → D → Prop} {x a b : Str} (F : OkJ X.prog X.w X.K X.mg X.base k x a b S) (hr : Room k X.A) (h1 : DE X e1 ρ d1) (h2 : DE X e2 ρ d2) (hS : S [d2, d1] d) (hg : Gl X x := by rfl) (hdb : (x == ("__debug__" : Str)) = false := by decide)
    (hall : (backToKw pos (keywordEach [⟨some b, e1, k1⟩, ⟨some a, e2, k2⟩] X.env)).all (·.1.isSome) = true := by rfl) (hks : (backToKw pos (keywordEach [⟨some b, e1, k1⟩, ⟨some a, e2, k2⟩] X.env)).filterMap (·.1) = [b, a] := by rfl)
    (hpl : ((backTo pos (starEach [] X.env)).any (·.1) || (backToKw pos (keywordEach [⟨some b, e1, k1⟩, ⟨some a, e2, k2⟩] X.env)).any (·.1.isNone)) = false := by rfl) : DE X (.Call (.Name x p) [] [⟨some b, e1, k1⟩, ⟨some a, e2, k2⟩] pos) ρ d := by
  obtain ⟨f, hm, hk, ok⟩ := F.ex
  refine fun σ W E Q q pins s I => ?_
  refine wpAny_Call_Name_kw (ld_glob I hg hm ?_ hdb)
  refine PySem.W.callWith_KW0 (h₀ := X.base) I.ok.mod.kin hk hall (thn ((pk_cons (kpos := k1) (nm := some b) (peW e1) (pk_cons (kpos := k2) (nm := some a) (peW e2) pk_nil)).run pos pins s σ W.h (fun vs H1 => ∃ W1 : Wd, W1.h = H1 ∧ Le W W1 ∧ RpL X.K W1.s [d1, d2] vs) I
    (h1 σ W E _ fun v1 W1 le1 r1 => h2 σ W1 (E.le le1) _ fun v2 W2 le2 r2 => ⟨W2, rfl, le1.trans le2, v1, _, rfl, Rp.le le2 r1, v2, _, rfl, r2, rfl⟩)) fun us s2 ⟨vs, H2, I2, r, W1, eh, le, rr⟩ => ⟨I2.kIn, ?_⟩) hpl
  subst eh
  rw [hks]
  obtain ⟨v1, _, rfl, r1, v2, _, rfl, r2, rfl⟩ := rr
  obtain ⟨u1, u2, rfl, ru1, ru2⟩ := vals2 r
  refine wpAny_call (codeAny_mono (ok X.A X.stack s2 W1.h u1 u2 v1 v2 (fun v H' => ∃ W2 : Wd, W2.h = H' ∧ Le W1 W2 ∧ Rp X.K W2.s d v) (fun _ _ _ => False) hr I2.env0 ru1 ru2 ⟨W1, [d2, d1], d, rfl, rfl, ⟨v2, _, rfl, r2, v1, _, rfl, r1, rfl⟩, hS, fun v W2 e2 r2 => ⟨W2, rfl, e2, r2⟩⟩) fun r s' hq => ?_)
  cases r with
  | error e => exact hq.elim
  | ok fl =>
    cases fl with
    | ret u =>
      obtain ⟨v, H', I3, rv, W2, eh, le2, r2⟩ := I2.after hq
      subst eh
      exact ⟨v, _, I3, rv, q v W2 (le.trans le2) r2⟩
    | next => exact False.elim hq
    | brk => exact False.elim hq
    | cont => exact False.elim hq
end
end K31
end
section
set_option maxHeartbeats 4000000
set_option autoImplicit false
/-! The three asks, called by keywords. -/
namespace K31
open PySem PySem.Spec PyProof.Rows L2
section
variable {P : Program} {w : World} {K : PySem.W.Frag} {mg : Str → Option Value} {base : Heap}
theorem okJ_kin_of (T : TB K mg) : OkJ P w K mg base 8 "kin_of" "places" "joint" S_kin_of := by
  obtain ⟨fd, F⟩ := T.f_kin_of
  refine okJ_of (N := N_kin_of) F T.g_kin_of sc_kin_of (fun _ _ _ _ _ _ _ _ => rfl) fun cdv A outer s H ds d E hr hl hS => ?_
  obtain ⟨X, ps, j, p, rfl, hX, hp, rfl⟩ := hS
  have hj : j < ps.length := (List.getElem?_eq_some_iff.mp hp).1
  have hl := hX.len
  refine ⟨_, ?_, .inl rfl⟩
  refine db1 (dset (i := 2) sc_kin_of.nd rfl (dcall (ok_need_joint T) (hr.mono (by decide)) (dacons (dv 0 rfl) (dacons (dv 1 rfl) danil)) ⟨X, ps, j, rfl, hX, hj, rfl⟩)) ?_
  refine db1 (dset (i := 3) (d := numD p.r) sc_kin_of.nd rfl (dixT (ds := [ptD p.x p.y, ptD p.a p.b, numD p.r]) (dixT (d := plD p) (dv 2 rfl) (dv 1 rfl) (atI_nat (by rw [List.getElem?_map, hp]; rfl))) dint rfl)) ?_
  refine dbR (dret (dtupleOf T.b_tuple (dlcIf (own := [("at", 4), ("place", 5)]) (kinF p.r) rfl sc_kin_of.nd (diET T.b_enumerate (dv 2 rfl)) (blkOk_by (N := N_kin_of) (sc := defScope s_kin_of) (by decide +kernel)) (pgP (i := 4) (j := 5) rfl sc_kin_of.nd rfl rfl) (by rw [enumD_length, List.length_map]; omega) (fun d hd => ?_)) (by show some _ = some _; rw [kinD_eq])))
  obtain ⟨i, hi⟩ := List.mem_iff_getElem?.mp hd
  obtain ⟨e, he, rfl⟩ := enumD_get hi
  rw [List.getElem?_map] at he
  cases hq : ps[i]? with
  | none => rw [hq] at he; cases he
  | some q =>
    rw [hq] at he
    cases he
    obtain ⟨o1, s1⟩ := hX.ok p (List.mem_of_getElem? hp)
    obtain ⟨o2, s2⟩ := hX.ok q (List.mem_of_getElem? hq)
    have ef : kinF p.r (.tup [.int (i : Int), plD q]) = if kinB p.r q.r = true then some (.int (i : Int)) else none := by
      show (if kinB p.r (plOf (plD q)).r = true then some (D.int (i : Int)) else none) = _
      rw [plOf_plD]
    refine ⟨_, kinB p.r q.r, bcP (by decide), fun _ _ _ _ _ => (dt_val (dcall (ok_are_kin_roots T) (hr.mono (by decide)) (dacons (dv 3 rfl) (dacons (dixT (ds := [ptD q.x q.y, ptD q.a q.b, numD q.r]) (dv 5 rfl) dint rfl) danil)) ⟨p.r, q.r, rfl, KinOk.of o1 o2 s1 s2, rfl⟩)), fun h => ?_, fun h => ⟨.int i, ?_, fun _ _ _ _ _ => (dv 4 rfl)⟩⟩
    · show kinF p.r (.tup [.int (i : Int), plD q]) = none
      rw [ef, h]; rfl
    · show kinF p.r (.tup [.int (i : Int), plD q]) = some (.int i)
      rw [ef, if_pos h]
theorem okJ_mirrored_aside (T : TB K mg) : OkJ P w K mg base 8 "mirrored_aside" "places" "joint" S_mirrored_aside := by
  obtain ⟨fd, F⟩ := T.f_mirrored_aside
  refine okJ_of (N := N_mirrored_aside) F T.g_mirrored_aside sc_mirrored_aside (fun _ _ _ _ _ _ _ _ => rfl) fun cdv A outer s H ds d E hr hl hS => ?_
  obtain ⟨X, ps, j, rfl, hX, hj, rfl⟩ := hS
  have hl := hX.len
  refine ⟨_, ?_, .inl rfl⟩
  refine db1 (dset (i := 2) sc_mirrored_aside.nd rfl (dcall (ok_need_joint T) (hr.mono (by decide)) (dacons (dv 0 rfl) (dacons (dv 1 rfl) danil)) ⟨X, ps, j, rfl, hX, hj, rfl⟩)) ?_
  refine dbR (dret (dtupleOf T.b_tuple (dlc (own := [("at", 3), ("place", 4)]) (mirF j) rfl sc_mirrored_aside.nd (diET T.b_enumerate (dv 2 rfl)) (blkOk_by (N := N_mirrored_aside) (sc := defScope s_mirrored_aside) (by decide +kernel)) (pgP (i := 3) (j := 4) rfl sc_mirrored_aside.nd rfl rfl) (by rw [enumD_length, List.length_map]; omega) (fun d hd => ?_)) (by show some _ = some _; rw [mir_eq])))
  obtain ⟨i, hi⟩ := List.mem_iff_getElem?.mp hd
  obtain ⟨e, he, rfl⟩ := enumD_get hi
  rw [List.getElem?_map] at he
  cases hq : ps[i]? with
  | none => rw [hq] at he; cases he
  | some q =>
    rw [hq] at he
    cases he
    have ef : mirF j (.tup [.int (i : Int), plD q]) = plD (if (i : Int) = (j : Int) then flip q else q) := by
      show plD (if (i : Int) = (j : Int) then flip (plOf (plD q)) else plOf (plD q)) = _
      rw [plOf_plD]
    refine ⟨_, bcP (by decide), fun _ _ _ _ _ => (de_if (dt_cmp ceqI (dv 3 rfl) (dv 1 rfl)) (fun h => ?_) (fun h => ?_))⟩
    · exact dcall (ok_other_side T) (hr.mono (by decide)) (dacons (dv 4 rfl) danil) ⟨q, rfl, by
        show mirF j (.tup [.int (i : Int), plD q]) = _
        rw [ef, if_pos (of_decide_eq_true h)]⟩
    · exact DE.is (dv 4 rfl) (by
        show plD q = mirF j (.tup [.int (i : Int), plD q])
        rw [ef, if_neg (of_decide_eq_false h)])
theorem okJ_turned_over (T : TB K mg) : OkJ P w K mg base 8 "turned_over" "places" "joint" S_turned_over := by
  obtain ⟨fd, F⟩ := T.f_turned_over
  refine okJ_of (N := N_turned_over) F T.g_turned_over sc_turned_over (fun _ _ _ _ _ _ _ _ => rfl) fun cdv A outer s H ds d E hr hl hS => ?_
  obtain ⟨X, ps, j, p, rfl, hX, hp, rfl⟩ := hS
  have hj : j < ps.length := (List.getElem?_eq_some_iff.mp hp).1
  have hl := hX.len
  refine ⟨_, ?_, .inl rfl⟩
  refine db1 (dset (i := 2) sc_turned_over.nd rfl (dcall (ok_need_joint T) (hr.mono (by decide)) (dacons (dv 0 rfl) (dacons (dv 1 rfl) danil)) ⟨X, ps, j, rfl, hX, hj, rfl⟩)) ?_
  refine db1 (dset (i := 3) (d := numD p.r) sc_turned_over.nd rfl (dixT (ds := [ptD p.x p.y, ptD p.a p.b, numD p.r]) (dixT (d := plD p) (dv 2 rfl) (dv 1 rfl) (atI_nat (by rw [List.getElem?_map, hp]; rfl))) dint rfl)) ?_
  refine dbR (dret (dtupleOf T.b_tuple (dlc (own := [("place", 4)]) (turnF p.r) rfl sc_turned_over.nd (diT (dv 2 rfl)) (blkOk_by (N := N_turned_over) (sc := defScope s_turned_over) (by decide +kernel)) (pgN (i := 4) sc_turned_over.nd rfl) (by rw [List.length_map]; omega) (fun d hd => ?_)) (by show some _ = some _; rw [turn_eq])))
  obtain ⟨q, hq, rfl⟩ := List.mem_map.mp hd
  obtain ⟨o1, s1⟩ := hX.ok p (List.mem_of_getElem? hp)
  obtain ⟨o2, s2⟩ := hX.ok q hq
  have ef : turnF p.r (plD q) = plD (if kinB p.r q.r = true then flip q else q) := by
    unfold turnF
    rw [plOf_plD]
  refine ⟨_, bcN, fun _ _ _ _ _ => (de_if (dt_val (dcall (ok_are_kin_roots T) (hr.mono (by decide)) (dacons (dv 3 rfl) (dacons (dixT (ds := [ptD q.x q.y, ptD q.a q.b, numD q.r]) (dv 4 rfl) dint rfl) danil)) ⟨p.r, q.r, rfl, KinOk.of o1 o2 s1 s2, rfl⟩)) (fun h => ?_) (fun h => ?_))⟩
  · exact dcall (ok_other_side T) (hr.mono (by decide)) (dacons (dv 4 rfl) danil) ⟨q, rfl, by rw [ef, if_pos h]⟩
  · exact DE.is (dv 4 rfl) (by rw [ef, h]; rfl)
end
end K31
end
section
set_option maxHeartbeats 1000000
set_option autoImplicit false
/-! Plain: what the law asks of a joint. -/
namespace K31
open PySem PySem.Spec PyProof.Rows L2
theorem tear_none {qs : List Pl} {pins : List PinE} {bars : List BarE} {beads : List BeadE} : tearQ qs pins bars beads = none ↔ (∀ e ∈ pins, pinBad qs e = false) ∧ (∀ e ∈ bars, barBad qs e = false) ∧ ∀ e ∈ beads, beadBad qs e = false := by
  unfold tearQ
  cases h1 : pins.findIdx? (pinBad qs) with
  | some i =>
    refine ⟨fun h => absurd h (by simp), fun h => ?_⟩
    rw [List.findIdx?_eq_none_iff.mpr h.1] at h1
    cases h1
  | none =>
    have a1 := List.findIdx?_eq_none_iff.mp h1
    cases h2 : bars.findIdx? (barBad qs) with
    | some i =>
      refine ⟨fun h => absurd h (by simp), fun h => ?_⟩
      rw [List.findIdx?_eq_none_iff.mpr h.2.1] at h2
      cases h2
    | none =>
      have a2 := List.findIdx?_eq_none_iff.mp h2
      cases h3 : beads.findIdx? (beadBad qs) with
      | some i =>
        refine ⟨fun h => absurd h (by simp), fun h => ?_⟩
        rw [List.findIdx?_eq_none_iff.mpr h.2.2] at h3
        cases h3
      | none => exact ⟨fun _ => ⟨a1, a2, List.findIdx?_eq_none_iff.mp h3⟩, fun _ => rfl⟩
theorem flip_pt (x y : Rat) : flip (ptPl x y) = ptPl x y := rfl
theorem ov_ov (r : Rat) (p : Pl) : ov r (ov r p) = p := by
  unfold ov
  by_cases h : kinB r p.r = true
  · rw [if_pos h, if_pos (show kinB r (flip p).r = true from h), flip_flip]
  · rw [if_neg h, if_neg h]
theorem ov_pt (r x y : Rat) : ov r (ptPl x y) = ptPl x y := by
  unfold ov
  split <;> rfl
theorem turn_get {r : Rat} {ps : List Pl} {i : Nat} {p : Pl} (h : ps[i]? = some p) : (turnOver r ps)[i]? = some (ov r p) := by
  unfold turnOver
  rw [List.getElem?_map, h]
  rfl
theorem turn_turn (r : Rat) (ps : List Pl) : turnOver r (turnOver r ps) = ps := by
  unfold turnOver
  rw [List.map_map]
  refine (List.map_congr_left fun p _ => ?_).trans (List.map_id' ps)
  exact ov_ov r p
theorem mir_get {j : Nat} {ps : List Pl} {i : Nat} {p : Pl} (h : ps[i]? = some p) : (mirrorAt j ps)[i]? = some (if i = j then flip p else p) := by
  unfold mirrorAt
  rw [List.getElem?_mapIdx, h]
  rfl
theorem mir_mir (j : Nat) (ps : List Pl) : mirrorAt j (mirrorAt j ps) = ps := by
  refine List.ext_getElem? fun i => ?_
  cases h : ps[i]? with
  | none =>
    have hl := List.getElem?_eq_none_iff.mp h
    refine List.getElem?_eq_none ?_
    unfold mirrorAt
    simpa using hl
  | some p =>
    rw [mir_get (mir_get h)]
    split
    · rw [flip_flip]
    · rfl
theorem turn_len (r : Rat) (ps : List Pl) : (turnOver r ps).length = ps.length := by unfold turnOver; simp
theorem mir_len (j : Nat) (ps : List Pl) : (mirrorAt j ps).length = ps.length := by unfold mirrorAt; simp
section
variable {ps : List Pl} {pins : List PinE} {bars : List BarE} {beads : List BeadE}
/-- rows fit places that are moved aside only -/
theorem Fits.move {qs : List Pl} {g : Nat → Pl → Pl} (h : Fits ps pins bars beads) (hg : ∀ i p, ps[i]? = some p → qs[i]? = some (g i p)) (hl : qs.length = ps.length) (ok : ∀ i p, PlOk p → PlOk (g i p)) (sz : ∀ i p, PlSz p → PlSz (g i p)) (pt : ∀ i x y, g i (ptPl x y) = ptPl x y) : Fits qs pins bars beads where
  ok := fun p hp => by
    obtain ⟨i, hi⟩ := List.mem_iff_getElem?.mp hp
    have hi' : i < ps.length := by rw [← hl]; exact (List.getElem?_eq_some_iff.mp hi).1
    have h1 := hg i _ (List.getElem?_eq_getElem hi')
    rw [hi] at h1
    cases h1
    obtain ⟨a, b⟩ := h.ok _ (List.getElem_mem hi')
    exact ⟨ok _ _ a, sz _ _ b⟩
  pn := fun e he => let ⟨p, hp⟩ := h.pn e he; ⟨_, hg _ _ hp⟩
  br := fun e he => by
    obtain ⟨p, q, hp, hpt, hq, hb⟩ := h.br e he
    refine ⟨p, g _ q, ?_, hpt, hg _ _ hq, hb⟩
    have := hg _ _ hp
    rw [hpt, pt, ← hpt] at this
    exact this
  bd := fun e he => by
    obtain ⟨p, q, t, hp, hq, ht, b1, b2⟩ := h.bd e he
    exact ⟨_, _, _, hg _ _ hp, hg _ _ hq, hg _ _ ht, b1, b2⟩
theorem Fits.turn (h : Fits ps pins bars beads) (r : Rat) : Fits (turnOver r ps) pins bars beads := h.move (g := fun _ => ov r) (fun _ _ hp => turn_get hp) (turn_len r ps) (fun _ _ => ov_ok) (fun _ _ => ov_sz) fun _ => ov_pt r
theorem Fits.mirror (h : Fits ps pins bars beads) (j : Nat) : Fits (mirrorAt j ps) pins bars beads := h.move (g := fun i p => if i = j then flip p else p) (fun _ _ hp => mir_get hp) (mir_len j ps) (fun i p hp => by split; exact hp.flip; exact hp) (fun i p hp => by split; exact hp.flip; exact hp) fun i x y => by split <;> rfl
theorem tear_turn (h : Fits ps pins bars beads) (ht : tearQ ps pins bars beads = none) {r : Rat} (hr : 0 ≤ r) : tearQ (turnOver r ps) pins bars beads = none := by
  obtain ⟨h1, h2, h3⟩ := tear_none.mp ht
  refine tear_none.mpr ⟨fun e he => ?_, fun e he => ?_, fun e he => ?_⟩
  · have a := h1 e he
    obtain ⟨p, hp⟩ := h.pn e he
    unfold pinBad at a ⊢
    rw [hp] at a
    rw [turn_get hp]
    have e1 : p = ptPl e.2.1 e.2.2 := by simpa using a
    rw [e1, ov_pt]
    simp
  · have a := h2 e he
    obtain ⟨p, q, hp, hpt, hq, _⟩ := h.br e he
    unfold barBad at a ⊢
    rw [hp, hq] at a
    rw [turn_get hp, turn_get hq]
    show (!decide (sqQ (ov r p).x (ov r p).y (ov r q) = some (e.2.2 * e.2.2))) = false
    rw [ov_x, ov_y, sq_ov]
    exact a
  · have a := h3 e he
    obtain ⟨p, q, t, hp, hq, hT, _, _⟩ := h.bd e he
    obtain ⟨okp, _⟩ := h.ok p (List.mem_of_getElem? hp)
    obtain ⟨okq, _⟩ := h.ok q (List.mem_of_getElem? hq)
    unfold beadBad at a ⊢
    rw [hp, hq] at a
    rw [turn_get hp, turn_get hq, turn_get hT]
    rw [hT] at a
    have e1 : beadQ p q e.2.2.2 = some t := by simpa using a
    rw [bead_gone okp okq] at e1
    show (!decide (beadQ (ov r p) (ov r q) e.2.2.2 = some (ov r t))) = false
    rw [bead_gone (ov_ok okp) (ov_ok okq), gone_ov hr okp okq e1]
    simp
theorem tear_some {k : Str} {i : Nat} (ln : pins.length < 64 ∧ bars.length < 64 ∧ beads.length < 64) (h : tearQ ps pins bars beads = some (k, i)) : (k = "pin" ∨ k = "bar" ∨ k = "bead") ∧ i < 64 := by
  unfold tearQ at h
  cases h1 : pins.findIdx? (pinBad ps) with
  | some j =>
    rw [h1] at h
    cases h
    have := (List.findIdx?_eq_some_iff_getElem.mp h1).1
    exact ⟨.inl rfl, by omega⟩
  | none =>
    rw [h1] at h
    cases h2 : bars.findIdx? (barBad ps) with
    | some j =>
      rw [h2] at h
      cases h
      have := (List.findIdx?_eq_some_iff_getElem.mp h2).1
      exact ⟨.inr (.inl rfl), by omega⟩
    | none =>
      rw [h2] at h
      cases h3 : beads.findIdx? (beadBad ps) with
      | some j =>
        rw [h3] at h
        cases h
        have := (List.findIdx?_eq_some_iff_getElem.mp h3).1
        exact ⟨.inr (.inr rfl), by omega⟩
      | none =>
        rw [h3] at h
        cases h
end
end K31
end
section
set_option maxHeartbeats 4000000
set_option autoImplicit false
/-! The walk: what the law asks of a joint. -/
namespace K31
open PySem PySem.Spec PyProof.Rows L2
/-! ### what is shown -/
theorem numD_sho {q : Rat} {a b : Nat} (h : Bd a b q) (ha : a ≤ 1900) (hb : b ≤ 1900) : Sho (numD q) ∧ cnt (numD q) ≤ 5 := by
  unfold numD
  split
  · exact ⟨h.n.up ha, by show (1 : Nat) ≤ 5; decide⟩
  · exact ⟨⟨h.n.up ha, by show Lt2 ((q.den : Int)).natAbs 1900; exact h.d.up hb, trivial⟩, by show (5 : Nat) ≤ 5; decide⟩
theorem plD_sho {p : Pl} (h : PlSz p) : Sho (plD p) ∧ cnt (plD p) ≤ 40 := by
  obtain ⟨x1, x2⟩ := numD_sho h.x (by decide) (by decide)
  obtain ⟨y1, y2⟩ := numD_sho h.y (by decide) (by decide)
  obtain ⟨r1, r2⟩ := numD_sho h.r (by decide) (by decide)
  unfold plD
  rw [ptD_int]
  refine ⟨⟨⟨x1, y1, trivial⟩, ⟨show Lt2 p.a.natAbs 1900 from h.a.up (by decide), show Lt2 p.b.natAbs 1900 from h.b.up (by decide), trivial⟩, r1, trivial⟩, ?_⟩
  show (cnt (numD p.x) + 1 + (cnt (numD p.y) + 1 + 0) + 1) + 1 + ((1 + 1 + (1 + 1 + 0) + 1) + 1 + (cnt (numD p.r) + 1 + 0)) + 1 ≤ 40
  omega
theorem pls_good (ps : List Pl) : Good (.tup (ps.map plD)) 9 := show GoodL _ 8 from GoodL.of fun d hd => by
  obtain ⟨p, _, rfl⟩ := List.mem_map.mp hd
  exact ⟨ptD_good _ _ 5, ptD_good _ _ 5, numD_good p.r 6, trivial⟩
theorem pls_sho {ps : List Pl} (h : ∀ p ∈ ps, PlSz p) (hl : ps.length ≤ 100) : Sho (.tup (ps.map plD)) ∧ cnt (.tup (ps.map plD)) ≤ 8000 := by
  refine ⟨ShoL.of fun d hd => ?_, ?_⟩
  · obtain ⟨p, hp, rfl⟩ := List.mem_map.mp hd
    exact (plD_sho (h p hp)).1
  · have := cntL_le (n := 40) (ds := ps.map plD) fun d hd => by
      obtain ⟨p, hp, rfl⟩ := List.mem_map.mp hd
      exact (plD_sho (h p hp)).2
    rw [List.length_map] at this
    show cntL (ps.map plD) + 1 ≤ 8000
    omega
def kinN (r : Rat) (ps : List Pl) : List Int := (List.range ps.length).filterMap fun i => match ps[i]? with
  | some p => if kinB r p.r = true then some (i : Int) else none
  | none => none
theorem kinN_D (r : Rat) (ps : List Pl) : kinD r ps = (kinN r ps).map D.int := by
  unfold kinD kinN
  rw [List.map_filterMap]
  refine filterMap_congr' fun i hi => ?_
  cases ps[i]? with
  | none => rfl
  | some p =>
    show (if kinB r p.r = true then some (D.int (i : Int)) else none) = Option.map D.int (if kinB r p.r = true then some (i : Int) else none)
    split <;> rfl
theorem kinN_mem {r : Rat} {ps : List Pl} {i : Nat} {p : Pl} (h : ps[i]? = some p) : ((i : Int) ∈ kinN r ps) ↔ kinB r p.r = true := by
  unfold kinN
  rw [List.mem_filterMap]
  refine ⟨fun ⟨j, hj, e⟩ => ?_, fun hk => ⟨i, List.mem_range.mpr (List.getElem?_eq_some_iff.mp h).1, by rw [h]; exact if_pos hk⟩⟩
  cases hq : ps[j]? with
  | none => rw [hq] at e; cases e
  | some q =>
    rw [hq] at e
    have e : (if kinB r q.r = true then some (j : Int) else none) = some (i : Int) := e
    split at e
    · rename_i hk
      have ej : (j : Int) = i := Option.some.inj e
      have ej : j = i := by omega
      subst ej
      rw [h] at hq
      cases hq
      exact hk
    · cases e
theorem kinN_len (r : Rat) (ps : List Pl) : (kinN r ps).length ≤ ps.length := by
  unfold kinN
  have := List.length_filterMap_le (fun i => match ps[i]? with
    | some p => if kinB r p.r = true then some (i : Int) else none
    | none => none) (List.range ps.length)
  rw [List.length_range] at this
  exact this
theorem kinN_lt {r : Rat} {ps : List Pl} {k : Int} (h : k ∈ kinN r ps) : 0 ≤ k ∧ k < ps.length := by
  unfold kinN at h
  obtain ⟨j, hj, e⟩ := List.mem_filterMap.mp h
  have hj' := List.mem_range.mp hj
  split at e
  · split at e
    · cases e; omega
    · cases e
  · cases e
theorem kins_good (ks : List Int) : Good (.lst [.tup (ks.map D.int), .tup (ks.map D.int)]) 9 := by
  have h : GoodL (ks.map D.int) 7 := GoodL.of fun d hd => by
    obtain ⟨k, _, rfl⟩ := List.mem_map.mp hd
    trivial
  exact ⟨h, h, trivial⟩
theorem kins_sho {ks : List Int} (h : ∀ k ∈ ks, 0 ≤ k ∧ k < 100) (hl : ks.length ≤ 100) : Sho (.lst [.tup (ks.map D.int), .tup (ks.map D.int)]) ∧ cnt (.lst [.tup (ks.map D.int), .tup (ks.map D.int)]) ≤ 8000 := by
  have h1 : ShoL (ks.map D.int) := ShoL.of fun d hd => by
    obtain ⟨k, hk, rfl⟩ := List.mem_map.mp hd
    have := h k hk
    have h2 : Lt2 k.natAbs 10 := by show k.natAbs < 2 ^ 10; omega
    exact h2.up (by decide)
  have h2 := cntL_le (n := 1) (ds := ks.map D.int) fun d hd => by
    obtain ⟨k, hk, rfl⟩ := List.mem_map.mp hd
    exact Nat.le_refl 1
  rw [List.length_map] at h2
  refine ⟨⟨h1, h1, trivial⟩, ?_⟩
  show ((cntL (ks.map D.int) + 1) + 1 + ((cntL (ks.map D.int) + 1) + 1 + 0)) + 1 ≤ 8000
  omega
def partsD : Option (Str × Nat) → D
  | some (k, i) => .tup [.str k, .int i]
  | none => .tup []
theorem str_pin : PyData.strOk "pin" = true ∧ (reprText "pin").length ≤ 1000 := ⟨by decide +kernel, by decide +kernel⟩
theorem str_bar : PyData.strOk "bar" = true ∧ (reprText "bar").length ≤ 1000 := ⟨by decide +kernel, by decide +kernel⟩
theorem str_bead : PyData.strOk "bead" = true ∧ (reprText "bead").length ≤ 1000 := ⟨by decide +kernel, by decide +kernel⟩
theorem parts_sho {o : Option (Str × Nat)} (h : ∀ k i, o = some (k, i) → (k = "pin" ∨ k = "bar" ∨ k = "bead") ∧ i < 64) : Good (partsD o) 9 ∧ Sho (partsD o) ∧ cnt (partsD o) ≤ 8000 := by
  cases o with
  | none => exact ⟨trivial, trivial, by show (1 : Nat) ≤ 8000; decide⟩
  | some ki =>
    obtain ⟨k, i⟩ := ki
    obtain ⟨hk, hi⟩ := h k i rfl
    have hi2 : Lt2 ((i : Int)).natAbs 1900 := by
      have h2 : Lt2 ((i : Int)).natAbs 10 := by show ((i : Int)).natAbs < 2 ^ 10; omega
      exact h2.up (by decide)
    rcases hk with rfl | rfl | rfl
    · exact ⟨⟨str_pin.1, trivial, trivial⟩, ⟨str_pin.2, hi2, trivial⟩, by show (5 : Nat) ≤ 8000; decide⟩
    · exact ⟨⟨str_bar.1, trivial, trivial⟩, ⟨str_bar.2, hi2, trivial⟩, by show (5 : Nat) ≤ 8000; decide⟩
    · exact ⟨⟨str_bead.1, trivial, trivial⟩, ⟨str_bead.2, hi2, trivial⟩, by show (5 : Nat) ≤ 8000; decide⟩
section
variable {X : Cx} {ρ : Rho} {a : Expr} {d : D} {ds : List D} {pos p : Pos}
theorem cinI {i : Int} {ks : List Int} : CmpD X .In (.int i) (.lst (ks.map D.int)) (decide (i ∈ ks)) := ⟨_, op_in_seq, fun x y W hx hy Q q => by
  cases hx
  obtain ⟨t, xs, rfl, h2, h3⟩ := hy
  refine ⟨t, xs, rfl, .inl (Wd.seq h2), rfl, ?_, ?_⟩
  · rw [rpl_ints h3, List.all_map]
    exact List.all_eq_true.mpr fun _ _ => rfl
  · have e : inV (.int i) xs = decide (i ∈ ks) := by
      rw [rpl_ints h3]
      unfold inV
      rw [List.any_map]
      refine Bool.eq_iff_iff.mpr ⟨fun h => ?_, fun h => ?_⟩
      · obtain ⟨k, hk, e⟩ := List.any_eq_true.mp h
        have e : (k == i) = true := e
        exact decide_eq_true (by rw [← beq_iff_eq.mp e]; exact hk)
      · exact List.any_eq_true.mpr ⟨i, of_decide_eq_true h, (beq_self_eq_true i : (i == i) = true)⟩
    show Q (.bl (inV (.int i) xs)) _
    rw [e]
    exact q⟩
theorem ceqS {x y : Str} : CmpD X .Eq (.str x) (.str y) (decide (x = y)) := ⟨_, op_eq, fun u v W hx hy Q q => by cases hx; cases hy; exact ⟨rfl, by
  have e : decide (V.str x = V.str y) = decide (x = y) := decide_eq_decide.mpr ⟨fun h => V.str.inj h, fun h => h ▸ rfl⟩
  rw [e]; exact q⟩⟩
/-- list(t) -/
theorem dlistS (hm : X.mg "list" = none) (ha : DE X a ρ d) (hd : d.items = some ds) (hg : Gl X "list" := by rfl) (hs : starEach [a] X.env = (false, eval a X.env) :: starEach [] X.env := by rfl) : DE X (.Call (.Name "list" p) [a] [] pos) ρ (.lst ds) :=
  .of (pe_callTy call_list_of hg hm boot_list (pa_cons (peW a) pa_nil hs) (he := hs)) fun σ W E Q q => ha σ W E _ fun v W1 e1 r1 => by
    cases d with
    | lst es =>
      cases hd
      obtain ⟨t, xs, rfl, h2, h3⟩ := r1
      exact ⟨t, xs, rfl, .inl (Wd.seq h2), fun l hp => q _ _ (e1.trans (Le.new1 hp)) ⟨l, xs, rfl, .inl (.inl upd_same), RpL.le (Le.new1 hp) h3⟩⟩
    | tup es =>
      cases hd
      obtain ⟨t, xs, rfl, h2, h3⟩ := r1
      exact ⟨t, xs, rfl, .inr (Wd.sqT h2), fun l hp => q _ _ (e1.trans (Le.new1 hp)) ⟨l, xs, rfl, .inl (.inl upd_same), RpL.le (Le.new1 hp) h3⟩⟩
    | _ => cases hd
end
section
variable {P : Program} {w : World} {K : PySem.W.Frag} {mg : Str → Option Value} {base : Heap}
def S__law_joint_right (P : Program) (w : World) (K : PySem.W.Frag) (mg : Str → Option Value) (base : Heap) (ds : List D) (d : D) : Prop := PapOk P w K mg base ∧ ∃ (ps : List Pl) (pins : List PinE) (bars : List BarE) (beads : List BeadE) (j : Nat) (p : Pl), ds = [machD K ps.length pins bars beads, rowsD pins bars beads, .lst (ps.map plD), .int j] ∧
  Fits ps pins bars beads ∧ tearQ ps pins bars beads = none ∧ (pins.length < 64 ∧ bars.length < 64 ∧ beads.length < 64) ∧ ps.length ≤ 64 ∧ ps[j]? = some p ∧ d = .bl true
def kinL (r : Rat) (ps : List Pl) : D → Option D
  | .int i => match ps[i.toNat]? with
    | some p => if kinB r p.r = true then some (.int i) else none
    | none => none
  | _ => none
theorem kinL_eq (r : Rat) (ps : List Pl) : ((List.range ps.length).map fun (i : Nat) => D.int (i : Int)).filterMap (kinL r ps) = (kinN r ps).map D.int := by
  rw [← kinN_D, List.filterMap_map]
  rfl
def ovF (r : Rat) : D → D
  | .tup [_, e] => turnF r e
  | d => d
theorem ovF_eq (r : Rat) (ps : List Pl) : (enumD (ps.map plD)).map (ovF r) = (turnOver r ps).map plD := by
  rw [← turn_eq, enumD_eq, List.map_map]
  refine List.ext_getElem? fun i => ?_
  rw [List.getElem?_map, List.getElem?_map, List.getElem?_map]
  by_cases hi : i < ps.length
  · have hp : ps[i]? = some ps[i] := List.getElem?_eq_getElem hi
    rw [List.getElem?_range (by simpa using hi), hp]
    show some (turnF r ((ps.map plD).getD i .non)) = some (turnF r (plD ps[i]))
    rw [List.getD_eq_getElem?_getD, List.getElem?_map, hp]
    rfl
  · rw [List.getElem?_eq_none (by simp; omega), List.getElem?_eq_none (by omega)]
    rfl
abbrev N__law_joint_right : List Str := ["_law_machine", "_law_rows_here", "_law_places", "_law_joint", "_law_kin_here", "_law_at", "_law_over_here", "_law_place", "_law_told", "_law_alone", "_law_other", "_law_due"]
theorem sc__law_joint_right : FnScope N__law_joint_right ["_law_machine", "_law_rows_here", "_law_places", "_law_joint"] (defScope s__law_joint_right) := ⟨rfl, rfl, rfl, by decide +kernel, rfl, by decide +kernel, by decide +kernel⟩
theorem okG__law_joint_right (T : TC P K mg) : OkG P w K mg base 10 "_law_joint_right" 4 (S__law_joint_right P w K mg base) := by
  obtain ⟨fd, F⟩ := T.f__law_joint_right
  refine okG_of (N := N__law_joint_right) (ps := ["_law_machine", "_law_rows_here", "_law_places", "_law_joint"]) F T.g__law_joint_right sc__law_joint_right rfl (fun _ _ _ _ _ _ us hl => match us, hl with | [_, _, _, _], _ => rfl) fun cdv A outer s H ds d E hr hG hl hS => ?_
  have hu := hr.units
  have hG2 : (cxOf CX0 P w K mg base N__law_joint_right "_law_joint_right" (defScope s__law_joint_right) (He.ga K "_law_joint_right") cdv A outer s H E).nox.A.guards = some [] := hG
  obtain ⟨hP, ps, pins, bars, beads, j, p, rfl, hf, ht, ln, hl64, hp, rfl⟩ := hS
  have hj : j < ps.length := (List.getElem?_eq_some_iff.mp hp).1
  have hne : ps ≠ [] := fun z => by rw [z] at hj; simp at hj
  have hX : Pls (.lst (ps.map plD)) ps := ⟨.inr (.inl rfl), hf.ok, hne, by omega⟩
  have hXt : Pls (.tup (ps.map plD)) ps := ⟨.inl rfl, hf.ok, hne, by omega⟩
  obtain ⟨okp, szp⟩ := hf.ok p (List.mem_of_getElem? hp)
  have hft := hf.turn p.r
  have hfm := hf.mirror j
  have hnt : turnOver p.r ps ≠ [] := fun z => by have := turn_len p.r ps; rw [z] at this; exact hne (List.length_eq_zero_iff.mp this.symm)
  have hnm : mirrorAt j ps ≠ [] := fun z => by have := mir_len j ps; rw [z] at this; exact hne (List.length_eq_zero_iff.mp this.symm)
  have hXo : Pls (.tup ((turnOver p.r ps).map plD)) (turnOver p.r ps) := ⟨.inl rfl, hft.ok, hnt, by rw [turn_len]; omega⟩
  have hXm : Pls (.tup ((mirrorAt j ps).map plD)) (mirrorAt j ps) := ⟨.inl rfl, hfm.ok, hnm, by rw [mir_len]; omega⟩
  have hXl : Pls (.lst (ps.map plL)) ps := ⟨.inr (.inr rfl), hf.ok, hne, by omega⟩
  have hto := tear_turn hf ht okp.nonneg
  refine ⟨_, ?_, .inl rfl⟩
  refine db1 (dset (i := 4) sc__law_joint_right.nd rfl (dlcIf (own := [("_law_at", 5)]) (kinL p.r ps) rfl sc__law_joint_right.nd (diR T.b_range (dlen T.b_len (dv 2 rfl) (n := ps.length) (by show some (ps.map plD).length = _; rw [List.length_map])) (by omega)) (blkOk_by (N := N__law_joint_right) (sc := defScope s__law_joint_right) (by decide +kernel)) (pgN (i := 5) sc__law_joint_right.nd rfl) (by rw [List.length_map, List.length_range]; omega) (fun d hd => ?_))) ?_
  · obtain ⟨i, hi, rfl⟩ := List.mem_map.mp hd
    have hi' := List.mem_range.mp hi
    have hq : ps[i]? = some ps[i] := List.getElem?_eq_getElem hi'
    obtain ⟨okq, szq⟩ := hf.ok ps[i] (List.getElem_mem hi')
    have ek : kinL p.r ps (.int (i : Int)) = if kinB p.r ps[i].r = true then some (.int (i : Int)) else none := by
      show (match ps[((i : Int)).toNat]? with
        | some p' => if kinB p.r p'.r = true then some (D.int (i : Int)) else none
        | none => none) = _
      rw [Int.toNat_natCast, hq]
    refine ⟨_, kinB p.r ps[i].r, bcN, fun _ _ _ _ _ => DT.is (dt_cmp cnotN (dcall (ok__law_kin T.toTB) (hr.mono (by decide)) (dacons (dixT (ds := [ptD p.x p.y, ptD p.a p.b, numD p.r]) (dixL (d := plD p) (dv 2 rfl) (dv 3 rfl) (atI_map' hp)) dint rfl) (dacons (dixT (ds := [ptD ps[i].x ps[i].y, ptD ps[i].a ps[i].b, numD ps[i].r]) (dixL (d := plD ps[i]) (dv 2 rfl) (dv 5 rfl) (atI_map' hq)) dint rfl) danil)) ⟨p, ps[i], rfl, okp, okq, szp, szq, rfl⟩) dnon) ?_, fun h => ?_, fun h => ⟨.int i, ?_, fun _ _ _ _ _ => (dv 5 rfl)⟩⟩
    · unfold kinT
      split
      · rename_i hk; rw [hk]; show (!(numD _).isNon) = true; rw [numD_notNon]; rfl
      · rename_i hk; rw [Bool.eq_false_iff.mpr hk]; rfl
    · rw [ek, h]; rfl
    · rw [ek, if_pos h]
  rw [kinL_eq]
  have kg := kins_good (kinN p.r ps)
  have ks := kins_sho (ks := kinN p.r ps) (fun k hk => by have := kinN_lt hk; omega) (by have := kinN_len p.r ps; omega)
  refine db1 (dif_f (DT.is (dt_cmp cneS (drepr (d := .lst [.tup ((kinN p.r ps).map D.int), .tup ((kinN p.r ps).map D.int)]) T.b_repr hG2 hu (dlst (dacons (dcall (ok_kin_of T.toTB) (hr.mono (by decide)) (dacons (dv 2 rfl) (dacons (dv 3 rfl) danil)) ⟨_, ps, j, p, rfl, hX, hp, by rw [kinN_D]⟩) (dacons (dcallJ (okJ_kin_of T.toTB) (hr.mono (by decide)) (dv 3 rfl) (dtupleOf T.b_tuple (dv 2 rfl) rfl) ⟨_, ps, j, p, rfl, hXt, hp, by rw [kinN_D]⟩) danil))) ⟨_, rfl⟩ kg ks.1 ks.2)
    (drepr (d := .lst [.tup ((kinN p.r ps).map D.int), .tup ((kinN p.r ps).map D.int)]) T.b_repr hG2 hu (dlst (dacons (dtupleOf T.b_tuple (dv 4 rfl) rfl) (dacons (dtupleOf T.b_tuple (dv 4 rfl) rfl) danil))) ⟨_, rfl⟩ kg ks.1 ks.2)) (by simp)) db0) ?_
  refine db1 (dset (i := 6) (d := .tup ((turnOver p.r ps).map plD)) sc__law_joint_right.nd rfl (dtupleOf T.b_tuple (dlc (own := [("_law_at", 5), ("_law_place", 7)]) (ovF p.r) rfl sc__law_joint_right.nd (diEL T.b_enumerate (dv 2 rfl)) (blkOk_by (N := N__law_joint_right) (sc := defScope s__law_joint_right) (by decide +kernel)) (pgP (i := 5) (j := 7) rfl sc__law_joint_right.nd rfl rfl) (by rw [enumD_length, List.length_map]; omega) (fun d hd => ?_)) (by show some _ = some _; rw [ovF_eq]))) ?_
  · obtain ⟨i, hi⟩ := List.mem_iff_getElem?.mp hd
    obtain ⟨e, he, rfl⟩ := enumD_get hi
    rw [List.getElem?_map] at he
    obtain ⟨q, hq, rfl⟩ := Option.map_eq_some_iff.mp he
    have ef : ovF p.r (.tup [.int (i : Int), plD q]) = plD (if kinB p.r q.r = true then flip q else q) := by
      show turnF p.r (plD q) = _
      unfold turnF
      rw [plOf_plD]
    refine ⟨_, bcP (by decide), fun _ _ _ _ _ => (de_if (DT.is (dt_cmp cinI (dv 5 rfl) (dv 4 rfl) (hm := rfl)) (show decide ((i : Int) ∈ kinN p.r ps) = kinB p.r q.r from Bool.eq_iff_iff.mpr (decide_eq_true_iff.trans (kinN_mem hq)))) (fun h => ?_) (fun h => ?_))⟩
    · exact dcall (ok__law_other_side T.toTB) (hr.mono (by decide)) (dacons (dv 7 rfl) danil) ⟨q, rfl, by rw [ef, if_pos h]⟩
    · exact DE.is (dv 7 rfl) (by rw [ef, h]; rfl)
  refine db1 (dset (i := 8) sc__law_joint_right.nd rfl (dcall (ok_turned_over T.toTB) (hr.mono (by decide)) (dacons (dv 2 rfl) (dacons (dv 3 rfl) danil)) ⟨_, ps, j, p, rfl, hX, hp, rfl⟩)) ?_
  have og := pls_good (turnOver p.r ps)
  have os := pls_sho (ps := turnOver p.r ps) (fun q hq => (hft.ok q hq).2) (by rw [turn_len]; omega)
  refine db1 (dif_f (dw_val (dw_or_f (DT.is (dt_cmp cneS (drepr (d := .tup ((turnOver p.r ps).map plD)) T.b_repr hG2 hu (dv 8 rfl) ⟨_, rfl⟩ og os.1 os.2) (drepr (d := .tup ((turnOver p.r ps).map plD)) T.b_repr hG2 hu (dv 6 rfl) ⟨_, rfl⟩ og os.1 os.2)) (by simp)) (dw_or1 (DT.is (dt_cmp (cne hu og og (z := true) ⟨fun _ => rfl, fun _ => rfl⟩) (dcallJ (okJ_turned_over T.toTB) (hr.mono (by decide)) (dv 3 rfl) (DE.is (dlc (own := [("_law_place", 7)]) (fun d => plL (plOf d)) rfl sc__law_joint_right.nd (diL (dv 2 rfl)) (blkOk_by (N := N__law_joint_right) (sc := defScope s__law_joint_right) (by decide +kernel)) (pgN (i := 7) sc__law_joint_right.nd rfl) (by rw [List.length_map]; omega) (fun d hd => ?_)) (d2 := .lst (ps.map plL)) ?_) ⟨_, ps, j, p, rfl, hXl, hp, rfl⟩) (dv 8 rfl)) rfl)))) db0) ?_
  · obtain ⟨q, hq, rfl⟩ := List.mem_map.mp hd
    exact ⟨_, bcN, fun _ _ _ _ _ => DE.is (dlistS T.b_list (dv 7 rfl) rfl) (by rw [plOf_plD]; rfl)⟩
  · rw [List.map_map]
    exact congrArg D.lst (List.map_congr_left fun q _ => by show plL (plOf (plD q)) = plL q; rw [plOf_plD])
  have hpo : (turnOver p.r ps)[j]? = some (ov p.r p) := turn_get hp
  refine db1 (dif_f (dw_val (dw_or_f (DT.is (dt_not (dt_judge T T (hr.mono (by decide)) (dcall (ok_judged T) (hr.mono (by decide)) (dacons (dv 0 rfl) (dacons (dv 8 rfl) danil)) ⟨hP, _, turnOver p.r ps, pins, bars, beads, by rw [turn_len]; rfl, hXo, hft, rfl⟩))) (by rw [hto]; rfl)) (dw_or_f (DT.is (dt_cmp cnotN (dcall (ok__law_tear T.toTB) (hr.mono (by decide)) (dacons (dv 1 rfl) (dacons (dv 8 rfl) danil)) ⟨turnOver p.r ps, pins, bars, beads, rfl, hft, rfl⟩) dnon) (by rw [hto]; rfl)) (dw_or1 (DT.is (dt_cmp (cne hu (pls_good ps) (pls_good ps) (z := true) ⟨fun _ => rfl, fun _ => rfl⟩) (dcall (ok_turned_over T.toTB) (hr.mono (by decide)) (dacons (dv 8 rfl) (dacons (dv 3 rfl) danil)) ⟨_, turnOver p.r ps, j, ov p.r p, rfl, hXo, hpo, by rw [ov_r, turn_turn]⟩) (dtupleOf T.b_tuple (dv 2 rfl) rfl)) rfl))))) db0) ?_
  refine db1 (dset (i := 9) (d := .tup ((mirrorAt j ps).map plD)) sc__law_joint_right.nd rfl (dtupleOf T.b_tuple (dlc (own := [("_law_at", 5), ("_law_place", 7)]) (mirF j) rfl sc__law_joint_right.nd (diEL T.b_enumerate (dv 2 rfl)) (blkOk_by (N := N__law_joint_right) (sc := defScope s__law_joint_right) (by decide +kernel)) (pgP (i := 5) (j := 7) rfl sc__law_joint_right.nd rfl rfl) (by rw [enumD_length, List.length_map]; omega) (fun d hd => ?_)) (by show some _ = some _; rw [mir_eq]))) ?_
  · obtain ⟨i, hi⟩ := List.mem_iff_getElem?.mp hd
    obtain ⟨e, he, rfl⟩ := enumD_get hi
    rw [List.getElem?_map] at he
    obtain ⟨q, hq, rfl⟩ := Option.map_eq_some_iff.mp he
    have ef : mirF j (.tup [.int (i : Int), plD q]) = plD (if (i : Int) = (j : Int) then flip q else q) := by
      show plD (if (i : Int) = (j : Int) then flip (plOf (plD q)) else plOf (plD q)) = _
      rw [plOf_plD]
    refine ⟨_, bcP (by decide), fun _ _ _ _ _ => (de_if (dt_cmp ceqI (dv 5 rfl) (dv 3 rfl)) (fun h => ?_) (fun h => ?_))⟩
    · exact dcall (ok__law_other_side T.toTB) (hr.mono (by decide)) (dacons (dv 7 rfl) danil) ⟨q, rfl, by rw [ef, if_pos (of_decide_eq_true h)]⟩
    · exact DE.is (dv 7 rfl) (by rw [ef, if_neg (of_decide_eq_false h)])
  refine db1 (dset (i := 10) sc__law_joint_right.nd rfl (dcallJ (okJ_mirrored_aside T.toTB) (hr.mono (by decide)) (dv 3 rfl) (dv 2 rfl) ⟨_, ps, j, rfl, hX, hj, rfl⟩)) ?_
  have mg9 := pls_good (mirrorAt j ps)
  have ms := pls_sho (ps := mirrorAt j ps) (fun q hq => (hfm.ok q hq).2) (by rw [mir_len]; omega)
  refine db1 (dif_f (dw_val (dw_or_f (DT.is (dt_cmp cneS (drepr (d := .tup ((mirrorAt j ps).map plD)) T.b_repr hG2 hu (dv 10 rfl) ⟨_, rfl⟩ mg9 ms.1 ms.2) (drepr (d := .tup ((mirrorAt j ps).map plD)) T.b_repr hG2 hu (dv 9 rfl) ⟨_, rfl⟩ mg9 ms.1 ms.2)) (by simp)) (dw_or1 (DT.is (dt_cmp (cne hu (pls_good ps) (pls_good ps) (z := true) ⟨fun _ => rfl, fun _ => rfl⟩) (dcall (ok_mirrored_aside T.toTB) (hr.mono (by decide)) (dacons (dv 10 rfl) (dacons (dv 3 rfl) danil)) ⟨_, mirrorAt j ps, j, rfl, hXm, by rw [mir_len]; exact hj, by rw [mir_mir]⟩) (dtupleOf T.b_tuple (dv 2 rfl) rfl)) rfl)))) db0) ?_
  refine db1 (dset (i := 11) sc__law_joint_right.nd rfl (dcall (ok__law_tear T.toTB) (hr.mono (by decide)) (dacons (dv 1 rfl) (dacons (dv 10 rfl) danil)) ⟨mirrorAt j ps, pins, bars, beads, rfl, hfm, rfl⟩)) ?_
  obtain ⟨pg, pS, pc⟩ := parts_sho (o := tearQ (mirrorAt j ps) pins bars beads) fun k i h => tear_some ln h
  have c1 : cnt (.tup []) ≤ 8000 := by show (1 : Nat) ≤ 8000; decide
  cases hT : tearQ (mirrorAt j ps) pins bars beads with
  | none =>
    refine dbR (dret (DE.is (de_cmp ceqS (drepr (d := .tup []) T.b_repr hG2 hu (dfld (C := He.ga K "Right") (ns := ["word", "parts"]) (ds := [.str "right", .tup []]) (i := 1) (DE.is (dcall (ok_judged T) (hr.mono (by decide)) (dacons (dv 0 rfl) (dacons (dv 10 rfl) danil)) ⟨hP, _, mirrorAt j ps, pins, bars, beads, by rw [mir_len]; rfl, hXm, hfm, rfl⟩) (by rw [hT]; rfl)) T.cl_Right (T.noat 18 rfl) (by decide) rfl rfl) ⟨_, rfl⟩ trivial trivial c1)
      (drepr (d := .tup []) T.b_repr hG2 hu (de_if_t (DT.is (dt_cmp cisN (dv 11 rfl) dnon) rfl) (dtup danil)) ⟨_, rfl⟩ trivial trivial c1)) (by simp)))
  | some ki =>
    obtain ⟨k, i⟩ := ki
    rw [hT] at pg pS pc
    refine dbR (dret (DE.is (de_cmp ceqS (drepr (d := .tup [.str k, .int i]) T.b_repr hG2 hu (dfld (C := He.ga K "Torn") (ns := ["word", "parts", "kind", "at"]) (ds := [.str "torn", .tup [.str k, .int i], .str k, .int i]) (i := 1) (DE.is (dcall (ok_judged T) (hr.mono (by decide)) (dacons (dv 0 rfl) (dacons (dv 10 rfl) danil)) ⟨hP, _, mirrorAt j ps, pins, bars, beads, by rw [mir_len]; rfl, hXm, hfm, rfl⟩) (by rw [hT]; rfl)) T.cl_Torn (T.noat 20 rfl) (by decide) rfl rfl) ⟨_, rfl⟩ pg pS pc)
      (drepr (d := .tup [.str k, .int i]) T.b_repr hG2 hu (de_if_f (DT.is (dt_cmp cisN (dv 11 rfl) dnon) rfl) (DE.is (dv 11 rfl) rfl)) ⟨_, rfl⟩ pg pS pc)) (by simp)))
end
end K31
end
section
set_option maxHeartbeats 2000000
set_option autoImplicit false
/-! What raises. -/
namespace K31
open PySem PySem.Spec PyProof.Rows L2
section
variable {X : Cx} {e : Expr} {es : List Expr} {ta : TA} {p p1 p2 pos : Pos}
/-- CurveError.__init__(self, ..): the base's -/
theorem pe_cveinit {CE : Addr} {y : Str} {pl : Sem Bool} (hg : Gl X y) (hm : X.mg y = some (.ref CE)) (r : ClX.CRead X.K CE (.type "type")) (vV : PySem.W.findCls X.K (.ref CE) (.type "type") "__init__" = some (.val (.builtin "ValueError.__init__"))) (ha : PA X (e :: es) ta) (hdb : (y == ("__debug__" : Str)) = false := by decide)
    (hc : eval (.Call (.Attribute (.Name y p1) "__init__" p2) (e :: es) [] pos) X.env = (do
      let ov ← eval (.Name y p1) X.env
      standAt p2.atName
      let (f, first) ← holding [ov] (getMethod ov "__init__" pl)
      callWith pos f first (backTo pos (starEach (e :: es) X.env)) (backToKw pos (keywordEach [] X.env))) := by rfl)
    (he : starEach (e :: es) X.env = (false, eval e X.env) :: starEach es X.env := by rfl) (hpl : (backTo pos (starEach es X.env)).any (·.1) = false := by rfl) : PE X (.Call (.Attribute (.Name y p1) "__init__" p2) (e :: es) [] pos) (tVeI X.K ta) := by
  refine ⟨fun pins s σ H Q I h => ?_⟩
  refine PySem.W.methodCall_KW (ld_glob I hg hm ?_ hdb) hc
  refine PySem.W.method_cls I.kIn r.ga (PySem.W.cls_value I.kIn r.rd vV rfl ?_)
  show wpAny _ _ (callWith pos (Value.builtin "ValueError.__init__") [] (backTo pos (starEach (e :: es) X.env)) []) _ _ _
  refine PyProof.Rows.callWith_method1 (thn (ha.run pos pins _ σ H _ (I.tok _) h) fun us s1 ⟨vs, H1, I1, r1, a, C, ws, ev, hl, T, ea, q⟩ => ?_) he hpl
  subst ev
  cases r1 with
  | @cons _ u0 _ ur ra rw' =>
    obtain rfl : u0 = Value.ref a := ra
    have hlen : ur.length ≤ sizeLine := by
      rw [← Paired.length rw', sizeLine_eq]
      omega
    exact oinit_ok T I1 ea hlen fun s' J => ⟨.non, H1, J, rfl, q⟩
end
/-- an error's own __init__ -/
def spErr (C : Addr) : Sp := fun vs H Q _ => ∃ (a : Addr) (x : V), vs = [.ref a, x] ∧ H a = some (exo a C none) ∧ ∀ dx, H dx = none → dx ≠ a → Q .non (upd (upd H dx (exd dx [("part", x)])) a (exo a C (some dx)))
section
variable {P : Program} {w : World} {K : PySem.W.Frag} {mg : Str → Option Value} {base : Heap}
abbrev N_err : List Str := ["self", "part"]
theorem sc_BadNumber_init : FnScope N_err ["self", "part"] (defScope s_BadNumber_init) := ⟨rfl, rfl, rfl, by decide +kernel, rfl, by decide +kernel, by decide +kernel⟩
theorem sc_BadPlace_init : FnScope N_err ["self", "part"] (defScope s_BadPlace_init) := ⟨rfl, rfl, rfl, by decide +kernel, rfl, by decide +kernel, by decide +kernel⟩
theorem readCE (T : TC P K mg) : ClX.CRead K (He.ga K "CurveError") (.type "type") := T.parts.2.2.2.2.2.2.2.2.2.2.1
theorem ok_BadPlace_init (T : TC P K mg) : ∃ fd, L2.Binds K fd ["self", "part"] [] ∧ FnOk P w K mg base CX0 1 (He.ma K (He.ga K "BadPlace") "__init__") fd ["self", "part"] (spErr (He.ga K "BadPlace")) := by
  obtain ⟨fd, F⟩ := T.f_BadPlace_init
  refine ⟨fd, F.bindsN fun _ _ _ _ _ _ us hl => match us, hl with | [_, _], _ => rfl, F.ok sc_BadPlace_init (fun vs H Q E ⟨a, x, e, _⟩ => by rw [e]; rfl) fun cdv A outer s H vs Q E hr ⟨a, x, e, ha, q⟩ => ?_⟩
  subst e
  exact ⟨_, pss_cons (ps_expr (pe_cveinit (y := "CurveError") rfl T.g_CurveError (readCE T) T.vei (pa_cons (pe_var (i := 0) rfl (.inl rfl)) (pa_cons pe_str pa_nil)))) (pss_cons (ps_ost (pe_var (i := 0) rfl (.inl rfl)) (pe_var (i := 1) rfl (.inl rfl))) pss_nil),
    ⟨_, rfl, a, _, [.str "BadPlace"], rfl, by decide, T.e_place.o, ha, _, rfl, _, rfl, a, _, rfl, T.e_place.o, T.e_place.no, .inl ⟨ha, fun dx h1 h2 => q dx h1 h2⟩⟩⟩
theorem ok_BadNumber_init (T : TC P K mg) : ∃ fd, L2.Binds K fd ["self", "part"] [] ∧ FnOk P w K mg base CX0 1 (He.ma K (He.ga K "BadNumber") "__init__") fd ["self", "part"] (spErr (He.ga K "BadNumber")) := by
  obtain ⟨fd, F⟩ := T.f_BadNumber_init
  refine ⟨fd, F.bindsN fun _ _ _ _ _ _ us hl => match us, hl with | [_, _], _ => rfl, F.ok sc_BadNumber_init (fun vs H Q E ⟨a, x, e, _⟩ => by rw [e]; rfl) fun cdv A outer s H vs Q E hr ⟨a, x, e, ha, q⟩ => ?_⟩
  subst e
  exact ⟨_, pss_cons (ps_expr (pe_cveinit (y := "CurveError") rfl T.g_CurveError (readCE T) T.vei (pa_cons (pe_var (i := 0) rfl (.inl rfl)) (pa_cons pe_str pa_nil)))) (pss_cons (ps_ost (pe_var (i := 0) rfl (.inl rfl)) (pe_var (i := 1) rfl (.inl rfl))) pss_nil),
    ⟨_, rfl, a, _, [.str "BadNumber"], rfl, by decide, T.e_num.o, ha, _, rfl, _, rfl, a, _, rfl, T.e_num.o, T.e_num.no, .inl ⟨ha, fun dx h1 h2 => q dx h1 h2⟩⟩⟩
end
end K31
end
section
set_option maxHeartbeats 2000000
set_option autoImplicit false
/-! What raises: judgements. -/
namespace K31
open PySem PySem.Spec PyProof.Rows L2
/-- the exception of class C with part p, in a world that grew from W -/
def EXc (C : Addr) (p : Str) (W : Wd) : XK := fun cls d H => cls = .ref C ∧ ∃ (dd : Addr) (W2 : Wd), d = some dd ∧ W2.h = H ∧ Le W W2 ∧ W2.s dd = some (.xd [("part", .str p)])
theorem EXc.le {C : Addr} {p : Str} {W W1 : Wd} {cls : Value} {d : Option Addr} {H : Hp} (e : Le W W1) (h : EXc C p W1 cls d H) : EXc C p W cls d H := by
  obtain ⟨h1, dd, W2, h2, h3, h4, h5⟩ := h
  exact ⟨h1, dd, W2, h2, h3, e.trans h4, h5⟩
/-- what a context takes -/
structure TkE (X : Cx) (C : Addr) (p : Str) (W0 : Wd) : Prop where
  ex : ∃ Eo : XK, Takes X (fun cls d _ H => Eo cls d H) ∧ ∀ cls d H, EXc C p W0 cls d H → Eo cls d H
def Rexp (X : Cx) (C : Addr) (p : Str) (W0 : Wd) (e : Expr) (ρ : Rho) : Prop := ∀ σ (W : Wd), EnvD X.K W.s σ ρ → Le W0 W → ∀ Q : VK, wE X e σ W.h Q
def Rstm (X : Cx) (C : Addr) (p : Str) (W0 : Wd) (st : Stmt) (ρ : Rho) : Prop := ∀ σ (W : Wd), EnvD X.K W.s σ ρ → Le W0 W → ∀ D : Ends, wS X st D σ W.h
def Rblk (X : Cx) (C : Addr) (p : Str) (W0 : Wd) (ss : List Stmt) (ρ : Rho) : Prop := ∀ σ (W : Wd), EnvD X.K W.s σ ρ → Le W0 W → ∀ D : Ends, wB X ss D σ W.h
section
variable {X : Cx} {C : Addr} {p : Str} {W0 : Wd} {ρ ρ' : Rho} {e c : Expr} {es : List Expr} {st : Stmt} {ss ss2 : List Stmt} {pos pos2 : Pos} {ds : List D}
theorem rb1 (h : DS X st ρ (.nx ρ')) (h2 : Rblk X C p W0 ss ρ') : Rblk X C p W0 (st :: ss) ρ := fun σ W E le D pins s I => (pss_cons (psW st) (pbW ss)).run pins s σ W.h D I (h σ W E _ fun σ' W1 e1 E1 => h2 σ' W1 E1 (le.trans e1) D)
theorem rbR (h : Rstm X C p W0 st ρ) : Rblk X C p W0 (st :: ss) ρ := fun σ W E le D pins s I => (pss_cons (psW st) (pbW ss)).run pins s σ W.h D I (h σ W E le _)
theorem rif_t (hc : DT X c ρ true) (h : Rblk X C p W0 ss ρ) : Rstm X C p W0 (.If c ss ss2 pos) ρ := fun σ W E le D pins s I => (ps_if (ptW c) (pbW ss) (pbW ss2)).run pins s σ W.h D I (hc σ W E _ fun W1 e1 => h σ W1 (E.le e1) (le.trans e1) D)
theorem rexpr (h : Rexp X C p W0 e ρ) (hs : swapsWith e none pos.line X.env = pure false := by rfl) : Rstm X C p W0 (.Expr e pos) ρ := fun σ W E le D pins s I => (ps_expr (peW e) hs).run pins s σ W.h D I (h σ W E le _)
theorem rset {i : Nat} {x : Str} {py : Pos} (nd : X.N.Nodup) (hi : X.N[i]? = some x) (h : Rexp X C p W0 e ρ) (hs : swapsWith e (some (.Name x py)) pos.line X.env = pure false := by rfl) (hx : Loc X.env.scope x := by first | exact Or.inl rfl | exact Or.inr rfl) (hf : X.fn x = true ∨ X.env.scope.names.lookup x = some .local := by exact Or.inl rfl) : Rstm X C p W0 (.Assign [.Name x py] e pos) ρ :=
  fun σ W E le D pins s I => (ps_set nd hi hx (peW e) hs hf).run pins s σ W.h D I (h σ W E le _)
/-- raise C(part) -/
theorem rraise {fI : Addr} {fd : FuncData} {k : Nat} {x : Str} {p2 cpos : Pos} (hc : X.calm = true) (tk : TkE X C p W0) (oc : OexC X.K C) (ini : PySem.W.findIn X.K (.ref C) "__init__" = some (some (.ref fI))) (ty : PySem.W.typeIn X.K (.ref fI) = some (.type "function")) (hb : L2.Binds X.K fd ["self", "part"] [])
    (F : FnOk X.prog X.w X.K X.mg X.base CX0 k fI fd ["self", "part"] (spErr C)) (hr : Room (k + 1) X.A) (hm : X.mg x = some (.ref C)) (h : DE X e ρ (.str p)) (hg : Gl X x := by rfl) (hdb : (x == ("__debug__" : Str)) = false := by decide) (he : starEach [e] X.env = (false, eval e X.env) :: starEach [] X.env := by rfl)
    (hpl : (backTo cpos (starEach [] X.env)).any (·.1) = false := by rfl) : Rstm X C p W0 (.Raise (some (.Call (.Name x p2) [e] [] cpos)) none pos) ρ := fun σ W E le D pins s I => by
  obtain ⟨Eo, tk1, tk2⟩ := tk.ex
  refine (ps_raise hc tk1 (pmk_oex oc ini ty F hr hb .nil pass0 hg hm (pa_cons (peW e) pa_nil he) hdb he hpl)).run pins s σ W.h D I (h σ W E _ fun v W1 e1 r1 => ⟨by show (1 : Nat) ≤ 1000; decide, fun a ha => ?_⟩)
  cases (show v = .str p from r1)
  refine ⟨a, .str p, rfl, upd_same, fun dx hdx hne => ⟨rfl, dx, [("part", .str p)], upd_same, ?_, ?_, tk2 _ _ _ ?_⟩⟩
  · rw [upd_ne hne, upd_same]
  · rw [upd_ne hne] at hdx; exact hdx
  · have hd1 : W1.h dx = none := by rw [upd_ne hne] at hdx; exact hdx
    refine ⟨rfl, dx, W1.new dx (.xd [("part", .str p)]), rfl, ?_, le.trans (e1.trans (Le.new1 hd1)), Wd.at_⟩
    funext b
    show upd W1.h dx (.xd [("part", .str p)]) b = upd (del (upd (upd (upd W1.h a (exo a C none)) dx (exd dx [("part", .str p)])) a (exo a C (some dx))) a) dx (.xd [("part", .str p)]) b
    by_cases hb1 : b = dx
    · subst hb1
      rw [upd_same, upd_same]
    · rw [upd_ne hb1, upd_ne hb1]
      by_cases hb2 : b = a
      · subst hb2
        rw [del_same]
        exact ha
      · rw [del_ne hb2, upd_ne hb2, upd_ne hb1, upd_ne hb2]
end
/-- a promise: called with such arguments it raises C with part p -/
def spX (K : PySem.W.Frag) (C : Addr) (p : Str) (n : Nat) (S : List D → Prop) : Sp := fun vs H _ E => ∃ (W : Wd) (ds : List D), W.h = H ∧ ds.length = n ∧ RpL K W.s ds vs ∧ S ds ∧ ∀ cls d H', EXc C p W cls d H' → E cls d H'
structure OkX (P : Program) (w : World) (K : PySem.W.Frag) (mg : Str → Option Value) (base : Heap) (k : Nat) (x : Str) (n : Nat) (C : Addr) (p : Str) (S : List D → Prop) : Prop where
  ex : ∃ (f : Addr) (fd : FuncData) (ps : List Str), mg x = some (.ref f) ∧ PySem.W.keepIn K (.ref f) = true ∧ L2.Binds K fd ps [] ∧ ps.length = n ∧ FnOk P w K mg base (L2.CX P w) k f fd ps (spX K C p n S)
section
variable {P : Program} {w : World} {K : PySem.W.Frag} {mg : Str → Option Value} {base : Heap} {x qual : Str} {params : Arguments} {body : List Stmt} {scope : Scope} {f C : Addr} {p : Str} {fd : FuncData} {N ps : List Str} {k n : Nat} {S : List D → Prop}
theorem okX_of (F : FunD K x qual params body scope [] [] f fd) (hm : mg x = some (.ref f)) (Sc : FnScope N ps scope) (hn : ps.length = n)
    (hbind : ∀ (kV doc pm : Value) (an : Option Addr) (cdv ct : Value) (us : List Value), us.length = ps.length → bindArgs (PySem.W.fnOf x qual params body scope .none kV doc pm an cdv ct) ⟨us, []⟩ = pure (ps.zip us))
    (hbody : ∀ (cdv : Value) (A : Around) (outer : List Env) (s : Shared) (H : Hp) (ds : List D) (E : XK) (W0 : Wd), Room k (A.deeper (envOfC qual scope s.heap.objs.size f cdv)) → ds.length = n → S ds → TkE (cxOf (L2.CX P w) P w K mg base N qual scope f cdv A outer s H E) C p W0 →
      Rblk (cxOf (L2.CX P w) P w K mg base N qual scope f cdv A outer s H E) C p W0 body (ds.map some ++ List.replicate (N.length - ds.length) none)) : OkX P w K mg base (k + 1) x n C p S := by
  refine ⟨f, fd, ps, hm, F.kp, F.bindsN hbind, hn, F.ok Sc (fun vs H Q E ⟨W, ds, _, hl, r, _⟩ => by rw [r.length, hl, hn]) fun cdv A outer s H vs Q E hr ⟨W, ds, e, hl, r, hS, q⟩ => ?_⟩
  subst e
  have hN : ds.length ≤ N.length := by
    have h1 := congrArg List.length Sc.pre
    rw [List.length_take] at h1
    omega
  refine ⟨wB (cxOf (L2.CX P w) P w K mg base N qual scope f cdv A outer s W.h E) body, pbW body, ?_⟩
  exact hbody cdv A outer s W.h ds E W hr hl hS ⟨E, takes_of rfl rfl rfl rfl, q⟩ _ W (EnvD.start r hN) (Le.refl W) _
end
section
variable {X : Cx} {C : Addr} {p : Str} {W0 : Wd} {ρ : Rho} {e : Expr} {es : List Expr} {ds : List D} {pos p2 : Pos}
theorem rcall {k n : Nat} {S : List D → Prop} {x : Str} (F : OkX X.prog X.w X.K X.mg X.base k x n C p S) (hr : Room k X.A) (tk : TkE X C p W0) (ha : DA X (e :: es) ρ ds) (hS : S ds) (hn : ds.length = n := by rfl) (hg : Gl X x := by rfl)
    (hdb : (x == ("__debug__" : Str)) = false := by decide) (he : starEach (e :: es) X.env = (false, eval e X.env) :: starEach es X.env := by rfl) (hpl : (backTo pos (starEach es X.env)).any (·.1) = false := by rfl) : Rexp X C p W0 (.Call (.Name x p2) (e :: es) [] pos) ρ := fun σ W E le Q pins s I => by
  obtain ⟨f, fd, ps, hm, hk, hb, hl, ok⟩ := F.ex
  obtain ⟨Eo, tk1, tk2⟩ := tk.ex
  refine (pe_call (E := Eo) ok hr hg hm hk hb .nil (passes_call tk1 fun _ _ _ _ h => h) (paW (e :: es)) hdb he hpl).run pins s σ W.h Q I (ha σ W E _ fun vs W1 e1 r1 => ⟨W1, ds, rfl, hn, by rw [List.append_nil]; exact r1, hS, fun cls d H' h => tk2 _ _ _ (EXc.le (le.trans e1) h)⟩)
end
end K31
end
section
set_option maxHeartbeats 4000000
set_option autoImplicit false
/-! The walk: what refuses. -/
namespace K31
open PySem PySem.Spec PyProof.Rows L2
section
variable {P : Program} {w : World} {K : PySem.W.Frag} {mg : Str → Option Value} {base : Heap}
def X_need_integer (p : Str) (ds : List D) : Prop := ∃ (v : D) (t : String) (lo hi : Int), ds = [v, .str p, .int lo, .int hi] ∧ v.ty = some t ∧ withinD v (.int lo) (.int hi) = false
theorem okX_need_integer (T : TC P K mg) (p : Str) : OkX P w K mg base 3 "need_integer" 4 (He.ga K "BadNumber") p (X_need_integer p) := by
  obtain ⟨fd, F⟩ := T.f_need_integer
  refine okX_of (N := N_need_integer) (ps := ["value", "part", "least", "most"]) F T.g_need_integer sc_need_integer rfl (fun _ _ _ _ _ _ us hl => match us, hl with | [_, _, _, _], _ => rfl) fun cdv A outer s H ds E W0 hr hl hS tk => ?_
  obtain ⟨v, t, lo, hi, rfl, ht, hw⟩ := hS
  obtain ⟨fd2, hb2, ok2⟩ := ok_BadNumber_init (P := P) (w := w) (base := base) T
  refine rbR (rif_t (DT.is (dt_not (dt_val (dcall (ok_is_within T.toTB) (hr.mono (by decide)) (dacons (dv 0 rfl) (dacons (dv 2 rfl) (dacons (dv 3 rfl) danil))) ⟨_, _, _, _, rfl, ht, trivial, trivial, rfl⟩))) (by rw [hw]; rfl)) (rbR ?_))
  exact rraise rfl tk T.e_num.o T.e_num.ini T.e_num.tyi hb2 ok2 (hr.mono (by decide)) T.g_BadNumber (dv 1 rfl)
/-- what is no list of places, or an empty one -/
def X_places (ds : List D) : Prop := ∃ (X j : D), ds = [X, j] ∧ (ArePl X false ∨ (ArePl X true ∧ X.len = some 0))
theorem okX_need_joint1 (T : TC P K mg) : OkX P w K mg base 7 "need_joint" 2 (He.ga K "BadPlace") "places" X_places := by
  obtain ⟨fd, F⟩ := T.f_need_joint
  refine okX_of (N := N_need_joint) (ps := ["value", "joint"]) F T.g_need_joint sc_need_joint rfl (fun _ _ _ _ _ _ us hl => match us, hl with | [_, _], _ => rfl) fun cdv A outer s H ds E W0 hr hl hS tk => ?_
  obtain ⟨X, j, rfl, hX⟩ := hS
  obtain ⟨fd2, hb2, ok2⟩ := ok_BadPlace_init (P := P) (w := w) (base := base) T
  refine rbR (rif_t ?_ (rbR (rraise rfl tk T.e_place.o T.e_place.ini T.e_place.tyi hb2 ok2 (hr.mono (by decide)) T.g_BadPlace dstr)))
  rcases hX with h | ⟨h, h0⟩
  · exact dw_val (dw_or_t (DT.is (dt_not (dt_val (dcall (ok_are_places T.toTB) (hr.mono (by decide)) (dacons (dv 0 rfl) danil) ⟨_, _, rfl, h, rfl⟩))) rfl))
  · exact dw_val (dw_or_f (DT.is (dt_not (dt_val (dcall (ok_are_places T.toTB) (hr.mono (by decide)) (dacons (dv 0 rfl) danil) ⟨_, _, rfl, h, rfl⟩))) rfl) (dw_or1 (DT.is (dt_cmp ceqI (dlen T.b_len (dv 0 rfl) h0) dint) rfl)))
/-- places, and what is none of their joints -/
def X_joint (ds : List D) : Prop := ∃ (X j : D) (ps : List Pl) (t : String), ds = [X, j] ∧ Pls X ps ∧ j.ty = some t ∧ withinD j (.int 0) (.int ((ps.length : Int) - 1)) = false
theorem okX_need_joint2 (T : TC P K mg) : OkX P w K mg base 7 "need_joint" 2 (He.ga K "BadNumber") "joint" X_joint := by
  obtain ⟨fd, F⟩ := T.f_need_joint
  refine okX_of (N := N_need_joint) (ps := ["value", "joint"]) F T.g_need_joint sc_need_joint rfl (fun _ _ _ _ _ _ us hl => match us, hl with | [_, _], _ => rfl) fun cdv A outer s H ds E W0 hr hl hS tk => ?_
  obtain ⟨X, j, ps, t, rfl, hX, ht, hw⟩ := hS
  have hne : ps.length ≠ 0 := fun z => hX.ne (List.length_eq_zero_iff.mp z)
  refine rb1 (dif_f (dw_val (dw_or_f (DT.is (dt_not (dt_val (dcall (ok_are_places T.toTB) (hr.mono (by decide)) (dacons (dv 0 rfl) danil) ⟨_, _, rfl, hX.are, rfl⟩))) rfl) (dw_or1 (DT.is (dt_cmp ceqI (dlen T.b_len (dv 0 rfl) hX.len') dint) (decide_eq_false (by omega)))))) db0) ?_
  exact rbR (rexpr (rcall (okX_need_integer T "joint") (hr.mono (by decide)) tk (dacons (dv 1 rfl) (dacons dstr (dacons dint (dacons (dsub (dlen T.b_len (dv 0 rfl) hX.len') dint) danil)))) ⟨j, t, 0, _, rfl, ht, hw⟩))
section
variable {C : Addr} {p : Str} {S : List D → Prop}
theorem two_args {ds : List D} (hl : ds.length = 2) : ∃ a b, ds = [a, b] := match ds, hl with
  | [a, b], _ => ⟨a, b, rfl⟩
theorem okX_kin_of (T : TC P K mg) (NJ : OkX P w K mg base 7 "need_joint" 2 C p S) : OkX P w K mg base 8 "kin_of" 2 C p S := by
  obtain ⟨fd, F⟩ := T.f_kin_of
  refine okX_of (N := N_kin_of) (ps := ["places", "joint"]) F T.g_kin_of sc_kin_of rfl (fun _ _ _ _ _ _ us hl => match us, hl with | [_, _], _ => rfl) fun cdv A outer s H ds E W0 hr hl hS tk => ?_
  obtain ⟨a, b, rfl⟩ := two_args hl
  exact rbR (rset sc_kin_of.nd (i := 2) rfl (rcall NJ (hr.mono (by decide)) tk (dacons (dv 0 rfl) (dacons (dv 1 rfl) danil)) hS))
theorem okX_mirrored_aside (T : TC P K mg) (NJ : OkX P w K mg base 7 "need_joint" 2 C p S) : OkX P w K mg base 8 "mirrored_aside" 2 C p S := by
  obtain ⟨fd, F⟩ := T.f_mirrored_aside
  refine okX_of (N := N_mirrored_aside) (ps := ["places", "joint"]) F T.g_mirrored_aside sc_mirrored_aside rfl (fun _ _ _ _ _ _ us hl => match us, hl with | [_, _], _ => rfl) fun cdv A outer s H ds E W0 hr hl hS tk => ?_
  obtain ⟨a, b, rfl⟩ := two_args hl
  exact rbR (rset sc_mirrored_aside.nd (i := 2) rfl (rcall NJ (hr.mono (by decide)) tk (dacons (dv 0 rfl) (dacons (dv 1 rfl) danil)) hS))
theorem okX_turned_over (T : TC P K mg) (NJ : OkX P w K mg base 7 "need_joint" 2 C p S) : OkX P w K mg base 8 "turned_over" 2 C p S := by
  obtain ⟨fd, F⟩ := T.f_turned_over
  refine okX_of (N := N_turned_over) (ps := ["places", "joint"]) F T.g_turned_over sc_turned_over rfl (fun _ _ _ _ _ _ us hl => match us, hl with | [_, _], _ => rfl) fun cdv A outer s H ds E W0 hr hl hS tk => ?_
  obtain ⟨a, b, rfl⟩ := two_args hl
  exact rbR (rset sc_turned_over.nd (i := 2) rfl (rcall NJ (hr.mono (by decide)) tk (dacons (dv 0 rfl) (dacons (dv 1 rfl) danil)) hS))
end
end
end K31
end
section
set_option maxHeartbeats 8000000
set_option autoImplicit false
/-! Ways and shares, as the text writes them. -/
namespace K31
open PySem PySem.Spec PyProof.Rows L2
def asgE : Stmt → Expr
  | .Assign _ e _ => e
  | _ => .List [] ⟨0, 0, 0, 0⟩
def forB : Stmt → List Stmt
  | .For _ _ b _ _ => b
  | _ => []
def ifE : Stmt → List Stmt
  | .If _ _ e _ => e
  | _ => []
def tupN : Expr → Nat → Expr
  | .Tuple es _ _, i => es.getD i (.List [] ⟨0, 0, 0, 0⟩)
  | e, _ => e
def callN : Expr → Nat → Expr
  | .Call _ es _ _, i => es.getD i (.List [] ⟨0, 0, 0, 0⟩)
  | e, _ => e
def atS (b : List Stmt) (i : Nat) : Stmt := b.getD i (.Pass ⟨0, 0, 0, 0⟩)
def waysE : Expr := asgE (atS (defBody s__law_posed) 0)
/-- the share is drawn from -/
def shE : Expr := callN (tupN (asgE (atS (ifE (atS (ifE (atS (forB (atS (defBody s__law_posed) 3)) 3)) 0)) 0)) 2) 1
section
variable {X : Cx} {ρ : Rho}
theorem ways_de : DE X waysE ρ (.lst waysD) := DE.is (d1 := .lst [.tup [.int 1, .int 0], .tup [.int 0, .int 1], .tup [.int (-1), .int 0], .tup [.tup [.int 3, .int 5], .tup [.int 4, .int 5]], .tup [.tup [.int 5, .int 13], .tup [.int (-12), .int 13]], .tup [.tup [.int (-4), .int 5], .tup [.int 3, .int 5]]]) (dlst (dacons (dtup (dacons dint (dacons dint danil))) (dacons (dtup (dacons dint (dacons dint danil))) (dacons (dtup (dacons (dneg dint) (dacons dint danil))) (dacons (dtup (dacons (dtup (dacons dint (dacons dint danil))) (dacons (dtup (dacons dint (dacons dint danil))) danil))) (dacons (dtup (dacons (dtup (dacons dint (dacons dint danil))) (dacons (dtup (dacons (dneg dint) (dacons dint danil))) danil))) (dacons (dtup (dacons (dtup (dacons (dneg dint) (dacons dint danil))) (dacons (dtup (dacons dint (dacons dint danil))) danil))) danil))))))) ways_eq
theorem sh_de : DE X shE ρ (.lst (shQ.map numD)) := DE.is (d1 := .lst [.tup [.int 1, .int 2], .tup [.int 1, .int 4], .int (-1), .int 2, .tup [.int 1, .int 3], .int 0]) (dlst (dacons (dtup (dacons dint (dacons dint danil))) (dacons (dtup (dacons dint (dacons dint danil))) (dacons (dneg dint) (dacons dint (dacons (dtup (dacons dint (dacons dint danil))) (dacons dint danil))))))) sh_eq
end
end K31
end
section
set_option maxHeartbeats 8000000
set_option exponentiation.threshold 300
set_option autoImplicit false
/-! The walk: a pose is drawn. -/
namespace K31
open PySem PySem.Spec PyProof.Rows L2
section
variable {X : Cx} {ρ ρ' : Rho} {m : Mu} {R : D → Mu → Prop} {N : Rho → Mu → Prop} {ss : List Stmt}
theorem Wk.env {K : PySem.W.Frag} {H : Hp} {σ : L2.St} (h : Wk ρ ρ') (E : EnvD K H σ ρ) : EnvD K H σ ρ' := E.weak h.len.symm h.at_
theorem BM.wk (h : Wk ρ ρ') (hb : BM X ss ρ' m R N) : BM X ss ρ m R N := fun σ W E M D o => hb σ W (h.env E) M D o
theorem bm0k (h : Wk ρ ρ') (hN : N ρ' m) : BM X [] ρ m R N := .wk h (bm0 hN)
end
theorem atI_map {ps : List Pl} {j : Nat} {p : Pl} (h : ps[j]? = some p) : atI (ps.map plD) (j : Int) = some (plD p) := atI_nat (by rw [List.getElem?_map, h]; rfl)
/-- all that a turn may change -/
def poseM (a pl pi ba be : Addr) (cs : List Int) (t l : Int) (ps : List Pl) (pins : List PinE) (bars : List BarE) (beads : List BeadE) : Mu :=
  [(a, PR cs t l), (pl, .lst (ps.map plD)), (pi, pinsM pins), (ba, barsM bars), (be, beadsM beads)]
def F__law_posed (ds : List D) (m : Mu) (S : D → Mu → Prop) : Prop := ∃ (a : Addr) (cs : List Int) (t l : Int), ds = [.fn a] ∧ m = [(a, PR cs t l)] ∧ 0 ≤ t ∧ t + 200 < capT ∧
  ∀ (x0 y0 : Rat) (i : Nat) (ps : List Pl) (pins : List PinE) (bars : List BarE) (beads : List BeadE) (t' l' : Int), smallQ x0 → smallQ y0 → i ≤ 6 → Pose x0 y0 i ps pins bars beads → 0 ≤ t' → t' ≤ t + 200 →
    S (.lst [.lst (ps.map plD), frzD (pinsM pins), frzD (barsM bars), frzD (beadsM beads)]) [(a, PR cs t' l')]
def ifB : Stmt → List Stmt
  | .If _ b _ _ => b
  | _ => []
def bodyT : List Stmt := forB (atS (defBody s__law_posed) 3)
abbrev N__law_posed : List Str := ["_law_prow_here", "_law_ways", "_law_places", "_law_pins", "_law_bars", "_law_beads", "_law_turn", "_law_way_here", "_law_base", "_law_joint", "_law_one", "_law_other", "_law_gap", "_law_wide", "_law_by", "_law_mine", "_law_its", "_law_mark", "_law_share", "_law_spot"]
theorem sc__law_posed : FnScope N__law_posed ["_law_prow_here"] (defScope s__law_posed) := ⟨rfl, rfl, rfl, by decide +kernel, rfl, by decide +kernel, by decide +kernel⟩
/-- the slots at a turn's start, behind its place -/
def R0 (a pl pi ba be : Addr) : Rho := [some (.fn a), some (.lst waysD), some (.fn pl), some (.fn pi), some (.fn ba), some (.fn be), none, none, none, none, none, none, none, none, none, none, none, none, none, none]
def RT (a pl pi ba be : Addr) (j : Int) : Rho := [some (.fn a), some (.lst waysD), some (.fn pl), some (.fn pi), some (.fn ba), some (.fn be), none, none, none, some (.int j), none, none, none, none, none, none, none, none, none, none]
/-- what holds at a turn's start -/
def IvP (x0 y0 : Rat) (a pl pi ba be : Addr) (cs : List Int) (T0 : Int) (i : Nat) (ρ : Rho) (m : Mu) : Prop := ρ = R0 a pl pi ba be ∧ ∃ (t l : Int) (ps : List Pl) (pins : List PinE) (bars : List BarE) (beads : List BeadE), m = poseM a pl pi ba be cs t l ps pins bars beads ∧ Pose x0 y0 i ps pins bars beads ∧ 0 ≤ t ∧ t ≤ T0 + 12 * i
section
variable {P : Program} {w : World} {K : PySem.W.Frag} {mg : Str → Option Value} {base : Heap} {cdv : Value} {A : Around} {outer : List Env} {s : Shared} {H : Hp} {E : XK}
abbrev XPo (P : Program) (w : World) (K : PySem.W.Frag) (mg : Str → Option Value) (base : Heap) (cdv : Value) (A : Around) (outer : List Env) (s : Shared) (H : Hp) (E : XK) : Cx := (cxOf CX0 P w K mg base N__law_posed "_law_posed" (defScope s__law_posed) (He.ga K "_law_posed") cdv A outer s H E).nox
variable {x0 y0 : Rat} {a pl pi ba be : Addr} {cs : List Int} {T0 t l : Int} {i : Nat} {ps : List Pl} {pins : List PinE} {bars : List BarE} {beads : List BeadE} {R : D → Mu → Prop}
/-- the new place may be pinned -/
theorem pose_tail (T : TB K mg) (hr : Room 6 (XPo P w K mg base cdv A outer s H E).A) (hP : Pose x0 y0 (i + 1) ps pins bars beads) (hn : ∀ e ∈ pins, e.1 < i + 1) (hl : pins.length ≤ i + 1) (h0 : 0 ≤ t) (h1 : t ≤ T0 + 12 * i + 11) (hcap : T0 + 100 < capT) (hi : i < 6) :
    BM (XPo P w K mg base cdv A outer s H E) [atS bodyT 4] (RT a pl pi ba be ((i + 1 : Nat) : Int)) (poseM a pl pi ba be cs t l ps pins bars beads) R (IvP x0 y0 a pl pi ba be cs T0 (i + 1)) := by
  have hu := hr.units
  have hr1 : Room 1 _ := hr.mono (by decide)
  unfold capT at hcap
  obtain ⟨p, hp⟩ : ∃ p, ps[i + 1]? = some p := ⟨_, List.getElem?_eq_getElem (by rw [hP.len]; omega)⟩
  have hat := atI_map hp
  have hmem : (pl, MO.lst (ps.map plD)) ∈ poseM a pl pi ba be cs t l ps pins bars beads := List.mem_cons_of_mem _ (List.mem_cons_self ..)
  have wk : Wk (RT a pl pi ba be ((i + 1 : Nat) : Int)) (R0 a pl pi ba be) := ⟨.inr rfl, .inr rfl, .inr rfl, .inr rfl, .inr rfl, .inr rfl, .inl rfl, .inl rfl, .inl rfl, .inl rfl, .inl rfl, .inl rfl, .inl rfl, .inl rfl, .inl rfl, .inl rfl, .inl rfl, .inl rfl, .inl rfl, .inl rfl, trivial⟩
  refine bm1 (sm_if (tm_w (wm_and (.cmp (em_ix (em_ixM (dv 2 rfl) (dv 9 rfl) hmem hat (em dint ⟨_, _, _, rfl, rfl, rfl, em dint ⟨_, ceqN hu, fun hz => ?_, fun _ => ⟨(nomatch ·), fun _ => bm0 (bm0k wk ⟨rfl, t, l, ps, pins, bars, beads, rfl, hP, h0, by push_cast; omega⟩)⟩⟩⟩)))))))
  have hr0 : p.r = 0 := by
    have := of_decide_eq_true hz
    rw [Rat.intCast_zero] at this
    exact this
  refine wm_and1 (.cmp (em_mast (okM__law_mast T) hr1 (dv 0 rfl) dint (by decide) (by decide) h0 (by unfold capT; omega) fun k t1 l1 hk h2 h3 => ?_))
  refine em dint ⟨_, ceqI, fun hz2 => ?_, fun _ => bm0 (bm0k wk ⟨rfl, t1, l1, ps, pins, bars, beads, rfl, hP, h2, by push_cast; omega⟩)⟩
  have hmem1 : (pl, MO.lst (ps.map plD)) ∈ poseM a pl pi ba be cs t1 l1 ps pins bars beads := List.mem_cons_of_mem _ (List.mem_cons_self ..)
  refine bm1 (sm_dputK (p := pi) (by have := hu; omega) (dv 3 rfl) (dv 9 rfl) (em_ix (em_ixM (dv 2 rfl) (dv 9 rfl) hmem1 hat (em dint ⟨_, _, _, rfl, rfl, rfl, ?_⟩))))
  refine ⟨[(a, PR cs t1 l1), (pl, .lst (ps.map plD))], [(ba, barsM bars), (be, beadsM beads)], _, _, rfl, ?_, ?_, bm0 (bm0k wk ⟨rfl, t1, l1, ps, pins ++ [(i + 1, p.x, p.y)], bars, beads, ?_, hP.pin hp hr0 hn hl, h2, by push_cast; omega⟩)⟩
  · intro hin
    obtain ⟨e, he, e2⟩ := List.mem_map.mp hin
    have := hn e he
    omega
  · rw [List.length_map]; omega
  · unfold poseM pinsM
    rw [List.map_append, List.map_append]
    rfl
def RB (a pl pi ba be : Addr) (i : Nat) (k : Nat) (ps : List Pl) (jo je : Nat) (g w : Rat) : Rho := [some (.fn a), some (.lst waysD), some (.fn pl), some (.fn pi), some (.fn ba), some (.fn be), some (.int (i : Int)), some (.int (k : Int)), some (.lst (baseD ps)), some (.int ((i + 1 : Nat) : Int)), some (.int (jo : Int)), some (.int (je : Int)), some (numD g), some (numD w), none, none, none, none, none, none]
theorem more_bars (es : List BarE) (e : BarE) : barsM (es ++ [e]) = .dT ((es.map fun e => [(e.1 : Int), (e.2.1 : Int)]) ++ [[(e.1 : Int), (e.2.1 : Int)]]) ((es.map fun e => numD e.2.2) ++ [numD e.2.2]) := by unfold barsM; rw [List.map_append, List.map_append]; rfl
theorem more_beads (es : List BeadE) (e : BeadE) : beadsM (es ++ [e]) = .dT ((es.map fun e => [(e.1 : Int), (e.2.1 : Int), (e.2.2.1 : Int)]) ++ [[(e.1 : Int), (e.2.1 : Int), (e.2.2.1 : Int)]]) ((es.map fun e => numD e.2.2.2) ++ [numD e.2.2.2]) := by unfold beadsM; rw [List.map_append, List.map_append]; rfl
theorem bars_new {ps : List Pl} {bars : List BarE} {jo n : Nat} (hb : ∀ e ∈ bars, BarOk ps e) (hn : ps.length = n) : [(jo : Int), (n : Int)] ∉ bars.map fun e => [(e.1 : Int), (e.2.1 : Int)] := fun h => by
  obtain ⟨e, he, e2⟩ := List.mem_map.mp h
  have := (hb e he).lt
  injection e2 with _ e3
  injection e3 with e3 _
  omega
/-- a gap drawn: one to twelve over one to four -/
structure Gap (g : Rat) : Prop where
  ex : ∃ g1 g2 : Nat, g * (g2 : Rat) = (g1 : Rat) ∧ g1 ≤ 12 ∧ 1 ≤ g2 ∧ g2 ≤ 4
  bd : Bd 4 3 g
  pos : 0 < g
/-- a rod's end -/
theorem pose_rod {k jo je : Nat} {g w2 : Rat} {p : Pl} (T : TB K mg) (hr : Room 6 (XPo P w K mg base cdv A outer s H E).A) (hx : smallQ x0) (hy : smallQ y0) (hP : Pose x0 y0 i ps pins bars beads) (h0 : 0 ≤ t) (h1 : t ≤ T0 + 12 * i + 9) (hcap : T0 + 100 < capT) (hi : i < 6) (hp : ps[jo]? = some p) (hr0 : p.r = 0) (hg : Gap g) :
    BM (XPo P w K mg base cdv A outer s H E) (ifB (atS bodyT 3)) (RB a pl pi ba be i k ps jo je g w2) (poseM a pl pi ba be cs t l ps pins bars beads) R fun ρ1 m1 => BM (XPo P w K mg base cdv A outer s H E) [atS bodyT 4] ρ1 m1 R (IvP x0 y0 a pl pi ba be cs T0 (i + 1)) := by
  have hu := hr.units
  have hmp : p ∈ ps := List.mem_of_getElem? hp
  have sp := hP.sz hx hy (by omega) hmp
  have hjo : jo < ps.length := (List.getElem?_eq_some_iff.mp hp).1
  obtain ⟨u1, u2, u3, _⟩ := q_step hi
  obtain ⟨g1, g2, eg, hg1, hg2, hg4⟩ := hg.ex
  refine bm1 (sm_set (i := 14) sc__law_posed.nd rfl (em_callM (okM__law_pick T) (hr.mono (by decide)) (am1 (em (dv 0 rfl) (am1 (em (dv 1 rfl) (am0 ⟨rfl, a, cs, t, l, _, waysD, rfl, rfl, by decide, by decide, h0, by unfold capT at *; omega, fun k2 t1 l1 d hk h2 h3 => ?_⟩)))))))
  obtain ⟨v, hv, rfl⟩ : ∃ v ∈ wayQ, d = ptD v.1 v.2 := by
    have hm := List.mem_of_getElem? hk
    obtain ⟨v, hv, e⟩ := List.mem_map.mp hm
    exact ⟨v, hv, e.symm⟩
  obtain ⟨dd, c1, c2, e1, e2, d1, d13, b1, b2, unit⟩ := way_in hv
  have bv1 : Bd 4 4 v.1 := bd_of e1 (by omega) (by unfold Lt2; have : (2 : Nat) ^ 4 = 16 := by decide
                                                   omega) (by unfold Lt2; have : (2 : Nat) ^ 4 = 16 := by decide
                                                              omega)
  have bv2 : Bd 4 4 v.2 := bd_of e2 (by omega) (by unfold Lt2; have : (2 : Nat) ^ 4 = 16 := by decide
                                                   omega) (by unfold Lt2; have : (2 : Nat) ^ 4 = 16 := by decide
                                                              omega)
  have m1 := hg.bd.mul bv1
  have m2 := hg.bd.mul bv2
  have ax : Bd 1810 1810 (p.x + g * v.1) := (sp.x.add m1 (m := 608) (by decide) (by decide)).up (by decide) (by decide)
  have ay : Bd 1810 1810 (p.y + g * v.2) := (sp.y.add m2 (m := 608) (by decide) (by decide)).up (by decide) (by decide)
  have lat : Lat x0 y0 (Rq (i + 1)) (Bq (i + 1)) (Gq (i + 1)) _ := hP.lat.rod hmp eg e1 e2 hg1 hg2 hg4 d1 d13 b1 b2 u1 u2 (by omega)
  have hmem : (pl, MO.lst (ps.map plD)) ∈ poseM a pl pi ba be cs t1 l1 ps pins bars beads := List.mem_cons_of_mem _ (List.mem_cons_self ..)
  have hat := atI_map hp
  refine bm1 (sm_append (p := pl) (dv 2 rfl) ⟨_, hmem⟩ (em_call (ok__law_form T) (hr.mono (by decide)) (am1 (em_lc (own := [("_law_mine", 15), ("_law_its", 16)]) (q2 fun x c => x + g * c) rfl sc__law_posed.nd (diZTm (ds := [numD p.x, numD p.y]) (ds2 := [numD v.1, numD v.2]) T.b_zip (em_ix (em_ixM (dv 2 rfl) (dv 10 rfl) hmem hat (em dint ⟨_, _, _, rfl, rfl, rfl, rfl, rfl⟩))) (dv 14 rfl)) (blkOk_by (N := N__law_posed) (sc := defScope s__law_posed) (by decide +kernel)) (pgP (i := 15) (j := 16) rfl sc__law_posed.nd rfl rfl) (by simp [zipD]) (fun q => in2 ⟨_, bcP (by decide), fun _ _ _ _ _ => ?_⟩ ⟨_, bcP (by decide), fun _ _ _ _ _ => ?_⟩) ?_))))
  · exact em (dcall (ok__law_plus T) (hr.mono (by decide)) (dacons (dv 15 rfl) (dacons (dcall (ok__law_times T) (hr.mono (by decide)) (dacons (dv 12 rfl) (dacons (dv 16 rfl) danil)) ⟨_, _, rfl, hg.bd.pr bv1, rfl⟩) danil)) ⟨_, _, rfl, sp.x.pr m1, rfl⟩) ⟨(q2_num (fun x c => x + g * c) p.x v.1).symm, rfl⟩
  · exact em (dcall (ok__law_plus T) (hr.mono (by decide)) (dacons (dv 15 rfl) (dacons (dcall (ok__law_times T) (hr.mono (by decide)) (dacons (dv 12 rfl) (dacons (dv 16 rfl) danil)) ⟨_, _, rfl, hg.bd.pr bv2, rfl⟩) danil)) ⟨_, _, rfl, sp.y.pr m2, rfl⟩) ⟨(q2_num (fun x c => x + g * c) p.y v.2).symm, rfl⟩
  have e5 : D.lst ((zipD [numD p.x, numD p.y] [numD v.1, numD v.2]).map (q2 fun x c => x + g * c)) = ltD (p.x + g * v.1) (p.y + g * v.2) := by
    show D.lst [q2 _ _, q2 _ _] = _
    rw [q2_num, q2_num]; rfl
  rw [e5]
  have bz : Bd 1760 1760 (0 : Rat) := Bd.zero.up (by decide) (by decide)
  have bz2 : Bd 2700 1768 (0 : Rat) := Bd.zero.up (by decide) (by decide)
  refine am1 (em (dtup (dacons dint (dacons dint danil))) (am1 (em dint (am0 ⟨_, rfl, ⟨p.x + g * v.1, p.y + g * v.2, 0, 0, 0, _, by rw [numD_zero], .inr ⟨rfl, rfl, rfl⟩, FormOk.of ax ay bz2 bz2 (by decide) bz, rfl⟩, [(a, PR cs t1 l1)], [(pi, pinsM pins), (ba, barsM bars), (be, beadsM beads)], _, rfl, by rw [List.length_map, hP.len]; omega, ?_⟩))))
  rw [formQ_zero]
  have el : ps.length = i + 1 := hP.len
  refine bm1 (sm_dputT (p := ba) (k := [(jo : Int), ((i + 1 : Nat) : Int)]) (by have := hu; omega) (dv 4 rfl) (dacons (dv 10 rfl) (dacons (dv 9 rfl) danil)) (by simp) (em (dv 12 rfl) ⟨[(a, PR cs t1 l1), (pl, .lst (ps.map plD ++ [plD ⟨p.x + g * v.1, p.y + g * v.2, 0, 0, 0⟩])), (pi, pinsM pins)], [(be, beadsM beads)], _, _, rfl, bars_new hP.br hP.len, by rw [List.length_map]; have := hP.ln; omega, ?_⟩))
  have hP' : Pose x0 y0 (i + 1) (ps ++ [⟨p.x + g * v.1, p.y + g * v.2, 0, 0, 0⟩]) pins (bars ++ [(jo, i + 1, g)]) (beads ++ []) := hP.more (nb := [(jo, i + 1, g)]) (nd := []) lat (PlOk.pt _ _) (fun e he => by
    rcases List.mem_cons.mp he with rfl | z
    · refine ⟨⟨p, _, get_snoc hp, hr0, by show _ = _; rw [← el]; exact get_last, by show jo < i + 1; omega, ?_, hg.pos, hg.bd.up (by decide) (by decide)⟩, el.symm⟩
      show sqQ p.x p.y (ptPl (p.x + g * v.1) (p.y + g * v.2)) = some (g * g)
      rw [sq_pt]
      congr 1
      grind
    · cases z) (fun e he => nomatch he) (by simp) (by simp) (by simp) (by simp)
  rw [List.append_nil] at hP'
  refine bm0 (.wk (ρ' := RT a pl pi ba be ((i + 1 : Nat) : Int)) ⟨.inr rfl, .inr rfl, .inr rfl, .inr rfl, .inr rfl, .inr rfl, .inl rfl, .inl rfl, .inl rfl, .inr rfl, .inl rfl, .inl rfl, .inl rfl, .inl rfl, .inl rfl, .inl rfl, .inl rfl, .inl rfl, .inl rfl, .inl rfl, trivial⟩ ?_)
  have fin := pose_tail (P := P) (w := w) (base := base) (cdv := cdv) (A := A) (outer := outer) (s := s) (H := H) (E := E) (a := a) (pl := pl) (pi := pi) (ba := ba) (be := be) (cs := cs) (l := l1) (R := R) T hr hP' (fun e he => by have := (hP.pn e he).lt; omega) (by have := hP.ln; omega) h2 (by omega) hcap hi
  unfold poseM at fin
  rw [more_bars, List.map_append] at fin
  exact fin
end
end K31
end
section
set_option maxHeartbeats 8000000
set_option autoImplicit false
/-! The walk: a turn's place over two points; a turn's bead. -/
namespace K31
open PySem PySem.Spec PyProof.Rows L2
theorem wkB {a pl pi ba be : Addr} {i k : Nat} {ps : List Pl} {jo je : Nat} {g w : Rat} : Wk (RB a pl pi ba be i k ps jo je g w) (RT a pl pi ba be ((i + 1 : Nat) : Int)) := ⟨.inr rfl, .inr rfl, .inr rfl, .inr rfl, .inr rfl, .inr rfl, .inl rfl, .inl rfl, .inl rfl, .inr rfl, .inl rfl, .inl rfl, .inl rfl, .inl rfl, .inl rfl, .inl rfl, .inl rfl, .inl rfl, .inl rfl, .inl rfl, trivial⟩
section
variable {P : Program} {w : World} {K : PySem.W.Frag} {mg : Str → Option Value} {base : Heap} {cdv : Value} {A : Around} {outer : List Env} {s : Shared} {H : Hp} {E : XK}
variable {x0 y0 : Rat} {a pl pi ba be : Addr} {cs : List Int} {T0 t l : Int} {i : Nat} {ps : List Pl} {pins : List PinE} {bars : List BarE} {beads : List BeadE} {R : D → Mu → Prop}
/-- the bars as far as the loop has come -/
def twoB (jo je n : Nat) (len : Rat) (j : Nat) : List BarE := [(jo, n, len), (je, n, len)].take j
theorem pose_over {k jo je : Nat} {g w2 : Rat} {p q : Pl} (T : TB K mg) (hr : Room 6 (XPo P w K mg base cdv A outer s H E).A) (hx : smallQ x0) (hy : smallQ y0) (hP : Pose x0 y0 i ps pins bars beads) (h0 : 0 ≤ t) (h1 : t ≤ T0 + 12 * i + 9) (hcap : T0 + 100 < capT) (hi : i < 6) (hp : ps[jo]? = some p) (hq : ps[je]? = some q) (hr0 : p.r = 0) (hq0 : q.r = 0) (hg : Gap g)
    (hw : w2 = (q.x - p.x) * (q.x - p.x) + (q.y - p.y) * (q.y - p.y)) (hne : w2 ≠ 0) :
    BM (XPo P w K mg base cdv A outer s H E) (ifB (atS (ifE (atS bodyT 3)) 0)) (RB a pl pi ba be i k ps jo je g w2) (poseM a pl pi ba be cs t l ps pins bars beads) R fun ρ1 m1 => BM (XPo P w K mg base cdv A outer s H E) [atS bodyT 4] ρ1 m1 R (IvP x0 y0 a pl pi ba be cs T0 (i + 1)) := by
  have hu := hr.units
  have hmp : p ∈ ps := List.mem_of_getElem? hp
  have hmq : q ∈ ps := List.mem_of_getElem? hq
  have sp := hP.sz hx hy (by omega) hmp
  have sq := hP.sz hx hy (by omega) hmq
  have hjo : jo < ps.length := (List.getElem?_eq_some_iff.mp hp).1
  have hje : je < ps.length := (List.getElem?_eq_some_iff.mp hq).1
  have el : ps.length = i + 1 := hP.len
  have hjj : jo ≠ je := fun e => by
    subst e
    rw [hp] at hq
    cases hq
    exact hne (by rw [hw]; grind)
  obtain ⟨u1, u2, u3, u4, u5, u6, u7, u8, u9, u10⟩ := q_step hi
  obtain ⟨g1, g2, eg, hg1, hg2, hg4⟩ := hg.ex
  have w0 : 0 < w2 := by
    refine Rat.lt_of_le_of_ne ?_ (fun z => hne z.symm)
    rw [hw]
    have s1 : ∀ z : Rat, 0 ≤ z * z := fun z => by
      rcases Rat.le_total (a := 0) (b := z) with q | q
      · exact Rat.mul_nonneg q q
      · have := Rat.mul_nonneg (show 0 ≤ -z by grind) (show 0 ≤ -z by grind)
        grind
    have := s1 (q.x - p.x)
    have := s1 (q.y - p.y)
    grind
  obtain ⟨ov, bl⟩ := hP.lat.ovOk hx hy u8 u9 u10 hmp hmq (hP.ok p hmp) (hP.ok q hmq) hw w0 eg hg1 hg2 hg4 hg.bd
  have lat : Lat x0 y0 (Rq (i + 1)) (Bq (i + 1)) (Gq (i + 1)) (ps ++ [overQ p.x p.y q.x q.y w2 g]) := hP.lat.over hmp hmq hw w0 eg hg1 hg2 hg4 u5 u4 u6 u7
  have rp : 0 < overR w2 g := by
    obtain ⟨N, S, hN, hS, u, s, hz⟩ := hP.lat.ex
    obtain ⟨_, _, _, _, _, _, O⟩ := ovN hN (hz p hmp) (hz q hmq) hw w0 eg hg1 hg2
    exact O.rp
  obtain ⟨sq1, sq2⟩ := over_sq (x := p.x) (y := p.y) (u := q.x) (v := q.y) hw w0 rp
  have lp : 0 < lenQ w2 g := lenQ_pos hg.pos
  have ot : PlOk (overQ p.x p.y q.x q.y w2 g) := formQ_ok (Rat.le_of_lt rp)
  obtain ⟨m1, m2, m3⟩ := q_max (i := i + 1) (by omega)
  have st : PlSz (overQ p.x p.y q.x q.y w2 g) := lat.sz hx hy m1 m2 m3 (by simp) ot
  generalize htp : overQ p.x p.y q.x q.y w2 g = tp at lat sq1 sq2 ot st
  generalize hlen : lenQ w2 g = len at sq1 sq2 lp bl
  have hmem : (pl, MO.lst (ps.map plD)) ∈ poseM a pl pi ba be cs t l ps pins bars beads := List.mem_cons_of_mem _ (List.mem_cons_self ..)
  have gp : (ps ++ [tp])[jo]? = some p := get_snoc hp
  have gq : (ps ++ [tp])[je]? = some q := get_snoc hq
  have gt : (ps ++ [tp])[i + 1]? = some tp := by rw [← el]; exact get_last
  have barOk : ∀ {z : Pl} {jz : Nat}, (ps ++ [tp])[jz]? = some z → z.r = 0 → jz < i + 1 → sqQ z.x z.y tp = some (len * len) → BarOk (ps ++ [tp]) (jz, i + 1, len) := fun h1 h2 h3 h4 => ⟨_, tp, h1, h2, gt, h3, h4, lp, bl.up (by decide) (by decide)⟩
  have ok1 := barOk gp hr0 (by omega) sq1
  have ok2 := barOk gq hq0 (by omega) sq2
  have key : ∀ (j : Nat) (z : Pl) (jz : Nat), (ps ++ [tp])[jz]? = some z → z.r = 0 → sqQ z.x z.y tp = some (len * len) → z ∈ ps → [(jz : Int), ((i + 1 : Nat) : Int)] ∉ ((bars ++ twoB jo je (i + 1) len j).map fun e => [(e.1 : Int), (e.2.1 : Int)]) → twoB jo je (i + 1) len (j + 1) = twoB jo je (i + 1) len j ++ [(jz, i + 1, len)] →
      BM (XPo P w K mg base cdv A outer s H E) (forB (atS (ifB (atS (ifE (atS bodyT 3)) 0)) 1)) ((RB a pl pi ba be i k ps jo je g w2).set 17 (some (.int (jz : Int)))) (poseM a pl pi ba be cs t l (ps ++ [tp]) pins (bars ++ twoB jo je (i + 1) len j) beads) R fun ρ m => ρ = RB a pl pi ba be i k ps jo je g w2 ∧ m = poseM a pl pi ba be cs t l (ps ++ [tp]) pins (bars ++ twoB jo je (i + 1) len (j + 1)) beads := by
    intro j z jz gz hz0 hsq hzm hnew htwo
    have sz := hP.sz hx hy (by omega) hzm
    have ez := (hP.ok z hzm).eq_pt hz0
    have hmem2 : (pl, MO.lst ((ps ++ [tp]).map plD)) ∈ poseM a pl pi ba be cs t l (ps ++ [tp]) pins (bars ++ twoB jo je (i + 1) len j) beads := List.mem_cons_of_mem _ (List.mem_cons_self ..)
    have hll : (twoB jo je (i + 1) len j).length ≤ 2 := by unfold twoB; rw [List.length_take]; exact Nat.min_le_right _ _
    refine bm1 (sm_dputT (p := ba) (k := [(jz : Int), ((i + 1 : Nat) : Int)]) (by have := hu; omega) (dv 4 rfl) (dacons (dv 17 rfl) (dacons (dv 9 rfl) danil)) (by simp) (em_call (ok__law_root T) (hr.mono (by decide)) (am1 (em_call (ok__law_square T) (hr.mono (by decide)) (am1 (em_ixM (dv 2 rfl) (dv 17 rfl) hmem2 (atI_map gz) ?_))))))
    refine am1 (em_ixM (dv 2 rfl) (dv 9 rfl) hmem2 (atI_map gt) (am0 ⟨numD (len * len), rfl, ⟨z.x, z.y, tp, by rw [← ez], sz.x, sz.y, ot, st, by rw [hsq]; rfl⟩, am0 ⟨numD len, rfl, ⟨len * len, rfl, Rat.mul_nonneg (Rat.le_of_lt lp) (Rat.le_of_lt lp), (bl.mul bl).n.up (by decide), (bl.mul bl).d.up (by decide), by rw [rootQ_sq (Rat.le_of_lt lp)]; rfl⟩, ?_⟩⟩))
    refine ⟨[(a, PR cs t l), (pl, .lst ((ps ++ [tp]).map plD)), (pi, pinsM pins)], [(be, beadsM beads)], _, _, rfl, hnew, ?_, bm0k (ρ' := RB a pl pi ba be i k ps jo je g w2) ⟨.inr rfl, .inr rfl, .inr rfl, .inr rfl, .inr rfl, .inr rfl, .inr rfl, .inr rfl, .inr rfl, .inr rfl, .inr rfl, .inr rfl, .inr rfl, .inr rfl, .inl rfl, .inl rfl, .inl rfl, .inl rfl, .inl rfl, .inl rfl, trivial⟩ ⟨rfl, ?_⟩⟩
    · rw [List.length_map, List.length_append]
      have := hP.ln
      omega
    · unfold poseM
      rw [htwo, ← List.append_assoc, more_bars]
      rfl
  have fin : BM (XPo P w K mg base cdv A outer s H E) [atS bodyT 4] (RB a pl pi ba be i k ps jo je g w2) (poseM a pl pi ba be cs t l (ps ++ [tp]) pins (bars ++ twoB jo je (i + 1) len 2) beads) R (IvP x0 y0 a pl pi ba be cs T0 (i + 1)) := by
    have hP' : Pose x0 y0 (i + 1) (ps ++ [tp]) pins (bars ++ twoB jo je (i + 1) len 2) (beads ++ []) := hP.more (nb := twoB jo je (i + 1) len 2) (nd := []) lat ot (fun e he => by
      rcases List.mem_cons.mp he with rfl | z
      · exact ⟨ok1, el.symm⟩
      · rcases List.mem_cons.mp z with rfl | z
        · exact ⟨ok2, el.symm⟩
        · cases z) (fun e he => nomatch he) (by simp [twoB]; exact hjj) (by simp) (by simp [twoB]) (by simp)
    rw [List.append_nil] at hP'
    exact .wk wkB (pose_tail T hr hP' (fun e he => by have := (hP.pn e he).lt; omega) (by have := hP.ln; omega) h0 (by omega) hcap hi)
  have hmem : (pl, MO.lst (ps.map plD)) ∈ poseM a pl pi ba be cs t l ps pins bars beads := List.mem_cons_of_mem _ (List.mem_cons_self ..)
  refine bm1 (sm_append (p := pl) (dv 2 rfl) ⟨_, hmem⟩ (em_call (ok__law_over T) (hr.mono (by decide)) (am1 (em_ix (em_ixM (dv 2 rfl) (dv 10 rfl) hmem (atI_map hp) (em dint ⟨_, _, _, rfl, rfl, rfl, ?_⟩))))))
  refine am1 (em_ix (em_ixM (dv 2 rfl) (dv 11 rfl) hmem (atI_map hq) (em dint ⟨_, _, _, rfl, rfl, rfl, ?_⟩)))
  refine am1 (em (dv 13 rfl) (am1 (em (dv 12 rfl) (am0 ⟨plD tp, rfl, ⟨p.x, p.y, q.x, q.y, w2, g, rfl, ov, by rw [htp]⟩, [(a, PR cs t l)], [(pi, pinsM pins), (ba, barsM bars), (be, beadsM beads)], _, rfl, by rw [List.length_map, hP.len]; omega, ?_⟩))))
  refine bm1 (sm_forT (fun j ρ m => ρ = RB a pl pi ba be i k ps jo je g w2 ∧ m = poseM a pl pi ba be cs t l (ps ++ [tp]) pins (bars ++ twoB jo je (i + 1) len j) beads) PassesOwn.never rfl (items := [.int jo, .int je]) (dtup (dacons (dv 10 rfl) (dacons (dv 11 rfl) danil)) (by simp)) ⟨rfl, ?_⟩ ?_ ?_)
  · unfold poseM twoB
    rw [List.take_zero, List.append_nil, List.map_append]; rfl
  · rintro j d ρ1 m2 hd ⟨rfl, rfl⟩
    match j, hd with
    | 0, hd =>
      cases hd
      refine ⟨_, dgN (i := 17) sc__law_posed.nd rfl, key 0 p jo gp hr0 sq1 hmp ?_ rfl⟩
      rw [show bars ++ twoB jo je (i + 1) len 0 = bars from List.append_nil _]
      exact bars_new hP.br hP.len
    | 1, hd =>
      cases hd
      refine ⟨_, dgN (i := 17) sc__law_posed.nd rfl, key 1 q je gq hq0 sq2 hmq ?_ rfl⟩
      rw [List.map_append, List.mem_append]
      rintro (h | h)
      · exact bars_new hP.br hP.len h
      · have h' : [(je : Int), ((i + 1 : Nat) : Int)] = [(jo : Int), ((i + 1 : Nat) : Int)] := by simpa [twoB] using h
        injection h' with h'
        omega
  · rintro ρ1 m2 ⟨rfl, rfl⟩
    exact bm0 fin
end
end K31
end
section
set_option maxHeartbeats 8000000
set_option autoImplicit false
/-! The walk: a turn's bead; a turn; a pose. -/
namespace K31
open PySem PySem.Spec PyProof.Rows L2
theorem optPl_isNon (o : Option Pl) : (optPl o).isNon = !o.isSome := by cases o <;> rfl
section
variable {X : Cx} {ρ : Rho} {a b c : Expr} {pos : Pos} {d1 d2 : D}
end
section
variable {P : Program} {w : World} {K : PySem.W.Frag} {mg : Str → Option Value} {base : Heap} {cdv : Value} {A : Around} {outer : List Env} {s : Shared} {H : Hp} {E : XK}
variable {x0 y0 : Rat} {a pl pi ba be : Addr} {cs : List Int} {T0 t l : Int} {i : Nat} {ps : List Pl} {pins : List PinE} {bars : List BarE} {beads : List BeadE} {R : D → Mu → Prop}
def RD (a pl pi ba be : Addr) (i : Nat) (k : Nat) (ps : List Pl) (jo je : Nat) (g w : Rat) (sh : Rat) (o : Option Pl) : Rho := [some (.fn a), some (.lst waysD), some (.fn pl), some (.fn pi), some (.fn ba), some (.fn be), some (.int (i : Int)), some (.int (k : Int)), some (.lst (baseD ps)), some (.int ((i + 1 : Nat) : Int)), some (.int (jo : Int)), some (.int (je : Int)), some (numD g), some (numD w), none, none, none, none, some (numD sh), some (optPl o)]
theorem wkD {a pl pi ba be : Addr} {i k : Nat} {ps : List Pl} {jo je : Nat} {g w sh : Rat} {o : Option Pl} : Wk (RD a pl pi ba be i k ps jo je g w sh o) (RT a pl pi ba be ((i + 1 : Nat) : Int)) := ⟨.inr rfl, .inr rfl, .inr rfl, .inr rfl, .inr rfl, .inr rfl, .inl rfl, .inl rfl, .inl rfl, .inr rfl, .inl rfl, .inl rfl, .inl rfl, .inl rfl, .inl rfl, .inl rfl, .inl rfl, .inl rfl, .inl rfl, .inl rfl, trivial⟩
abbrev beadB : List Stmt := ifE (atS (ifE (atS bodyT 3)) 0)
theorem beads_new {ps : List Pl} {beads : List BeadE} {n : Nat} {u v : Int} (hb : ∀ e ∈ beads, BeadOk ps e) (hn : ps.length = n) : [(n : Int), u, v] ∉ beads.map fun e => [(e.1 : Int), (e.2.1 : Int), (e.2.2.1 : Int)] := fun h => by
  obtain ⟨e, he, e2⟩ := List.mem_map.mp h
  have := (hb e he).lt
  injection e2 with e3 _
  omega
/-- behind the spot -/
theorem pose_spot {k jo je : Nat} {g w2 sh : Rat} {p q : Pl} {o : Option Pl} (T : TB K mg) (hr : Room 6 (XPo P w K mg base cdv A outer s H E).A) (hx : smallQ x0) (hy : smallQ y0) (hP : Pose x0 y0 i ps pins bars beads) (h0 : 0 ≤ t) (h1 : t ≤ T0 + 12 * i + 10) (hcap : T0 + 100 < capT) (hi : i < 6) (hp : ps[jo]? = some p) (hq : ps[je]? = some q) (hsh : sh ∈ shQ)
    (ho : o = none ∨ (jo ≠ je ∧ goneQ p q sh = o)) :
    BM (XPo P w K mg base cdv A outer s H E) (beadB.drop 2) (RD a pl pi ba be i k ps jo je g w2 sh o) (poseM a pl pi ba be cs t l ps pins bars beads) R fun ρ1 m1 => BM (XPo P w K mg base cdv A outer s H E) [atS bodyT 4] ρ1 m1 R (IvP x0 y0 a pl pi ba be cs T0 (i + 1)) := by
  have hu := hr.units
  have hmp : p ∈ ps := List.mem_of_getElem? hp
  have hmq : q ∈ ps := List.mem_of_getElem? hq
  have el : ps.length = i + 1 := hP.len
  have hjo : jo < ps.length := (List.getElem?_eq_some_iff.mp hp).1
  have hje : je < ps.length := (List.getElem?_eq_some_iff.mp hq).1
  obtain ⟨u1, u2, u3, u4, u5, u6, u7, u8, u9, u10⟩ := q_step hi
  have hmem : (pl, MO.lst (ps.map plD)) ∈ poseM a pl pi ba be cs t l ps pins bars beads := List.mem_cons_of_mem _ (List.mem_cons_self ..)
  obtain ⟨dd, σ, d0, d4, es, he, bs, bs1⟩ := sh_in hsh
  have bw : ∀ e ∈ pins, e.1 < i + 1 := fun e he => by have := (hP.pn e he).lt; omega
  cases o with
  | none =>
    have lat : Lat x0 y0 (Rq (i + 1)) (Bq (i + 1)) (Gq (i + 1)) (ps ++ [p]) := hP.lat.copy hmp (by omega) (by omega) (by omega)
    refine bm1 (sm_append (p := pl) (dv 2 rfl) ⟨_, hmem⟩ (em_if (tm (dt_cmp cisN (dv 19 rfl) dnon) ⟨fun _ => em_ixM (dv 2 rfl) (dv 10 rfl) hmem (atI_map hp) ⟨[(a, PR cs t l)], [(pi, pinsM pins), (ba, barsM bars), (be, beadsM beads)], _, rfl, by rw [List.length_map, hP.len]; omega, ?_⟩, (nomatch ·)⟩)))
    have hP' : Pose x0 y0 (i + 1) (ps ++ [p]) pins (bars ++ []) (beads ++ []) := hP.more (nb := []) (nd := []) lat (hP.ok p hmp) (fun e he => nomatch he) (fun e he => nomatch he) (by simp) (by simp) (by simp) (by simp)
    rw [List.append_nil, List.append_nil] at hP'
    refine bm1 (sm_if (tm (dt_cmp cnotN (dv 19 rfl) dnon) ⟨(nomatch ·), fun _ => bm0 (bm0 ?_)⟩))
    have fin := pose_tail (P := P) (w := w) (base := base) (cdv := cdv) (A := A) (outer := outer) (s := s) (H := H) (E := E) (a := a) (pl := pl) (pi := pi) (ba := ba) (be := be) (cs := cs) (l := l) (R := R) T hr hP' bw (by have := hP.ln; omega) h0 (by omega) hcap hi
    unfold poseM at fin
    rw [List.map_append] at fin
    exact .wk wkD fin
  | some tq =>
    obtain ⟨hjj, hgq⟩ := ho.resolve_left (fun z => nomatch z)
    have lat : Lat x0 y0 (Rq (i + 1)) (Bq (i + 1)) (Gq (i + 1)) (ps ++ [tq]) := hP.lat.bead hmp hmq (hP.ok p hmp) (hP.ok q hmq) d0 d4 es he hgq (by omega) (by omega) (by omega)
    have ot : PlOk tq := by
      have np := (hP.ok p hmp).nonneg
      have nq := (hP.ok q hmq).nonneg
      unfold goneQ at hgq
      dsimp only at hgq
      split at hgq
      · split at hgq
        · cases hgq; exact formQ_ok nq
        · cases hgq; exact formQ_ok np
      · split at hgq
        · cases hgq; exact formQ_ok np
        · cases hgq
    refine bm1 (sm_append (p := pl) (dv 2 rfl) ⟨_, hmem⟩ (em_if (tm (dt_cmp cisN (dv 19 rfl) dnon) ⟨(nomatch ·), fun _ => em (d := plD tq) (dv 19 rfl) ⟨[(a, PR cs t l)], [(pi, pinsM pins), (ba, barsM bars), (be, beadsM beads)], _, rfl, by rw [List.length_map, hP.len]; omega, ?_⟩⟩)))
    have gp : (ps ++ [tq])[jo]? = some p := get_snoc hp
    have gq : (ps ++ [tq])[je]? = some q := get_snoc hq
    have gt : (ps ++ [tq])[i + 1]? = some tq := by rw [← el]; exact get_last
    -- the bead told from the lower joint
    obtain ⟨lo, hi', sh', e1, e2, e3, hb⟩ : ∃ (lo hi' : Nat) (sh' : Rat), (if (je : Int) < (jo : Int) then (je : Int) else (jo : Int)) = lo ∧ (if (je : Int) > (jo : Int) then (je : Int) else (jo : Int)) = hi' ∧ (bif decide ((jo : Int) < (je : Int)) then numD sh else numD (1 - sh)) = numD sh' ∧ BeadOk (ps ++ [tq]) (i + 1, lo, hi', sh') := by
      by_cases h : jo < je
      · refine ⟨jo, je, sh, by rw [if_neg (by omega)], by rw [if_pos (by omega)], by rw [decide_eq_true (by omega)]; rfl, p, q, tq, gp, gq, gt, h, by show je < i + 1; omega, hgq, bs, bs1⟩
      · refine ⟨je, jo, 1 - sh, by rw [if_pos (by omega)], by rw [if_neg (by omega)], by rw [decide_eq_false (by omega)]; rfl, q, p, tq, gq, gp, gt, by show je < jo; omega, by show jo < i + 1; omega, ?_, bs1, ?_⟩
        · show goneQ q p (1 - sh) = some tq
          rw [gone_symm (hP.ok p hmp) (hP.ok q hmq)]; exact hgq
        · show Bd 3 3 (1 - (1 - sh))
          rw [show (1 : Rat) - (1 - sh) = sh by grind]; exact bs
    have hP' : Pose x0 y0 (i + 1) (ps ++ [tq]) pins (bars ++ []) (beads ++ [(i + 1, lo, hi', sh')]) := hP.more (nb := []) (nd := [(i + 1, lo, hi', sh')]) lat ot (fun e he => nomatch he) (fun e he => by
      rcases List.mem_cons.mp he with rfl | z
      · exact ⟨hb, el.symm⟩
      · cases z) (by simp) (by simp) (by simp) (by simp)
    rw [List.append_nil] at hP'
    refine bm1 (sm_if (tm (dt_cmp cnotN (dv 19 rfl) dnon) ⟨fun _ => ?_, (nomatch ·)⟩))
    have b1 : Bd 1 1 (1 : Rat) := ⟨by simp [Lt2], by simp [Lt2]⟩
    refine bm1 (sm_dputT (p := be) (k := [((i + 1 : Nat) : Int), (lo : Int), (hi' : Int)]) (by have := hu; omega) (dv 5 rfl) (dacons (dv 9 rfl) (dacons (DE.is (dmin rfl T.b_min (dv 10 rfl) (dv 11 rfl)) (congrArg D.int e1)) (dacons (DE.is (dmax rfl T.b_max (dv 10 rfl) (dv 11 rfl)) (congrArg D.int e2)) danil))) (by simp) (em (DE.is (de_ifB (dt_cmp clt (dv 10 rfl) (dv 11 rfl)) (fun _ => dv 18 rfl) (fun _ => dcall (ok__law_plus T) (hr.mono (by decide)) (dacons dint (dacons (dcall (ok__law_times T) (hr.mono (by decide)) (dacons (dneg dint) (dacons (dv 18 rfl) danil)) ⟨((-1 : Int) : Rat), sh, by rw [numD_intCast], (b1.pr bs).lit (by decide), rfl⟩) danil)) ⟨1, -sh, by rw [neg1_mul, numD_one], (b1.pr bs).neg, by rw [← Rat.sub_eq_add_neg]⟩)) e3) ?_))
    refine ⟨[(a, PR cs t l), (pl, .lst (ps.map plD ++ [plD tq])), (pi, pinsM pins), (ba, barsM bars)], [], _, _, rfl, beads_new hP.bd hP.len, by rw [List.length_map]; have := hP.ln; omega, bm0 (bm0 ?_)⟩
    have fin := pose_tail (P := P) (w := w) (base := base) (cdv := cdv) (A := A) (outer := outer) (s := s) (H := H) (E := E) (a := a) (pl := pl) (pi := pi) (ba := ba) (be := be) (cs := cs) (l := l) (R := R) T hr hP' bw (by have := hP.ln; omega) h0 (by omega) hcap hi
    unfold poseM at fin
    rw [more_beads, List.map_append] at fin
    exact .wk wkD fin
end
end K31
end
section
set_option maxHeartbeats 8000000
set_option autoImplicit false
/-! The walk: a turn; a pose. -/
namespace K31
open PySem PySem.Spec PyProof.Rows L2
section
variable {P : Program} {w : World} {K : PySem.W.Frag} {mg : Str → Option Value} {base : Heap} {cdv : Value} {A : Around} {outer : List Env} {s : Shared} {H : Hp} {E : XK}
variable {x0 y0 : Rat} {a pl pi ba be : Addr} {cs : List Int} {T0 t l : Int} {i : Nat} {ps : List Pl} {pins : List PinE} {bars : List BarE} {beads : List BeadE} {R : D → Mu → Prop}
theorem pose_bead {k jo je : Nat} {g w2 : Rat} (T : TB K mg) (hr : Room 6 (XPo P w K mg base cdv A outer s H E).A) (hx : smallQ x0) (hy : smallQ y0) (hP : Pose x0 y0 i ps pins bars beads) (h0 : 0 ≤ t) (h1 : t ≤ T0 + 12 * i + 7) (hcap : T0 + 100 < capT) (hi : i < 6) :
    BM (XPo P w K mg base cdv A outer s H E) beadB (RB a pl pi ba be i k ps jo je g w2) (poseM a pl pi ba be cs t l ps pins bars beads) R fun ρ1 m1 => BM (XPo P w K mg base cdv A outer s H E) [atS bodyT 4] ρ1 m1 R (IvP x0 y0 a pl pi ba be cs T0 (i + 1)) := by
  have hu := hr.units
  have hr1 : Room 1 _ := hr.mono (by decide)
  have el : ps.length = i + 1 := hP.len
  refine bm1 (sm_par3 (i := 10) (j := 11) (l := 18) rfl sc__law_posed.nd rfl rfl rfl (by decide) (by decide) (by decide) rfl rfl rfl (am1 (em_mast (okM__law_mast T) hr1 (dv 0 rfl) (dv 9 rfl) (by omega) (by omega) h0 (by unfold capT at *; omega) fun j1 t1 l1 hj1 h2 h3 => ?_)))
  refine am1 (em_mast (okM__law_mast T) hr1 (dv 0 rfl) (dv 9 rfl) (by omega) (by omega) h2 (by unfold capT at *; omega) fun j2 t2 l2 hj2 h4 h5 => ?_)
  refine am1 (em_callM (okM__law_pick T) (hr.mono (by decide)) (am1 (em (dv 0 rfl) (am1 (em sh_de (am0 ⟨rfl, a, cs, t2, l2, _, shQ.map numD, rfl, rfl, by decide, by decide, h4, by unfold capT at *; omega, fun k3 t3 l3 d hk h6 h7 => ?_⟩))))))
  obtain ⟨sh, hsh, rfl⟩ : ∃ sh ∈ shQ, d = numD sh := by
    obtain ⟨v, hv, e⟩ := List.mem_map.mp (List.mem_of_getElem? hk)
    exact ⟨v, hv, e.symm⟩
  refine am0 ⟨_, _, _, rfl, ?_⟩
  obtain ⟨p, hp⟩ : ∃ p, ps[j1]? = some p := ⟨_, List.getElem?_eq_getElem (by omega)⟩
  obtain ⟨q, hq⟩ : ∃ q, ps[j2]? = some q := ⟨_, List.getElem?_eq_getElem (by omega)⟩
  have hmp : p ∈ ps := List.mem_of_getElem? hp
  have hmq : q ∈ ps := List.mem_of_getElem? hq
  have sp := hP.sz hx hy (by omega) hmp
  have sq := hP.sz hx hy (by omega) hmq
  have op := hP.ok p hmp
  have oq := hP.ok q hmq
  obtain ⟨dd, σ, d0, d4, es, he, bs, bs1⟩ := sh_in hsh
  have hmem : (pl, MO.lst (ps.map plD)) ∈ poseM a pl pi ba be cs t3 l3 ps pins bars beads := List.mem_cons_of_mem _ (List.mem_cons_self ..)
  refine bm1 (sm_set (i := 19) sc__law_posed.nd rfl (em_if (tm (dt_cmp cneI (dv 10 rfl) (dv 11 rfl)) ⟨fun hz => em_call (ok__law_bead T) (hr.mono (by decide)) (am1 (em_ixM (dv 2 rfl) (dv 10 rfl) hmem (atI_map hp) (am1 (em_ixM (dv 2 rfl) (dv 11 rfl) hmem (atI_map hq) (am1 (em (dv 18 rfl) (am0 ⟨optPl (beadQ p q sh), rfl, ⟨p, q, sh, rfl, op, oq, sp, sq, bs, bs1, rfl⟩, ?_⟩))))))), fun hz => em (d := optPl none) dnon ?_⟩)))
  · have hjj : j1 ≠ j2 := fun e => by
      subst e
      simp at hz
    exact pose_spot T hr hx hy hP h6 (by omega) hcap hi hp hq hsh (.inr ⟨hjj, (bead_gone op oq).symm⟩)
  · exact pose_spot T hr hx hy hP h6 (by omega) hcap hi hp hq hsh (.inl rfl)
/-- a turn -/
theorem pose_turn (T : TB K mg) (hr : Room 6 (XPo P w K mg base cdv A outer s H E).A) (hx : smallQ x0) (hy : smallQ y0) (hP : Pose x0 y0 i ps pins bars beads) (h0 : 0 ≤ t) (h1 : t ≤ T0 + 12 * i) (hcap : T0 + 100 < capT) (hi : i < 6) :
    BM (XPo P w K mg base cdv A outer s H E) bodyT ((R0 a pl pi ba be).set 6 (some (.int (i : Int)))) (poseM a pl pi ba be cs t l ps pins bars beads) R (IvP x0 y0 a pl pi ba be cs T0 (i + 1)) := by
  have hu := hr.units
  have hr1 : Room 1 _ := hr.mono (by decide)
  have el : ps.length = i + 1 := hP.len
  refine bm1 (sm_par (i := 7) (j := 8) rfl sc__law_posed.nd rfl rfl (by decide) rfl rfl (am1 (em_mast (okM__law_mast T) hr1 (dv 0 rfl) dint (by decide) (by decide) h0 (by unfold capT at *; omega) fun k t1 l1 hk h2 h3 => ?_)))
  have hmem : ∀ (q : Addr × MO), (pl, MO.lst (ps.map plD)) ∈ q :: poseM a pl pi ba be cs t1 l1 ps pins bars beads := fun q => List.mem_cons_of_mem _ (List.mem_cons_of_mem _ (List.mem_cons_self ..))
  have hmem0 : (pl, MO.lst (ps.map plD)) ∈ poseM a pl pi ba be cs t1 l1 ps pins bars beads := List.mem_cons_of_mem _ (List.mem_cons_self ..)
  refine am1 (em_lcIf (own := [("_law_joint", 9)]) (baseF ps) rfl sc__law_posed.nd (diRm (n := ps.length) T.b_range (em_lenM T.b_len (dv 2 rfl) hmem0 ⟨by rw [List.length_map], rfl⟩) (by omega)) (blkOk_by (N := N__law_posed) (sc := defScope s__law_posed) (by decide +kernel)) (pgN (i := 9) sc__law_posed.nd rfl) (by simp; omega) (fun q d hd => ?_) ?_)
  · obtain ⟨j, hj, rfl⟩ := List.mem_map.mp hd
    have hj' : j < ps.length := List.mem_range.mp hj
    have hp : ps[j]? = some ps[j] := List.getElem?_eq_getElem hj'
    have ef : baseF ps (.int (j : Int)) = if ps[j].r = 0 then some (.int (j : Int)) else none := by
      unfold baseF
      dsimp only
      rw [Int.toNat_natCast, hp]
    refine ⟨_, decide (ps[j].r = ((0 : Int) : Rat)), bcN, fun _ _ _ _ _ => .cmp (em_ix (em_ixM (dv 2 rfl) (dv 9 rfl) (hmem q) (atI_map hp) (em dint ⟨_, _, _, rfl, rfl, rfl, em dint ⟨_, (by exact ceqN (by exact hu)), rfl, rfl⟩⟩))), fun hz => ?_, fun hz => ⟨.int (j : Int), ?_, fun _ _ _ _ _ => em (dv 9 rfl) ⟨rfl, rfl⟩⟩⟩
    · have := of_decide_eq_false hz
      rw [Rat.intCast_zero] at this
      rw [ef, if_neg this]
    · have := of_decide_eq_true hz
      rw [Rat.intCast_zero] at this
      rw [ef, if_pos this]
  refine am0 ⟨_, _, rfl, ?_⟩
  obtain ⟨pz, hpz, hpz0⟩ := hP.zero
  have bne : 0 < (baseD ps).length := List.length_pos_of_mem (base_ne hpz hpz0)
  have ble : (baseD ps).length ≤ 1000 := Nat.le_trans (List.length_filterMap_le _ _) (by simp; omega)
  -- two points and the new joint
  refine bm1 (sm_par3 (i := 10) (j := 11) (l := 9) rfl sc__law_posed.nd rfl rfl rfl (by decide) (by decide) (by decide) rfl rfl rfl (am1 (em_callM (okM__law_pick T) (hr.mono (by decide)) (am1 (em (dv 0 rfl) (am1 (em (d := .lst (baseD ps)) (dv 8 rfl) (am0 ⟨rfl, a, cs, t1, l1, _, baseD ps, rfl, rfl, bne, ble, h2, by unfold capT at *; omega, fun k2 t2 l2 d hd h4 h5 => ?_⟩))))))))
  obtain ⟨jo, p, rfl, hp, hp0⟩ := base_in (List.mem_of_getElem? hd)
  refine am1 (em_callM (okM__law_pick T) (hr.mono (by decide)) (am1 (em (dv 0 rfl) (am1 (em (d := .lst (baseD ps)) (dv 8 rfl) (am0 ⟨rfl, a, cs, t2, l2, _, baseD ps, rfl, rfl, bne, ble, h4, by unfold capT at *; omega, fun k3 t3 l3 d hd h6 h7 => ?_⟩))))))
  obtain ⟨je, q, rfl, hq, hq0⟩ := base_in (List.mem_of_getElem? hd)
  have hmem3 : (pl, MO.lst (ps.map plD)) ∈ poseM a pl pi ba be cs t3 l3 ps pins bars beads := List.mem_cons_of_mem _ (List.mem_cons_self ..)
  refine am1 (em_lenM T.b_len (dv 2 rfl) hmem3 (am0 ⟨_, _, _, rfl, ?_⟩))
  rw [List.length_map, hP.len]
  -- the gap; how far apart
  refine bm1 (sm_asg (em_tup (am1 (em_call (ok__law_lowest T) (hr.mono (by decide)) (am1 (em_add (em dint (em_mast (okM__law_mast T) hr1 (dv 0 rfl) dint (by decide) (by decide) h6 (by unfold capT at *; omega) fun k4 t4 l4 hk4 h8 h9 => ?_))))))))
  refine ⟨_, _, rfl, rfl, am1 (em_add (em dint (em_mast (okM__law_mast T) hr1 (dv 0 rfl) dint (by decide) (by decide) h8 (by unfold capT at *; omega) fun k5 t5 l5 hk5 h10 h11 => ?_)))⟩
  have hg : Gap (Rat.divInt (1 + (k4 : Int)) (1 + (k5 : Int))) := by
    have n1 : (1 + (k5 : Int)) ≠ 0 := by omega
    refine ⟨⟨1 + k4, 1 + k5, ?_, by omega, by omega, by omega⟩, .divInt n1 ?_ ?_, ?_⟩
    · rw [Rat.divInt_eq_div]
      have : ((1 + (k5 : Int) : Int) : Rat) ≠ 0 := fun z => n1 (Rat.intCast_eq_zero_iff.mp z)
      push_cast at *
      grind
    · unfold Lt2
      have : (2 : Nat) ^ 4 = 16 := by decide
      omega
    · unfold Lt2
      have : (2 : Nat) ^ 3 = 8 := by decide
      omega
    · rw [Rat.divInt_eq_div, Rat.div_def]
      exact Rat.mul_pos (Rat.intCast_pos.mpr (by omega)) (Rat.inv_pos.mpr (Rat.intCast_pos.mpr (by omega)))
  obtain ⟨g, eg⟩ : ∃ g, g = Rat.divInt (1 + (k4 : Int)) (1 + (k5 : Int)) := ⟨_, rfl⟩
  rw [← eg] at hg
  refine ⟨_, _, rfl, rfl, am0 ⟨numD g, rfl, ⟨_, _, rfl, by omega, lt2I (by omega) (by omega), by rw [eg]⟩, ?_⟩⟩
  have hmp : p ∈ ps := List.mem_of_getElem? hp
  have hmq : q ∈ ps := List.mem_of_getElem? hq
  have sp := hP.sz hx hy (by omega) hmp
  have sq := hP.sz hx hy (by omega) hmq
  have ep := (hP.ok p hmp).eq_pt hp0
  have eq := (hP.ok q hmq).eq_pt hq0
  have hmem5 : (pl, MO.lst (ps.map plD)) ∈ poseM a pl pi ba be cs t5 l5 ps pins bars beads := List.mem_cons_of_mem _ (List.mem_cons_self ..)
  obtain ⟨w2, hw⟩ : ∃ w2, w2 = (q.x - p.x) * (q.x - p.x) + (q.y - p.y) * (q.y - p.y) := ⟨_, rfl⟩
  have esq : sqQ p.x p.y q = some w2 := by
    rw [eq, sq_pt, hw]
    congr 1
    show (p.x - q.x) * (p.x - q.x) + (p.y - q.y) * (p.y - q.y) = _
    grind
  refine am1 (em_call (ok__law_square T) (hr.mono (by decide)) (am1 (em_ixM (dv 2 rfl) (dv 10 rfl) hmem5 (atI_map hp) (am1 (em_ixM (dv 2 rfl) (dv 11 rfl) hmem5 (atI_map hq) (am0 ⟨numD w2, rfl, ⟨p.x, p.y, q, by rw [← ep], sp.x, sp.y, hP.ok q hmq, sq, by rw [esq]; rfl⟩, am0 ⟨by simp, ?_⟩⟩))))))
  refine ⟨_, dgT rfl (dgs1 (dgN (i := 12) sc__law_posed.nd rfl) (dgs1 (dgN (i := 13) sc__law_posed.nd rfl) dgs0)), ?_⟩
  refine .wk (ρ' := RB a pl pi ba be i k ps jo je g w2) ⟨.inr rfl, .inr rfl, .inr rfl, .inr rfl, .inr rfl, .inr rfl, .inr rfl, .inr rfl, .inr (by unfold baseD; rw [hP.len]; rfl), .inr rfl, .inr rfl, .inr rfl, .inr rfl, .inr rfl, .inr rfl, .inr rfl, .inr rfl, .inr rfl, .inr rfl, .inr rfl, trivial⟩ ?_
  refine bm1 (sm_if (tm (dw_val (dw_or (dt_cmp ceqI (dv 7 rfl) dint) fun _ => (dw_or1 (dw_val (dw_and (dt_cmp ceqI (dv 7 rfl) dint) fun _ => (dw_and1 (dt_cmp (ceqN hu) (dv 13 rfl) dint))))))) ⟨fun _ => ?_, fun hz => ?_⟩))
  · exact pose_rod T hr hx hy hP h10 (by omega) hcap hi hp hp0 hg
  · refine bm1 (sm_if (tm (dt_cmp ceqI (dv 7 rfl) dint) ⟨fun hz2 => ?_, fun _ => ?_⟩))
    · have hne : w2 ≠ 0 := fun z => by
        rw [hz2, z, Rat.intCast_zero] at hz
        simp at hz
      exact (pose_over T hr hx hy hP h10 (by omega) hcap hi hp hq hp0 hq0 hg hw hne).imp (fun _ _ h => h) fun ρ m h => bm0 h
    · exact (pose_bead T hr hx hy hP h10 (by omega) hcap hi).imp (fun _ _ h => h) fun ρ m h => bm0 h
end
end K31
end
section
set_option maxHeartbeats 8000000
set_option autoImplicit false
/-! The walk: a pose. -/
namespace K31
open PySem PySem.Spec PyProof.Rows L2
section
variable {P : Program} {w : World} {K : PySem.W.Frag} {mg : Str → Option Value} {base : Heap}
theorem okM__law_posed (T : TB K mg) : OkM P w K mg base 7 "_law_posed" 1 F__law_posed := by
  obtain ⟨fd, F⟩ := T.f__law_posed
  refine okM_of (N := N__law_posed) (ps := ["_law_prow_here"]) F T.g__law_posed sc__law_posed rfl (fun _ _ _ _ _ _ us hl => match us, hl with | [_], _ => rfl) fun cdv A outer s H ds m S E hr hl hF => ?_
  obtain ⟨a, cs, t0, l0, rfl, rfl, ht0, ht, hS⟩ := hF
  have hu := hr.units
  have hr1 : Room 1 _ := hr.mono (by decide)
  unfold capT at ht
  refine bm1 (sm (dset (i := 1) (d := .lst waysD) sc__law_posed.nd rfl ways_de) ?_)
  refine bm1 (sm_asg (em_tup (am1 (em_newL' (am1 (em_tup (am1 (em_tup (am1 (em_callM (okM__law_small T) (hr.mono (by decide)) (am1 (em (dv 0 rfl) (am0 ⟨rfl, a, cs, t0, l0, [], rfl, rfl, ht0, by unfold capT; omega, fun x0 t1 l1 hx0 h1 h2 => ?_⟩)))))))))))))
  refine am1 (em_callM (okM__law_small T) (hr.mono (by decide)) (am1 (em (dv 0 rfl) (am0 ⟨rfl, a, cs, t1, l1, [], rfl, rfl, h1, by unfold capT; omega, fun y0 t2 l2 hy0 h3 h4 => ?_⟩))))
  refine am0 ⟨by simp, am1 (em (dtup (dacons dint (dacons dint danil))) (am1 (em dint (am0 ⟨by simp, am0 ⟨by simp, fun pl => ?_⟩⟩))))⟩
  refine am1 (em_newK' fun pi => am1 (em_newT' fun ba => am1 (em_newT' fun be => am0 ⟨by simp, ?_⟩)))
  refine ⟨_, dgT rfl (dgs1 (dgN (i := 2) sc__law_posed.nd rfl) (dgs1 (dgN (i := 3) sc__law_posed.nd rfl) (dgs1 (dgN (i := 4) sc__law_posed.nd rfl) (dgs1 (dgN (i := 5) sc__law_posed.nd rfl) dgs0)))), ?_⟩
  have e0 : D.tup [.tup [numD x0, numD y0], .tup [.int 0, .int 0], .int 0] = plD (ptPl x0 y0) := by
    unfold plD ptPl
    dsimp only
    rw [ptD_int, numD_zero]; rfl
  rw [e0]
  show BM (XPo P w K mg base cdv A outer s H E) _ (R0 a pl pi ba be) [(a, PR cs t2 l2), (pl, .lst [plD (ptPl x0 y0)]), (pi, .dK [] []), (ba, .dT [] []), (be, .dT [] [])] S _
  have hmem : (pl, MO.lst [plD (ptPl x0 y0)]) ∈ ([(a, PR cs t2 l2), (pl, .lst [plD (ptPl x0 y0)]), (pi, .dK [] []), (ba, .dT [] []), (be, .dT [] [])] : Mu) := List.mem_cons_of_mem _ (List.mem_cons_self ..)
  refine bm1 (sm_dputK (p := pi) (by have h : (XPo P w K mg base cdv A outer s H E).A.units + 64 < cLine := hu; omega) (dv 3 rfl) dint (em_ix (em_ixM (dv 2 rfl) dint hmem rfl (em dint ⟨_, _, _, rfl, rfl, rfl, ⟨[(a, PR cs t2 l2), (pl, .lst [plD (ptPl x0 y0)])], [(ba, .dT [] []), (be, .dT [] [])], [], [], rfl, by simp, by simp, ?_⟩⟩))))
  refine bm1 (sm_forR PassesOwn.never rfl T.b_range (em_add (em dint (em_mast (okM__law_mast T) hr1 (dv 0 rfl) dint (by decide) (by decide) h3 (by unfold capT; omega) fun k t3 l3 hk h5 h6 => ?_))))
  refine ⟨2, k, rfl, rfl, 2 + k, by push_cast; rfl, by omega, IvP x0 y0 a pl pi ba be cs t3, ⟨rfl, t3, l3, [ptPl x0 y0], [(0, x0, y0)], [], [], rfl, Pose.start, h5, by omega⟩, ?_, ?_⟩
  · rintro i ρ1 m2 hi ⟨rfl, t, l, ps, pins, bars, beads, rfl, hP, h7, h8⟩
    exact ⟨_, dgN (i := 6) sc__law_posed.nd rfl, pose_turn T hr hx0 hy0 hP h7 h8 (by unfold capT; omega) (by omega)⟩
  · rintro ρ1 m2 ⟨rfl, t, l, ps, pins, bars, beads, rfl, hP, h7, h8⟩
    refine bm1 (sm_ret (em_lst (am1 (em_frz (p := pl) (o := .lst (ps.map plD)) (pre := [(a, PR cs t l)]) (post := [(pi, pinsM pins), (ba, barsM bars), (be, beadsM beads)]) (dv 2 rfl) rfl ?_))))
    refine am1 (em_frz (p := pi) (pre := [(a, PR cs t l)]) (post := [(ba, barsM bars), (be, beadsM beads)]) (dv 3 rfl) rfl ?_)
    refine am1 (em_frz (p := ba) (pre := [(a, PR cs t l)]) (post := [(be, beadsM beads)]) (dv 4 rfl) rfl ?_)
    refine am1 (em_frz (p := be) (pre := [(a, PR cs t l)]) (post := []) (dv 5 rfl) rfl (am0 ⟨by simp, ?_⟩))
    exact hS x0 y0 (2 + k) ps pins bars beads t l hx0 hy0 (by omega) hP h7 (by omega)
end
end K31
end
section
set_option maxHeartbeats 4000000
set_option autoImplicit false
/-! The walk: what is drawn from. -/
namespace K31
open PySem PySem.Spec PyProof.Rows L2
theorem cut_60 (cs : List Int) : cutD (cs.map D.int) none (some 60) = (cs.take 60).map D.int := by
  unfold cutD
  have e : HT.sIx (cs.map D.int).length (cs.map D.int).length (some 60) = min 60 (cs.map D.int).length := HT.sIx_nat _ _ 60
  rw [e, HT.sIx_none, List.drop_zero, Nat.sub_zero, List.map_take]
  by_cases h : (cs.map D.int).length ≤ 60
  · rw [Nat.min_eq_right h, List.take_of_length_le (Nat.le_refl _), List.take_of_length_le h]
  · rw [Nat.min_eq_left (by omega)]
def F__law_prow (ds : List D) (m : Mu) (S : D → Mu → Prop) : Prop := ∃ cs : List Int, ds = [.lst (cs.map D.int)] ∧ ∀ p, S (.fn p) ((p, PR (cs.take 60) 0 0) :: m)
section
variable {P : Program} {w : World} {K : PySem.W.Frag} {mg : Str → Option Value} {base : Heap}
abbrev N__law_prow : List Str := ["_law_script", "_law_cell"]
theorem sc__law_prow : FnScope N__law_prow ["_law_script"] (defScope s__law_prow) := ⟨rfl, rfl, rfl, by decide +kernel, rfl, by decide +kernel, by decide +kernel⟩
theorem okM__law_prow (T : TB K mg) : OkM P w K mg base 1 "_law_prow" 1 F__law_prow := by
  obtain ⟨fd, F⟩ := T.f__law_prow
  refine okM_of (N := N__law_prow) (ps := ["_law_script"]) F T.g__law_prow sc__law_prow rfl (fun _ _ _ _ _ _ us hl => match us, hl with | [_], _ => rfl) fun cdv A outer s H ds m S E hr hl hF => ?_
  obtain ⟨cs, rfl, hS⟩ := hF
  have h60 : (cs.take 60).length ≤ 60 := by rw [List.length_take]; omega
  refine bm1 (sm_ret (em_newL (am1 (em (DE.is (dlc (own := [("_law_cell", 1)]) (fun d => d) rfl sc__law_prow.nd (diL (dslL (dv 0 rfl) .no (.int dint))) (blkOk_by (N := N__law_prow) (sc := defScope s__law_prow) (by decide +kernel)) (pgN (i := 1) sc__law_prow.nd rfl) (by rw [cut_60, List.length_map]; omega) (fun d hd => ?_)) (by rw [List.map_id', cut_60])) (am1 (em dint (am1 (em dint (am0 ⟨(show 3 ≤ 1000 by decide), hS⟩)))))))))
  rw [cut_60] at hd
  obtain ⟨k, _, rfl⟩ := List.mem_map.mp hd
  exact ⟨_, bcN, fun _ _ _ _ _ => dintI T.b_int (dv 1 rfl)⟩
end
end K31
end
section
set_option maxHeartbeats 2000000
set_option autoImplicit false
/-! An exception that is caught and kept. -/
namespace K31
open PySem PySem.Spec PyProof.Rows L2
/-- at a stands an exception of class cls with dict d -/
def keptO (a : Addr) (cls : Value) (d : Option Addr) : HO := .ext fun h => ∃ (oe : Obj) (vs : Array Value), h.get? a = some oe ∧ Zc cls d oe ∧ oe.data = .fields vs
theorem keptO_ok {P : Program} {w : World} {H : Hp} {h : Heap} {a : Addr} {cls : Value} {d : Option Addr} {oe : Obj} {vs : Array Value} (e : h.get? a = some oe) (z : Zc cls d oe) (f : oe.data = .fields vs) : ObjOk P w H h a (keptO a cls d) :=
  ⟨⟨oe, vs, e, z, f⟩, ⟨_, e⟩, fun h1 h2 ⟨o2, v2, e2, z2, f2⟩ k => ⟨o2, v2, k _ e2, z2, f2⟩⟩
theorem keptO_at {P : Program} {w : World} {H : Hp} {h : Heap} {a : Addr} {cls : Value} {d : Option Addr} (hok : HOk P w H h) (e : H a = some (keptO a cls d)) : ∃ (oe : Obj) (vs : Array Value), h.get? a = some oe ∧ Zc cls d oe ∧ oe.data = .fields vs := by
  have x : ObjOk P w H h a (.ext fun h => ∃ (oe : Obj) (vs : Array Value), h.get? a = some oe ∧ Zc cls d oe ∧ oe.data = .fields vs) := hok a _ e
  exact x.1
section
variable {X : Cx} {pins : List (Addr × Obj)} {σ : L2.St} {H : Hp} {s : Shared} {a : Addr} {cls : Value} {d : Option Addr} {oe : Obj} {vs : Array Value}
/-- what is there and new is told from now on -/
theorem inv_keep (I : Inv X pins σ H s) (h0 : X.s_0.heap.get? a = none) (hH : H a = none) (ha : s.heap.get? a = some oe) (hz : Zc cls d oe) (hf : oe.data = .fields vs) (hL : a ≠ X.env.locals) (hp : ∀ p ∈ X.pn ++ pins, p.1 ≠ a) : Inv X pins σ (upd H a (keptO a cls d)) s := by
  have nt : ∀ {b : Addr} {u : HO}, H b = some u → b ≠ a := fun {b u} e => ne_of_none e hH
  have cellN : ∀ {c : Addr} {v : Option Value}, s.heap.IsCell c v → c ≠ a := fun {c v} ⟨o, ho, hd⟩ z => by
    rw [z, ha] at ho
    cases ho
    rw [hf] at hd
    cases hd
  exact {
    ok := I.ok
    os := I.os
    bare := I.bare
    base := {
      keep := I.base.keep
      slot := I.base.slot
      free := fun b o q n hx => by
        have hb : b ≠ a := fun z => by
          rw [z, h0] at q
          cases q
        rw [upd_ne hb]
        exact I.base.free b o q n hx
      there := I.base.there
      tups := fun b xs q => by
        have z := I.base.tups b xs q
        rw [upd_ne (nt z)]
        exact z
      frzs := fun b o v q => by
        have z := I.base.frzs b o v q
        rw [upd_ne (nt z)]
        exact z
      tbls := fun b ps q => by
        obtain ⟨more, z⟩ := I.base.tbls b ps q
        exact ⟨more, by rw [upd_ne (nt z)]; exact z⟩ }
    loc := I.loc
    cell := I.cell
    free := by rw [upd_ne hL.symm]; exact I.free
    freeC := fun x c e => by
      obtain ⟨v, hv⟩ := I.cell x c e
      rw [upd_ne (cellN hv)]
      exact I.freeC x c e
    pin := fun p hp' => by
      obtain ⟨p1, p2, p3⟩ := I.pin p hp'
      exact ⟨p1, by rw [upd_ne (hp p hp')]; exact p2, p3⟩
    hok := fun b u z => by
      by_cases hb : b = a
      · subst hb
        rw [upd_same] at z
        cases z
        exact keptO_ok ha hz hf
      · rw [upd_ne hb] at z
        exact (I.hok b u z).stay (fun c v _ y => y) (fun c hc => by rw [upd_ne (nt hc)]; exact hc) (fun c xs hc => by rw [upd_ne (nt hc)]; exact hc)
    len := I.len }
end
/-- the wish behind such a catch: slot i the clause's name, slot j the kept one -/
def wKeep (K : PySem.W.Frag) (c : Value) (l i j : Nat) (D : Ends) : WX := fun cls d σ H => PySem.W.exmOne K cls c = some true ∧ ∀ a, H a = none → σ.length = l → D.nx (((σ.set i (some (.ref a))).set j (some (.ref a))).set i none) (upd H a (keptO a cls d))
section
variable {X : Cx} {x n y : Str} {c : Value} {i j : Nat} {body : List Stmt} {np yp ap vp pos hpos : Pos} {tb : WX → TS}
theorem ps_try_keep (hs : X.stack = X.env :: X.outer) (hf : X.env.frame = some X.env.locals) (hex : X.ex = []) (nd : X.N.Nodup) (hi : X.N[i]? = some n) (hj : X.N[j]? = some y) (hij : i ≠ j) (hln : X.env.kindOf n = some .local) (hly : X.env.scope.names.lookup y = some .local) (hc : Names X x c) (hd1 : (n == ("__debug__" : Str)) = false) (hd2 : (n == ("__classdict__" : Str)) = false)
    (hsw : swapsWith (.Name n vp) (some (.Name y yp)) ap.line X.env = pure false) (hb : ∀ (W : WX) (pn : List (Addr × Obj)) (xe : Value → Shared → Prop), Takes (X.tr pn xe) W → PassesOwn (model X.prog X.w) X.A X.env xe → PSs (X.tr pn xe) body (tb W)) :
    PS X (.Try body [.ExceptHandler (some (.Name x np)) (some n) [.Assign [.Name y yp] (.Name n vp) ap] hpos] [] [] pos) (fun D σ H => tb (wKeep X.K c X.N.length i j D) D σ H) := by
  refine ⟨fun pins s σ H D I h => ?_⟩
  have okX := I.ok
  have frames : X.A.frames = some (X.env :: X.outer) := by
    rw [okX.frames, hs]
  have hloc : Loc X.env.scope n := .inl hln
  have hin : i < X.N.length := (List.getElem?_eq_some_iff.mp hi).1
  refine wpAny_Try_except (wpAny_mono ((hb (wKeep X.K c X.N.length i j D) (X.pn ++ pins) _ (fun u s1 hx => ?_) PassesOwn.looking).run [] s σ H D (I.toTry _) h) (fun fl s1 hq => ?_) fun _ _ z => z)
  · obtain ⟨a, G, sI, pn1, σ1, H1, cls, d, rfl, I1, ground, up1, sky1, ha1, eos, bare1, hm, hgo⟩ := hx
    have I2 : Inv X pins σ1 H1 sI := I1.ofTry okX
    have sky2 : Sky G (X.env :: X.outer) a (Zc cls d) X.env.locals s1.heap := by
      rw [← hs]
      exact sky1
    have gNone : G.get? a = none := by
      rcases sky1 with ⟨_, z, _⟩ | ⟨_, z, _⟩ | ⟨_, z, _⟩ <;> exact z
    show wpAny (model X.prog X.w) X.A (noteFrame (.ref a) X.env) _ _ _
    refine Sky.land Zc.steady frames hf sky2 fun k1 fly1 upk => ?_
    have I3 : Inv X pins σ1 H1 { s1 with heap := k1 } := I2.landed ground fly1.1 (up1.trans upk) eos bare1
    obtain ⟨o1, f1, go1, zo1, fo1⟩ := fly1.there
    have offFrames : a ∉ frs (X.env :: X.outer) := fun hin => by
      obtain ⟨_, o', ho', hno⟩ := fly1.2.2.1.mem hin
      rw [go1] at ho'
      cases ho'
      exact hno _ fo1
    have offL : a ≠ X.env.locals := fun z => offFrames (List.mem_filterMap.mpr ⟨X.env, List.mem_cons_self, by rw [hf, z]⟩)
    have offF : a ∉ X.fs := fun hm' => by
      obtain ⟨e, hme, hfe⟩ := List.mem_filterMap.mp hm'
      exact offFrames (List.mem_filterMap.mpr ⟨e, List.mem_cons_of_mem _ hme, hfe⟩)
    have fresh : sI.heap.get? a = none := by
      cases hg : sI.heap.get? a with
      | none => rfl
      | some o =>
        have z := ground a o hg (by rw [hs]; exact offFrames)
        rw [gNone] at z
        cases z
    have fresh0 : X.s_0.heap.get? a = none := by
      cases hg : X.s_0.heap.get? a with
      | none => rfl
      | some o =>
        obtain ⟨o', z⟩ := I2.base.there a o hg (by rw [hex]; simp)
        rw [fresh] at z
        cases z
    have offPins : ∀ p ∈ X.pn ++ pins, p.1 ≠ a := fun p hp z => by
      have q := (I2.pin p hp).1
      rw [z, fresh] at q
      cases q
    have S1 := I3.suite go1 fo1 ha1 offL offF
    have LT : PySem.W.Looks (model X.prog X.w) k1 (typeOf (.ref a)) cls := fun A Q E s k q => wpAny_typeOf_ref (k _ _ go1) (by rw [zo1.1]; exact q)
    have LM := PySem.W.exm_one (M := model X.prog X.w) I3.kIn LT hm
    refine wpAny_handleBy_cons (codeAny_handlers_test ?_) (by intro z; cases z)
    have clause : ∀ {Q E : Value → Shared → Prop}, Q c { s1 with heap := k1 } → wpAny (model X.prog X.w) (X.A.mark (some (.ref a))) (eval (.Name x np) X.env) Q E { s1 with heap := k1 } := fun {Q E} q => by
      obtain ⟨c1, c2, c3⟩ := hc
      rcases c3 with c3 | ⟨c3, c4, c5⟩
      · exact ld_glob (X := X.suite a ((a, o1) :: (X.pn ++ pins))) S1 c1 c3 q c2
      · exact ld_blt (X := X.suite a ((a, o1) :: (X.pn ++ pins))) S1 c1 c3 c4 q c5 c2
    refine clause (LM.here (codeAny_handlers_suite_as (HandSPX.lands_againZ fly1 fun k2 fly2 upk2 => ?_)))
    have I4 : Inv X pins σ1 H1 { s1 with heap := k2 } := I2.landed ground fly2.1 ((up1.trans upk).trans upk2) eos bare1
    obtain ⟨o2, f2, go2, zo2, fo2⟩ := fly2.there
    have S2 := I4.suite go2 fo2 ha1 offL offF
    refine store_ok (X := X.suite a ((a, o2) :: (X.pn ++ pins))) (v := .ref a) S2 nd hi hloc rfl (fun s5 S5 => ?_) (.inr hln)
    have suite := pss_cons (ps_set (X := X.suite a ((a, o2) :: (X.pn ++ pins))) (pos := ap) (pos' := yp) nd hj (.inl hly) (pe_var (X := X.suite a ((a, o2) :: (X.pn ++ pins))) (pos := vp) hi (.inl hln) hd1 hd2) hsw (.inr hly)) pss_nil
    have hσl : i < (σ1.set i (some (V.ref a))).length := by
      rw [List.length_set]
      have := I2.len
      omega
    refine wpAny_mono (suite.run [] s5 _ H1 { nx := fun σ6 H6 => σ6 = (σ1.set i (some (.ref a))).set j (some (.ref a)) ∧ H6 = H1, rt := fun _ _ => False, bk := fun _ _ => False, ct := fun _ _ => False } S5 ⟨.ref a, List.getElem?_set_self (by rw [List.length_set] at hσl; exact hσl), ⟨rfl, rfl⟩⟩) (fun fl s6 hq => ?_) fun _ _ z => z.elim
    cases fl with
    | next =>
      obtain ⟨σ6, H6, S6, e6, eH⟩ := hq
      subst e6 eH
      obtain ⟨g6, hH6, _⟩ := S6.pin (a, o2) (List.mem_append_left _ List.mem_cons_self)
      have I6 := inv_keep (cls := cls) (d := d) (S6.unsuite okX) fresh0 hH6 g6 zo2 fo2 offL offPins
      exact gone_ok I6 nd hi hln fun s7 I7 => ⟨_, _, I7, hgo a ha1 I2.len⟩
    | ret u => obtain ⟨_, _, _, _, _, z⟩ := hq; exact z.elim
    | brk => obtain ⟨_, _, _, z⟩ := hq; exact z.elim
    | cont => obtain ⟨_, _, _, z⟩ := hq; exact z.elim
  · cases fl with
    | next =>
      obtain ⟨σ', H', J', q⟩ := hq
      exact wpAny_execs_nil ⟨σ', H', J'.ofTry okX, q⟩
    | brk =>
      obtain ⟨σ', H', J', q⟩ := hq
      exact ⟨σ', H', J'.ofTry okX, q⟩
    | cont =>
      obtain ⟨σ', H', J', q⟩ := hq
      exact ⟨σ', H', J'.ofTry okX, q⟩
    | ret u =>
      obtain ⟨v, σ', H', J', r, q⟩ := hq
      exact ⟨v, σ', H', J'.ofTry okX, r, q⟩
end
end K31
end
section
set_option maxHeartbeats 2000000
set_option autoImplicit false
/-! The walk: what is heard of a call that raises. -/
namespace K31
open PySem PySem.Spec PyProof.Rows L2
abbrev N__law_heard : List Str := ["_law_ask", "_law_caught", "error"]
theorem sc__law_heard : FnScope N__law_heard ["_law_ask"] (defScope s__law_heard) := ⟨rfl, rfl, rfl, by decide +kernel, rfl, by decide +kernel, by decide +kernel⟩
/-- what hearing makes of a call: the exception kept, none without one -/
def THear (K : PySem.W.Frag) : (XK → Hp → VK → Prop) → Hp → VK → Prop := fun tl H Q =>
  tl (fun cls d H' => PySem.W.exmOne K cls (.ref (He.ga K "CurveError")) = some true ∧ ∀ a, H' a = none → Q (.ref a) (upd H' a (keptO a cls d))) H fun _ H' => Q .non H'
theorem heard_gives {X : Cx} {P : Program} {q : Str} {g : Addr} {cdg : Value} (T : TC P X.K X.mg) : LamX.GivesTo X N__law_heard "_law_heard" (defScope s__law_heard) g cdg (defBody s__law_heard) "_law_ask" q (THear X.K) := by
  intro f c' s H Q tl act hc h
  refine ⟨_, pss_cons (ps_set (X := (cxOf C8.CX0 X.prog X.w X.K X.mg X.base N__law_heard "_law_heard" (defScope s__law_heard) g cdg X.A X.stack s H C8.E0).nox) (i := 1) sc__law_heard.nd rfl (.inl rfl) pe_non)
    (pss_cons (ps_try_keep (X := (cxOf C8.CX0 X.prog X.w X.K X.mg X.base N__law_heard "_law_heard" (defScope s__law_heard) g cdg X.A X.stack s H C8.E0).nox) (c := .ref (He.ga X.K "CurveError")) (i := 2) (j := 1)
      (tb := fun W D σ H => ∃ Ech : XK, (∀ cls d σ' H', Ech cls d H' → W cls d σ' H') ∧ σ[0]? = some (some (.ref f)) ∧ H c' = some (LamX.CodeO c' q) ∧ tl Ech H fun _ H' => D.nx σ H')
      rfl rfl rfl sc__law_heard.nd rfl rfl (by decide) rfl rfl ⟨rfl, by decide, .inl T.g_CurveError⟩ (by decide) (by decide) rfl (fun W pn xe tk _ => ?_)) (pss_cons (ps_ret (pe_var (i := 1) rfl (.inl rfl))) pss_nil)), ?_⟩
  · refine ⟨fun pins s' σ H' D I h' => ?_⟩
    obtain ⟨Ech, hW, h1, h2, h3⟩ := h'
    exact (pss_one (ps_expr (X := (cxOf C8.CX0 X.prog X.w X.K X.mg X.base N__law_heard "_law_heard" (defScope s__law_heard) g cdg X.A X.stack s H C8.E0).tr pn xe) (act W pn xe Ech _ _ tk hW))).run pins s' σ H' D I ⟨h1, h2, h3⟩
  · refine ⟨fun cls d H' => PySem.W.exmOne X.K cls (.ref (He.ga X.K "CurveError")) = some true ∧ ∀ a, H' a = none → Q (.ref a) (upd H' a (keptO a cls d)), fun cls d σ' H' ⟨e1, e2⟩ => ⟨e1, fun a ha hl => ⟨.ref a, ?_, e2 a ha⟩⟩, rfl, hc, ?_⟩
    · have hl3 : σ'.length = 3 := hl
      rw [List.getElem?_set_ne (by decide), List.getElem?_set_self (by rw [List.length_set]; omega)]
    · have eQ : (fun (_ : V) (H' : Hp) => ∃ v : V, ((L2.start N__law_heard [V.ref f]).set 1 (some V.non))[1]? = some (some v) ∧ Q v H') = fun (_ : V) (H' : Hp) => Q .non H' := by
        funext _ H'
        refine propext ⟨fun ⟨v, e, z⟩ => ?_, fun z => ⟨.non, rfl, z⟩⟩
        have e : some (some V.non) = some (some v) := e
        cases e
        exact z
      show tl _ H (fun (_ : V) (H' : Hp) => ∃ v : V, ((L2.start N__law_heard [V.ref f]).set 1 (some V.non))[1]? = some (some v) ∧ Q v H')
      rw [eQ]
      exact h
end K31
end
section
set_option maxHeartbeats 2000000
set_option autoImplicit false
/-! A lambda with defaults is made. -/
namespace K31
open PySem PySem.Spec PySem.Calls PyProof.Rows L2
/-- the function that a lambda with the defaults dV is -/
abbrev lamFn (dV : Value) (q : Str) (par : Arguments) (b : Expr) (sc : Scope) (cl : List (Str × Addr)) (pm cdv ct : Value) : FuncData :=
  { name := "<lambda>", qualname := q, params := par, body := .expr b, scope := sc, globals := mainGlobals, closure := cl, defaults := dV, kwdefaults := .none, doc := .none, pyModule := pm, annotations := none, code := cdv, closureTuple := ct, builtins := builtinsNs }
abbrev lamObj (dV : Value) (q : Str) (par : Arguments) (b : Expr) (sc : Scope) (cl : List (Str × Addr)) (pm cdv ct : Value) : Obj := { cls := .type "function", data := .func (lamFn dV q par b sc cl pm cdv ct) }
section
variable {M : Model} {A : Around} {Er : Value → Shared → Prop} {s : Shared} {q : Str} {par : Arguments} {b : Expr} {sc : Scope} {env : Env} {c T : Addr} {tb : Array Value} {pos : Pos} {ln : Nat} {mg : Str → Option Value} {cl : List (Str × Addr)} {Q : Value → Shared → Prop} {dV : Value}
theorem lam_tail (h1 : closureFor sc env = pure cl) (h2 : env.globals = mainGlobals) (h3 : s.heap.Ns mainGlobals mg) (h4 : env.code = .ref c) (h5 : PySem.W.CodeHd s.heap c T) (h6 : s.heap.get? T = some (PySem.W.tabObj tb)) (h7 : TriplesOk tb.toList) (h8 : codeAmong pos tb.toList = none) (h9 : mainGlobals ≠ T) (hB : s.heap.BuiltinsAt mg T)
    (k : ∀ c2 ctv g tk, Heap.ExtBut T s.heap g → s.heap.objs.size ≤ c2 → c2 < g.objs.size → g.CodeRec (.ref c2) q → g.get? T = some (PySem.W.tabObj (tb ++ #[rawInt pos.line, rawInt pos.col, .ref c2])) → Q (.ref g.objs.size) { s with heap := g.push (lamObj dV q par b sc cl ((mg "__name__").getD .none) (.ref c2) ctv), toks := tk }) :
    wpAny M A (makeTail "<lambda>" q par (.expr b) sc env dV .none none pos ln) Q Er s := by
  obtain ⟨bm, ob, b1, b2, _, b3, b4, b5, b6, b7⟩ := hB
  unfold makeTail
  rw [h1, h2]
  refine wpAny_bind (wpAny_pure ?_)
  have last : ∀ {s0 : Shared} {ctv : Value}, (∀ y o, s.heap.get? y = some o → s0.heap.get? y = some o) → s.heap.objs.size ≤ s0.heap.objs.size → s0.heap.Ns mainGlobals mg → PySem.W.CodeHd s0.heap c T → s0.heap.get? T = some (PySem.W.tabObj tb) → s0 = { s with heap := s0.heap } →
      wpAny M A (do let fd : FuncData := { name := "<lambda>", qualname := q, params := par, body := .expr b, scope := sc, globals := mainGlobals, closure := cl, closureTuple := ctv, code := ← functionCode env pos ln "<lambda>" q par sc (.expr b), builtins := ← builtinsFor mainGlobals env.builtins, defaults := dV, kwdefaults := .none, annotations := none, pyModule := (← nsGet mainGlobals "__name__").getD .none, doc := ← pure .none }; newObj (.type "function") (.func fd)) Q Er s0 := fun {s0 ctv} e1 e2 e3 e4 e5 e6 => by
    refine wpAny_bind (wpAny_functionCodeX h4 (e4.code e5 h7) (e4.tab e5) h8 fun c2 g tk x1 x2 x3 _ x4 x5 _ => ?_)
    have n2 := e3.extBut x1 h9
    have x6 : Heap.ExtBut T s.heap g := fun y o hy ho => x1 y o hy (e1 _ _ ho)
    refine wpAny_bind (wpAny_builtinsFor n2 b1 b2 (x6 _ _ b3 b4) b5 b6 b7 ?_)
    refine wpAny_bind (wpAny_nsGet n2 ?_)
    refine wpAny_bind (wpAny_pure (wpAny_newObj_type ?_ (by size_fits)))
    have z := k c2 ctv g tk x6 (Nat.le_trans e2 x2) x3 x4 x5.2
    rw [e6]
    exact z
  cases cl with
  | nil =>
    simp only [List.isEmpty_nil, if_true]
    exact wpAny_bind (wpAny_pure (last (fun _ _ z => z) (Nat.le_refl _) h3 h5 h6 rfl))
  | cons p r =>
    simp only [List.isEmpty_cons, Bool.false_eq_true, if_false]
    refine wpAny_bind (wpAny_newTextTuple ?_)
    exact last (fun _ _ z => Heap.get?_push_of_some _ z) (by show s.heap.objs.size ≤ _; rw [Heap.size_push]; omega) (h3.push _) (h5.keeps fun _ _ z => Heap.get?_push_of_some _ z) (Heap.get?_push_of_some _ h6) rfl
theorem lam_tail_hit {cv : Value} (h1 : closureFor sc env = pure cl) (h2 : env.globals = mainGlobals) (h3 : s.heap.Ns mainGlobals mg) (h4 : env.code = .ref c) (h5 : PySem.W.CodeHd s.heap c T) (h6 : s.heap.get? T = some (PySem.W.tabObj tb)) (h7 : TriplesOk tb.toList) (h8 : codeAmong pos tb.toList = some cv) (hB : s.heap.BuiltinsAt mg T)
    (k : ∀ (ctv : Value) (g : Heap) (tk : Tok), (∀ y o, s.heap.get? y = some o → g.get? y = some o) → s.heap.objs.size ≤ g.objs.size → Q (.ref g.objs.size) { s with heap := g.push (lamObj dV q par b sc cl ((mg "__name__").getD .none) cv ctv), toks := tk }) :
    wpAny M A (makeTail "<lambda>" q par (.expr b) sc env dV .none none pos ln) Q Er s := by
  obtain ⟨bm, ob, b1, b2, _, b3, b4, b5, b6, b7⟩ := hB
  unfold makeTail
  rw [h1, h2]
  refine wpAny_bind (wpAny_pure ?_)
  have last : ∀ {s0 : Shared} {ctv : Value}, (∀ y o, s.heap.get? y = some o → s0.heap.get? y = some o) → s.heap.objs.size ≤ s0.heap.objs.size → s0.heap.Ns mainGlobals mg → PySem.W.CodeHd s0.heap c T → s0.heap.get? T = some (PySem.W.tabObj tb) → s0 = { s with heap := s0.heap } →
      wpAny M A (do let fd : FuncData := { name := "<lambda>", qualname := q, params := par, body := .expr b, scope := sc, globals := mainGlobals, closure := cl, closureTuple := ctv, code := ← functionCode env pos ln "<lambda>" q par sc (.expr b), builtins := ← builtinsFor mainGlobals env.builtins, defaults := dV, kwdefaults := .none, annotations := none, pyModule := (← nsGet mainGlobals "__name__").getD .none, doc := ← pure .none }; newObj (.type "function") (.func fd)) Q Er s0 := fun {s0 ctv} e1 e2 e3 e4 e5 e6 => by
    refine wpAny_bind (wpAny_functionCode_hit h4 (e4.code e5 h7) h8 ?_)
    refine wpAny_bind (wpAny_builtinsFor e3 b1 b2 (e1 _ _ b4) b5 b6 b7 ?_)
    refine wpAny_bind (wpAny_nsGet e3 ?_)
    refine wpAny_bind (wpAny_pure (wpAny_newObj_type ?_ (by size_fits)))
    have z := k ctv s0.heap s.toks e1 e2
    rw [e6]
    exact z
  cases cl with
  | nil =>
    simp only [List.isEmpty_nil, if_true]
    exact wpAny_bind (wpAny_pure (last (fun _ _ z => z) (Nat.le_refl _) h3 h5 h6 rfl))
  | cons p r =>
    simp only [List.isEmpty_cons, Bool.false_eq_true, if_false]
    refine wpAny_bind (wpAny_newTextTuple ?_)
    exact last (fun _ _ z => Heap.get?_push_of_some _ z) (by show s.heap.objs.size ≤ _; rw [Heap.size_push]; omega) (h3.push _) (h5.keeps fun _ _ z => Heap.get?_push_of_some _ z) (Heap.get?_push_of_some _ h6) rfl
end
end K31
end
section
set_option maxHeartbeats 2000000
set_option autoImplicit false
/-! A lambda with one default is made. -/
namespace K31
open PySem PySem.Spec PySem.Calls PyProof.Rows L2 LamX
/-- what such a lambda leaves: the function at f, its default's tuple at t -/
structure LamAt (X : Cx) (par : Arguments) (b : Expr) (sc : Scope) (f c2 t : Addr) (h : Heap) (H : Hp) : Prop where
  fn : ∃ pm ctv, h.get? f = some (lamObj (.ref t) (X.env.qual ++ "<lambda>") par b sc (cloFrom X.env.cells sc.names []) pm (.ref c2) ctv)
  tup : ∃ tk, h.get? t = some ({ cls := .type "tuple", data := .seq #[.int 0 tk] } : Obj)
  nf : H f = none
  nt : H t = none
  ff : f ∉ frs X.stack
  tf : t ∉ frs X.stack
  co : H c2 = some (CodeO c2 (X.env.qual ++ "<lambda>"))
section
variable {X : Cx} {pins : List (Addr × Obj)} {σ : L2.St} {H : Hp} {s : Shared}
theorem off_stack (I : Inv X pins σ H s) {a : Addr} (ha : s.heap.objs.size ≤ a) : a ∉ frs X.stack := fun z => by
  rcases List.mem_cons.mp (I.stkSub _ z) with e | e
  · have h1 := I.lt
    rw [← e] at h1
    exact Nat.lt_irrefl _ (Nat.lt_of_lt_of_le h1 ha)
  · exact I.nofs ha e
theorem lam_make3 {Ts : List (Addr × Str)} {c T : Addr} {par : Arguments} {b d0 : Expr} {sc : Scope} {pos : Pos} {E : Value → Shared → Prop} {Q : Value → Shared → Prop} (I : Inv X pins σ H s) (TB : TabB X.base X.mg c T) (hcode : X.env.code = .ref c) (hm : (T, X.env.qual ++ "<lambda>") ∈ Ts)
    (hu : ∀ p ∈ Ts, p.1 = T → p.2 = X.env.qual ++ "<lambda>") (hT : Tabs Ts H) (hdef : defaultsOf par X.env = ([eval d0 X.env], [])) (hd0 : ∀ {Q0 : Value → Shared → Prop}, (∀ tk s1, Inv X pins σ H s1 → Q0 (.int 0 tk) s1) → wpAny (model X.prog X.w) X.A (eval d0 X.env) Q0 E s) (hkw : par.kwonlyargs = [])
    (hfree : ∀ y ∈ sc.names, y.2 = .free → ∃ c, X.env.cells.lookup y.1 = some c) (k : ∀ (f c2 t : Addr) (H1 : Hp) (s1 : Shared), Inv X pins σ H1 s1 → ExtN H H1 → Tabs Ts H1 → LamAt X par b sc f c2 t s1.heap H1 → Q (.ref f) s1) :
    wpAny (model X.prog X.w) X.A (eval (.Lambda par b sc pos) X.env) Q E s := by
  rw [arm_eval_Lambda, hdef]
  refine wpAny_bind (wpAny_evalAll_cons (hd0 fun tk s1 I1 => wpAny_evalAll_nil ?_))
  refine wpAny_bind (wpAny_holding (wpAny_pure ?_))
  rw [makeFunction_eq, hkw]
  simp only [List.zip_nil_left, List.filterMap_nil, List.isEmpty_nil, List.isEmpty_cons, Bool.false_eq_true, if_false, if_true, pure_bind]
  refine wpAny_bind (wpAny_newTextTuple ?_)
  obtain ⟨ps, hP, htri, hin⟩ := hT _ hm
  have I2 : Inv X pins σ H { s1 with heap := s1.heap.push ({ cls := .type "tuple", data := .seq [Value.int 0 tk].toArray } : Obj) } := I1.kept (t' := s1.toks) fun _ _ z => Heap.get?_push_of_some _ z
  have tAt : (s1.heap.push ({ cls := .type "tuple", data := .seq [Value.int 0 tk].toArray } : Obj)).get? s1.heap.objs.size = some ({ cls := .type "tuple", data := .seq #[.int 0 tk] } : Obj) := Heap.get?_push_size _ rfl
  have tNone : H s1.heap.objs.size = none := I1.hok.fresh (Nat.le_refl _)
  have tOff := off_stack I1 (Nat.le_refl s1.heap.objs.size)
  have pAt := I2.hok T _ hP
  have tNe : s1.heap.objs.size ≠ T := fun z => by
    rw [z, hP] at tNone
    cases tNone
  cases hc : codeAmong pos ps.toList with
  | none =>
    refine lam_tail (mg := X.mg) (c := c) (T := T) (tb := ps) (closure_ok hfree) I2.ok.glob (I2.mod.glob.keeps I2.bk) hcode (TB.code.keeps I2.bk) pAt htri hc TB.gP (TB.bm.keeps I2.bk) fun c2 ctv g tk2 g1 g2 g3 g4 g5 => ?_
    obtain ⟨c3, oc, vs, t3, e3, w1, w2, w3⟩ := g4
    cases e3
    have nC : H c2 = none := I2.hok.fresh g2
    have size2 : (s1.heap.push ({ cls := .type "tuple", data := .seq [Value.int 0 tk].toArray } : Obj)).objs.size ≤ g.objs.size := Nat.le_trans g2 (Nat.le_of_lt g3)
    have I3 := inv_table (t' := tk2) (more := #[rawInt pos.line, rawInt pos.col, .ref c2]) (h' := g.push (lamObj (.ref s1.heap.objs.size) (X.env.qual ++ "<lambda>") par b sc (cloFrom X.env.cells sc.names []) ((X.mg "__name__").getD .none) (.ref c2) ctv)) I2 hP (fun y o hy z => Heap.get?_push_of_some _ (g1 y o hy z)) (Heap.get?_push_of_some _ g5) g2 ⟨oc, vs, t3, Heap.get?_push_of_some _ w1, w2, w3⟩
    have keeps : ExtN H (upd (upd H T (.tbl (ps ++ #[rawInt pos.line, rawInt pos.col, .ref c2]))) c2 (CodeO c2 (X.env.qual ++ "<lambda>"))) := fun y o z n => by
      have y1 : y ≠ T := fun zz => by
        rw [zz, hP] at z
        exact n ps (Option.some.inj z).symm
      rw [upd_ne (ne_of_none z nC), upd_ne y1]
      exact z
    have asList : (ps ++ #[rawInt pos.line, rawInt pos.col, .ref c2]).toList = ps.toList ++ [rawInt pos.line, rawInt pos.col, .ref c2] := by simp
    have free2 : ∀ {y : Addr}, y ≠ c2 → y ≠ T → H y = none → upd (upd H T (.tbl (ps ++ #[rawInt pos.line, rawInt pos.col, .ref c2]))) c2 (CodeO c2 (X.env.qual ++ "<lambda>")) y = none := fun {y} n1 n2 n3 => by rw [upd_ne n1, upd_ne n2]; exact n3
    have tNeC : s1.heap.objs.size ≠ c2 := fun z => by
      have := g2
      rw [Heap.size_push, ← z] at this
      omega
    have fNeT : g.objs.size ≠ T := fun z => by
      have := Nat.lt_of_lt_of_le (Heap.lt_size pAt) size2
      rw [z] at this
      exact Nat.lt_irrefl _ this
    refine k g.objs.size c2 s1.heap.objs.size _ _ I3 keeps (fun p hp => ?_) ⟨⟨_, ctv, Heap.get?_push_size _ rfl⟩, ⟨tk, Heap.get?_push_of_some _ (g1 _ _ tNe tAt)⟩, free2 (Nat.ne_of_gt g3) fNeT (I2.hok.fresh size2), free2 tNeC tNe tNone, off_stack I2 size2, tOff, upd_same⟩
    by_cases hb : p.1 = T
    · rw [hu p hp hb, hb]
      refine ⟨_, by rw [upd_ne (ne_of_none hP nC), upd_same], by rw [asList]; exact PySem.TriplesOk_snoc _ _ _ _ htri, fun p2 cv h2 => ?_⟩
      rw [asList] at h2
      rcases among_app _ htri h2 with z | z
      · obtain ⟨c0, z1, z2⟩ := hin p2 cv z
        exact ⟨c0, z1, keeps _ _ z2 codeO_ne⟩
      · exact ⟨c2, z, upd_same⟩
    · obtain ⟨ps2, a1, a2, a3⟩ := hT p hp
      refine ⟨ps2, by rw [upd_ne (ne_of_none a1 nC), upd_ne hb]; exact a1, a2, fun p2 cv h2 => ?_⟩
      obtain ⟨c0, z1, z2⟩ := a3 p2 cv h2
      exact ⟨c0, z1, keeps _ _ z2 codeO_ne⟩
  | some cv =>
    obtain ⟨c2, e, hco⟩ := hin pos cv hc
    subst e
    refine lam_tail_hit (mg := X.mg) (c := c) (T := T) (tb := ps) (closure_ok hfree) I2.ok.glob (I2.mod.glob.keeps I2.bk) hcode (TB.code.keeps I2.bk) pAt htri hc (TB.bm.keeps I2.bk) fun ctv g tk2 g1 g2 => ?_
    have I3 : Inv X pins σ H { s1 with heap := g.push (lamObj (.ref s1.heap.objs.size) (X.env.qual ++ "<lambda>") par b sc (cloFrom X.env.cells sc.names []) ((X.mg "__name__").getD .none) (.ref c2) ctv), toks := tk2 } := I2.kept fun y o z => Heap.get?_push_of_some _ (g1 _ _ z)
    exact k g.objs.size c2 s1.heap.objs.size H _ I3 (ExtN.refl H) hT ⟨⟨_, ctv, Heap.get?_push_size _ rfl⟩, ⟨tk, Heap.get?_push_of_some _ (g1 _ _ tAt)⟩, I2.hok.fresh g2, tNone, off_stack I2 g2, tOff, hco⟩
end
end K31
end
section
set_option maxHeartbeats 2000000
set_option autoImplicit false
/-! A lambda with one default is called. -/
namespace K31
open PySem PySem.Spec PySem.Calls PyProof.Rows L2 LamX
/-- its names: own ones that are none of the maker's, captured ones, globals -/
structure LamS3 (N : List Str) (so sc : Scope) : Prop where
  kind : sc.kind = .function
  co : sc.isCoroutine = false
  gen : sc.isGenerator = false
  own : ∀ y ∈ sc.names, (y.2 = .local → y.1 ∉ N) ∧ y.2 ≠ .cell
  free : ∀ y ∈ sc.names, y.2 = .free → so.names.lookup y.1 = some .cell ∨ so.names.lookup y.1 = some .free
section
variable {X : Cx} {pins : List (Addr × Obj)} {σ : L2.St} {H H2 : Hp} {s s2 : Shared}
theorem lam_start3 {A : Around} {outer : List Env} {E : XK} {sc : Scope} {f c2 : Addr} {g : Heap} {tk : Nat} {m : Str → Option Value} (I : Inv X pins σ H s) (L : LamS3 X.N X.env.scope sc) (e0 : Env0 X.prog X.w X.K X.mg X.base A outer s2 H2) (hd : A.handled = none) (un : Un (frs X.stack) [] H H2 s.heap s2.heap)
    (hns : g.Ns s2.heap.objs.size m) (kp : ∀ y o, s2.heap.get? y = some o → g.get? y = some o) : Inv (lamCx X A outer s2 H2 E sc f c2) [] σ H2 { s2 with heap := g, toks := tk } := by
  have has : ∀ y ∈ sc.names, y.2 = .free → ∃ c, X.env.cells.lookup y.1 = some c := fun y hy e => (L.free y hy e).elim (fun z => I.ok.has _ (.inl z)) fun z => I.ok.has _ (.inr z)
  have back : ∀ {y : Str} {c : Addr}, (cloFrom X.env.cells sc.names []).lookup y = some c → X.env.cells.lookup y = some c := fun {y c} e => NdefX.clo_cm has e
  have there : ∀ {y : Str}, sc.names.lookup y = some .free → ∃ c, (cloFrom X.env.cells sc.names []).lookup y = some c := fun {y} hl => mem_lookup (cloFrom_has (cells := X.env.cells) (acc := []) (PySem.mem_of_lookup hl : (y, NameKind.free) ∈ sc.names))
  have stays : ∀ {c : Addr} {v : Option Value}, H c = none → s.heap.IsCell c v → g.IsCell c v := fun {c v} n ⟨o, ho, hd⟩ => by
    obtain ⟨sl, q⟩ := un.any ho n (by simp)
    exact ⟨_, kp _ _ q, hd⟩
  have noEx : ∀ y : Addr, y ∉ (lamCx X A outer s2 H2 E sc f c2).ex := fun y z => absurd (show y ∈ ([] : List Addr) from z) (by simp)
  refine ⟨⟨e0.mod, L.kind, rfl, rfl, Nat.le_refl _, fun y z c e1 e2 => I.ok.inj y z c (back e1) (back e2), fun y hy => ?_, fun y c z _ => (by cases (show false = true from z)), fun _ => hd, Around.frames_deeper e0.frames, .inr ⟨rfl, rfl⟩, fun y z => absurd z (noEx y), e0.bs, e0.bsz, fun y _ _ => noEx y, fun y z => absurd z (noEx y), e0.funs, e0.frf⟩,
    rfl, e0.bare, Un.kept kp, ⟨_, hns, fun i y v e1 e2 e3 => ?_⟩, fun y c e => ?_, e0.hok.fresh (Nat.le_refl _), fun y c e => ?_, fun q hq => absurd (show q ∈ ([] : List (Addr × Obj)) ++ [] from hq) (by simp), e0.hok.kept kp, I.len⟩
  · rcases (show sc.names.lookup y = some .cell ∨ sc.names.lookup y = some .free from hy) with z | z
    · exact absurd rfl (L.own _ (PySem.mem_of_lookup z)).2
    · exact there z
  · rcases (show Vis sc y from e3) with z | z | z
    · exact absurd (List.mem_of_getElem? (show X.N[i]? = some y from e1)) ((L.own _ (PySem.mem_of_lookup z)).1 rfl)
    · exact absurd rfl (L.own _ (PySem.mem_of_lookup z)).2
    · obtain ⟨m0, _, look⟩ := I.loc
      have outerK := L.free _ (PySem.mem_of_lookup z) rfl
      obtain ⟨u, ru, qu⟩ := look i y v e1 e2 (outerK.elim (fun k => .inr (.inl k)) fun k => .inr (.inr k))
      obtain ⟨c, hc⟩ := there z
      refine ⟨u, ru, .inr ⟨.inr z, c, hc, ?_⟩⟩
      rcases qu with ⟨k1, _⟩ | ⟨_, c3, k2, k3⟩
      · have k1 : X.env.scope.names.lookup y = some .local := k1
        rcases outerK with k2 | k2 <;> rw [show X.env.scope.names.lookup y = _ from k2] at k1 <;> cases k1
      · rw [back hc] at k2
        cases k2
        exact stays (I.freeC y _ (back hc)) k3
  · obtain ⟨v, z⟩ := I.cell y c (back e)
    exact ⟨v, stays (I.freeC y c (back e)) z⟩
  · obtain ⟨v, o, ho, hd⟩ := I.cell y c (back e)
    exact un.free c o ho (I.freeC y c (back e)) (by simp)
end
end K31
end
section
set_option maxHeartbeats 2000000
set_option autoImplicit false
/-! A lambda with one default is called by the def that got it. -/
namespace K31
open PySem PySem.Spec PySem.Calls PyProof.Rows L2 LamX
section
variable {X : Cx} {pins : List (Addr × Obj)} {σ : L2.St} {H : Hp} {s : Shared}
theorem pe_act3 {CXg : CXT} {Eg : XK} {Ng : List Str} {qg x1 : Str} {sg : Scope} {g f c2 t : Addr} {cdg : Value} {par : Arguments} {b : Expr} {sc : Scope} {k i : Nat} {a : Str} {pn : List (Addr × Obj)} {xe : Value → Shared → Prop} {W : WX} {E : XK} {tb : TE} {p1 p2 : Pos} (I : Inv X pins σ H s) (L : LamS3 X.N X.env.scope sc) (la : LamAt X par b sc f c2 t s.heap H)
    (hbind : ∀ (q : Str) (cl : List (Str × Addr)) (pm cv ctv : Value) (tk : Tok), ∃ kk, bindArgs (lamFn (.ref t) q par b sc cl pm cv ctv) ⟨[], []⟩ = seqItems? (.ref t) >>= kk ∧ kk (some #[.int 0 tk]) = pure [(x1, .int 0 tk)]) (hx1 : sc.names.lookup x1 = some .local)
    (tk : Takes ((cxOf CXg X.prog X.w X.K X.mg X.base Ng qg sg g cdg X.A X.stack s H Eg).tr pn xe) W) (hW : ∀ cls d σ' H', E cls d H' → W cls d σ' H') (hr : Room (k + 1) (X.A.deeper (envOfC qg sg s.heap.objs.size g cdg)))
    (hbody : ∀ (A : Around) (outer : List Env) (s : Shared) (H : Hp), Room k (A.deeper (lamEnv X sc s.heap.objs.size f c2)) → PE (lamCx X A outer s H E sc f c2) b tb) (hN : Ng[i]? = some a) (hv : Vis sg a) (hd : (a == ("__debug__" : Str)) = false := by decide) (hcd : (a == ("__classdict__" : Str)) = false := by decide) :
    PE ((cxOf CXg X.prog X.w X.K X.mg X.base Ng qg sg g cdg X.A X.stack s H Eg).tr pn xe) (.Call (.Name a p1) [] [] p2) (fun σZ HZ Q => σZ[i]? = some (some (.ref f)) ∧ HZ c2 = some (CodeO c2 (X.env.qual ++ "<lambda>")) ∧ tb σ HZ Q) := by
  refine ⟨fun pz sz σz Hz Q Iz ⟨hs, hc, ht⟩ => ?_⟩
  refine wpAny_Call_Name_kw (thn ((pe_var (pos := p1) (i := i) hN hv hd hcd).run pz sz σz Hz (fun v H1 => v = .ref f ∧ H1 = Hz) Iz ⟨.ref f, hs, rfl, rfl⟩) fun u s1 ⟨v, H1, I1, r1, ev, eH⟩ => ?_)
  subst ev
  rw [eH] at I1
  obtain rfl : u = Value.ref f := r1
  obtain ⟨pm, ctv, hf0⟩ := la.fn
  obtain ⟨tk0, ht0⟩ := la.tup
  have hf1 := I1.base.keep f _ hf0 la.nf la.ff fun z => nomatch (show f ∈ ([] : List Addr) from z)
  have ht1 := I1.base.keep t _ ht0 la.nt la.tf fun z => nomatch (show t ∈ ([] : List Addr) from z)
  refine PySem.W.callWith_F0 ⟨_, _, _, _, hf1⟩ ?_
  have un : Un (frs X.stack) [] H Hz s.heap s1.heap := I1.base
  obtain ⟨⟨oc, vs, t9, w1, w2, w3⟩, _, _⟩ := I1.hok c2 _ hc
  obtain ⟨kk, k1, k2⟩ := hbind (X.env.qual ++ "<lambda>") (cloFrom X.env.cells sc.names []) pm (.ref c2) ctv tk0
  have called : codeAny (model X.prog X.w) (X.A.deeper (envOfC qg sg s.heap.objs.size g cdg)) (.call (.ref f) ⟨[], []⟩) (CR (L2.CX X.prog X.w) (envOfC qg sg s.heap.objs.size g cdg :: X.stack) X.prog X.w Hz s1 Q E) s1 := by
    refine PySem.W.kla_callFunE hr.depth hf1 rfl L.co L.gen rfl ⟨c2, oc, vs, t9, rfl, w1, w2, w3⟩ ?_
    refine BindsTo.of_defaults (T := t) rfl ht1 rfl k1 k2 _ _ _ _ ?_
    refine wpAny_newFunctionEnv (fun y hy => (L.own y hy).2) (fun y hy => ?_) (fun g1 hns hsb => ⟨I1.nolimit.fresh _ hsb, ?_⟩) L.kind
    · rw [List.mem_singleton.mp hy]
      exact hx1
    · have kp : ∀ y o, s1.heap.get? y = some o → g1.get? y = some o := fun y o e => hsb.extBut y o (Nat.ne_of_lt (Heap.lt_size e)) (Heap.get?_push_of_some _ e)
      have J : Inv (lamCx X (X.A.deeper (envOfC qg sg s.heap.objs.size g cdg)) (envOfC qg sg s.heap.objs.size g cdg :: X.stack) s1 Hz E sc f c2) [] σ Hz { s1 with heap := g1, toks := s1.toks + ([(x1, Value.int 0 tk0)] : List (Str × Value)).length } := lam_start3 I L I1.env0 hr.hd un hns kp
      refine PySem.W.kla_codeExpr (wpAny_mono ((hbody _ _ s1 Hz (hr.deeper _)).run [] _ _ Hz Q J ht) (fun v s' ⟨w', H', J', rv, q⟩ => ⟨w', H', J'.os, J'.bare, J'.base, J'.hok, rv, q⟩) fun e s' hq => hq)
  have hx : Passes (L2.CX X.prog X.w) ((cxOf CXg X.prog X.w X.K X.mg X.base Ng qg sg g cdg X.A X.stack s H Eg).tr pn xe) E := passes_call tk hW
  refine wpAny_call (codeAny_mono called fun r s' hq => ?_)
  cases r with
  | error e => exact hx pz σz Hz s1 e s' I1 hq
  | ok fl =>
    cases fl with
    | ret u => exact I1.after hq
    | next => exact False.elim hq
    | brk => exact False.elim hq
    | cont => exact False.elim hq
end
end K31
end
section
set_option maxHeartbeats 2000000
set_option autoImplicit false
/-! x(lambda a=0: body) -/
namespace K31
open PySem PySem.Spec PySem.Calls PyProof.Rows L2 LamX
section
variable {X : Cx}
theorem pe_lamcall3 {Ts : List (Addr × Str)} {TT : (XK → Hp → VK → Prop) → Hp → VK → Prop} {x a x1 : Str} {g c T : Addr} {k : Nat} {pg : Arguments} {bg : List Stmt} {sg : Scope} {dV kV doc pm cdv ct oc : Value} {an od : Option Addr} {osl : Array (Option Value)} {Ng : List Str} {par : Arguments} {b d0 : Expr} {sc : Scope} {t : XK → TE} {p lpos pos : Pos}
    (hg : Gl X x) (hm : X.mg x = some (.ref g)) (hk : PySem.W.keepIn X.K (.ref g) = true) (lk : X.K.lookup g = some ⟨oc, od, .func (PySem.W.fnOf x x pg bg sg dV kV doc pm an cdv ct), osl⟩) (hcg : PySem.W.codeIn X.K cdv x = true) (hb : L2.Binds X.K (PySem.W.fnOf x x pg bg sg dV kV doc pm an cdv ct) [a] []) (Sg : FnScope Ng [a] sg)
    (hNg : Ng[0]? = some a) (hva : Vis sg a) (hG : GivesTo X Ng x sg g cdv bg a (X.env.qual ++ "<lambda>") TT) (TB : TabB X.base X.mg c T) (hcode : X.env.code = .ref c) (hmT : (T, X.env.qual ++ "<lambda>") ∈ Ts) (hu : ∀ p ∈ Ts, p.1 = T → p.2 = X.env.qual ++ "<lambda>") (hr : Room (k + 2) X.A) (L : LamS3 X.N X.env.scope sc)
    (hdef : defaultsOf par X.env = ([eval d0 X.env], [])) (hd0 : PE X d0 (tC (.int 0))) (hkw : par.kwonlyargs = []) (hx1 : sc.names.lookup x1 = some .local)
    (hbind : ∀ (tt : Addr) (q : Str) (cl : List (Str × Addr)) (pm cv ctv : Value) (tk : Tok), ∃ kk, bindArgs (lamFn (.ref tt) q par b sc cl pm cv ctv) ⟨[], []⟩ = seqItems? (.ref tt) >>= kk ∧ kk (some #[.int 0 tk]) = pure [(x1, .int 0 tk)])
    (hbody : ∀ (A : Around) (outer : List Env) (s : Shared) (H : Hp) (E : XK) (f c2 : Addr), Room k (A.deeper (lamEnv X sc s.heap.objs.size f c2)) → PE (lamCx X A outer s H E sc f c2) b (t E))
    (hdb : (x == ("__debug__" : Str)) = false := by decide) (hd : (a == ("__debug__" : Str)) = false := by decide) (hcd : (a == ("__classdict__" : Str)) = false := by decide) : PE X (.Call (.Name x p) [.Lambda par b sc lpos] [] pos) (tLam Ts TT t) := by
  refine ⟨fun pins s σ H Q I ⟨hT, h⟩ => ?_⟩
  have hfree : ∀ y ∈ sc.names, y.2 = .free → ∃ c, X.env.cells.lookup y.1 = some c := fun y hy e => (L.free y hy e).elim (fun z => I.ok.has _ (.inl z)) fun z => I.ok.has _ (.inr z)
  refine wpAny_Call_Name_kw (ld_glob I hg hm ?_ hdb)
  refine PySem.W.callWith_K (h₀ := X.base) I.ok.mod.kin hk ?_ (by rfl) (by rfl)
  show wpAny _ _ (spliced ((false, eval (.Lambda par b sc lpos) X.env) :: backTo pos (starEach [] X.env))) _ _ s
  refine Calls.spliced_cons (lam_make3 I TB hcode hmT hu hT hdef (fun {Q0} q0 => thn (hd0.run pins s σ H (fun v H' => v = .int 0 ∧ H' = H) I ⟨rfl, rfl⟩) fun u s1 ⟨v, H1, I1, r1, ev, eH⟩ => ?_) hkw hfree fun f c2 tt H1 s1 I1 eN T1 la => ?_)
  · subst ev
    rw [eH] at I1
    obtain ⟨tk, rfl⟩ := (show ∃ tk, u = Value.int 0 tk from r1)
    exact q0 tk s1 I1
  refine Calls.spliced_nil ⟨I1.kIn, ?_⟩
  have called : codeAny (model X.prog X.w) X.A (.call (.ref g) ⟨[.ref f], []⟩) (CR C8.CX0 X.stack X.prog X.w H1 s1 Q C8.E0) s1 := by
    refine run_ofS (N := Ng) (ps := [a]) (us := [.ref f]) (vs := [.ref f]) lk hcg Sg hr I1.env0 (hb s1 [.ref f] I1.kIn rfl) (.cons rfl .nil) rfl fun hr2 => ?_
    obtain ⟨tr, ht, hq⟩ := hG f c2 s1 H1 Q (fun E H' Q' => t E σ H' Q') (fun W pn xe E p1 p2 tk hW => pe_act3 (i := 0) I1 L la (hbind tt) hx1 tk hW hr2 (fun A outer s H hr3 => hbody A outer s H E f c2 hr3) hNg hva hd hcd) la.co (h H1 eN T1)
    exact ⟨tr, ht.nox, hq⟩
  refine wpAny_call (codeAny_mono called fun r s2 hq => ?_)
  cases r with
  | error e => exact (show False from hq).elim
  | ok fl =>
    cases fl with
    | ret u => exact I1.after hq
    | next => exact False.elim hq
    | brk => exact False.elim hq
    | cont => exact False.elim hq
end
end K31
end
section
set_option maxHeartbeats 2000000
set_option autoImplicit false
/-! An error that was heard: isinstance, its part. -/
namespace K31
open PySem PySem.Spec PyProof.Rows L2
/-- the error of class C with part p, kept at a, its dict at dd -/
def errD (a dd C : Addr) (p : Str) : D := .opq a [(a, keptO a (.ref C) (some dd)), (dd, .xd [("part", .str p)])]
section
variable {X : Cx} {ρ : Rho} {e : Expr} {a dd C : Addr} {p y : Str} {pos p1 p2 : Pos}
theorem errD_at {K : PySem.W.Frag} {H : Hp} {v : V} (r : Rp K H (errD a dd C p) v) : v = .ref a ∧ H a = some (keptO a (.ref C) (some dd)) ∧ H dd = some (.xd [("part", .str p)]) := ⟨r.1, r.2 _ (List.mem_cons_self ..), r.2 _ (List.mem_cons_of_mem _ (List.mem_cons_self ..))⟩
/-- it stands in the heap -/
theorem err_inst {pins : List (Addr × Obj)} {σ : L2.St} {H : Hp} {s : Shared} (I : Inv X pins σ H s) (h1 : H a = some (keptO a (.ref C) (some dd))) (h2 : H dd = some (.xd [("part", .str p)])) :
    ∃ (oe od : Obj) (u : Value), PySem.W.InstAt s.heap a oe C (some od) ∧ RelV (.str p) u ∧ PySem.W.lookIn "part" od = some (some u) := by
  obtain ⟨oe, vs, g1, ⟨z1, z2⟩, g2⟩ := keptO_at I.hok h1
  have g3 : ObjOk X.prog X.w H s.heap dd (.xd [("part", .str p)]) := I.hok dd _ h2
  obtain ⟨mA, hns, hr⟩ := g3
  obtain ⟨od, ho, hl⟩ := lookIn_ns hns
  have l : List.lookup ("part" : Str) [(("part" : Str), V.str p)] = some (V.str p) := rfl
  obtain ⟨u, hu, ru⟩ := RelO.some_of (v := V.str p) (o := mA "part") (by
    rw [← l]
    exact hr "part")
  exact ⟨oe, od, u, ⟨g1, z1, by unfold PySem.W.notCls; rw [g2], by rw [z2]; exact ho⟩, ru, by rw [hl, hu]⟩
def rErr (a dd C : Addr) (p : Str) : List V → Hp → VK → Prop := fun xs H Q => xs = [.ref a, .ref C] ∧ H a = some (keptO a (.ref C) (some dd)) ∧ H dd = some (.xd [("part", .str p)]) ∧ Q (.bl true) H
theorem call_isErr (xf : XfC X.K C) (i : Isi X.K C) (hk : PySem.W.kitOne X.K (.ref C) (.ref C) = some true) : CallR X (.builtin "isinstance") (rErr a dd C p) := by
  intro pins s σ H xs us Q I r ⟨ex, h1, h2, q⟩
  subst ex
  obtain ⟨u1, u2, rfl, r1, r2⟩ := vals2 r
  obtain rfl : u1 = Value.ref a := r1
  obtain rfl : u2 = Value.ref C := r2
  obtain ⟨oe, od, u, J, _, _⟩ := err_inst I h1 h2
  have hcl : (PySem.W.clsIn X.K C).isSome = true := by
    obtain ⟨cd, e, _⟩ := PySem.W.any_some xf.hdC
    rw [e]; rfl
  exact PySem.W.kia_one (PySem.W.kitx_exc hcl xf.ga xf.gg xf.exC i.ha i.hn i.ht i.hm) I.kIn J hk (fun z => nomatch z) fun tk => ⟨.bl true, H, I.tok tk, rfl, q⟩
/-- isinstance(e, C) -/
theorem disiE (xf : XfC X.K C) (i : Isi X.K C) (hk : PySem.W.kitOne X.K (.ref C) (.ref C) = some true) (hm : X.mg "isinstance" = none) (hm2 : X.mg y = some (.ref C)) (ha : DE X e ρ (errD a dd C p)) (hg : Gl X "isinstance" := by rfl) (hg2 : Gl X y := by rfl)
    (hs : starEach [e, .Name y p2] X.env = (false, eval e X.env) :: starEach [.Name y p2] X.env := by rfl) (hd : (y == ("__debug__" : Str)) = false := by decide) : DE X (.Call (.Name "isinstance" p1) [e, .Name y p2] [] pos) ρ (.bl true) :=
  .of (pe_callB (call_isErr (a := a) (dd := dd) (p := p) xf i hk) hg hm boot_isinstance (pa_cons (peW e) (pa_cons (pe_glob (v := .ref C) hg2 hm2 rfl hd) pa_nil) hs) (he := hs)) fun σ W E Q q => ha σ W E _ fun v W1 e1 r1 => by
    obtain ⟨rfl, h1, h2⟩ := errD_at (Rp.h r1)
    exact ⟨rfl, h1, h2, q _ W1 e1 rfl⟩
/-- e.part -/
theorem derrpart (xf : XfC X.K C) (no : PySem.W.findIn X.K (.ref C) "part" = some none) (ha : DE X e ρ (errD a dd C p)) (hb : attributeBase e "part" X.env (eval e X.env) = eval e X.env := by rfl) : DE X (.Attribute e "part" pos) ρ (.str p) := fun σ W E Q q pins s I =>
  attr_of hb (thn (ha σ W E (fun v H1 => ∃ W1 : Wd, W1.h = H1 ∧ Le W W1 ∧ Rp X.K W1.s (errD a dd C p) v) (fun v W1 e1 r1 => ⟨W1, rfl, e1, r1⟩) pins s I) fun o s1 ⟨v, H1, I1, ro, W1, eh, e1, r1⟩ => by
    subst eh
    obtain ⟨rfl, h1, h2⟩ := errD_at (Rp.h r1)
    obtain rfl : o = Value.ref a := ro
    obtain ⟨oe, od, u, J, ru, lk⟩ := err_inst I1 h1 h2
    exact HandSPX.exc_get I1.kIn J xf.ga xf.gg xf.exC (PySem.W.findObj_own xf.hdC no rfl lk) (handed_of ru) ⟨_, _, I1.tok _, ru, q _ W1 e1 rfl⟩)
end
end K31
end
section
set_option maxHeartbeats 2000000
set_option autoImplicit false
/-! What is heard of lambdas that raise. -/
namespace K31
open PySem PySem.Spec PySem.Calls PyProof.Rows L2 LamX
/-! ### data over heaps that differ in tables alone -/
mutual
/-- no table is told -/
def NoTb : D → Prop
  | .non => True
  | .bl _ => True
  | .int _ => True
  | .str _ => True
  | .fn _ => True
  | .lst ds => NoTbL ds
  | .tup ds => NoTbL ds
  | .obj _ _ ds => NoTbL ds
  | .tpx ds => NoTbL ds
  | .dK _ ds => NoTbL ds
  | .dT _ ds => NoTbL ds
  | .opq _ os => ∀ p ∈ os, ∀ ps, p.2 ≠ .tbl ps
def NoTbL : List D → Prop
  | [] => True
  | d :: ds => NoTb d ∧ NoTbL ds
end
section
variable {K : PySem.W.Frag} {H H' : Hp}
theorem ExtN.rd {a : Addr} {u : HO} (e : ExtN H H') (hu : ∀ ps, u ≠ .tbl ps) (h : Rd H a u) : Rd H' a u := by
  rcases h with h | ⟨o, h⟩
  · exact .inl (e _ _ h hu)
  · exact .inr ⟨o, e _ _ h fun _ z => nomatch z⟩
theorem ExtN.sqL {a : Addr} {xs : List V} (e : ExtN H H') (h : SqL K H a xs) : SqL K H' a xs := by
  rcases h with h | h
  · exact .inl (ExtN.rd e (fun _ z => nomatch z) h)
  · exact .inr h
theorem ExtN.sqT {a : Addr} {xs : List V} (e : ExtN H H') (h : SqT K H a xs) : SqT K H' a xs := by
  rcases h with h | h
  · exact .inl (ExtN.rd e (fun _ z => nomatch z) h)
  · exact .inr h
mutual
theorem Rp.extN (e : ExtN H H') : ∀ (d : D) (v : V), NoTb d → Rp K H d v → Rp K H' d v
  | .non, _, _, h => h
  | .bl _, _, _, h => h
  | .int _, _, _, h => h
  | .str _, _, _, h => h
  | .fn _, _, _, h => h
  | .lst ds, v, n, h => by
    obtain ⟨a, xs, h1, h2, h3⟩ := h
    exact ⟨a, xs, h1, ExtN.sqL e h2, RpL.extN e ds xs n h3⟩
  | .tup ds, v, n, h => by
    obtain ⟨a, xs, h1, h2, h3⟩ := h
    exact ⟨a, xs, h1, ExtN.sqT e h2, RpL.extN e ds xs n h3⟩
  | .obj C ns ds, v, n, h => by
    obtain ⟨a, dx, xs, h1, h2, h3, h4⟩ := h
    exact ⟨a, dx, xs, h1, e _ _ h2 (fun _ z => nomatch z), RpL.extN e ds xs n h3, h4⟩
  | .tpx ds, v, n, h => by
    obtain ⟨a, xs, h1, h2, h3⟩ := h
    exact ⟨a, xs, h1, e _ _ h2 (fun _ z => nomatch z), RpL.extN e ds xs n h3⟩
  | .dK ks ds, v, n, h => by
    obtain ⟨a, xs, h1, h2, h3, h4⟩ := h
    exact ⟨a, xs, h1, e _ _ h2 (fun _ z => nomatch z), RpL.extN e ds xs n h3, h4⟩
  | .dT ks ds, v, n, h => by
    obtain ⟨a, xs, h1, h2, h3, h4⟩ := h
    exact ⟨a, xs, h1, e _ _ h2 (fun _ z => nomatch z), RpL.extN e ds xs n h3, h4⟩
  | .opq a os, v, n, h => ⟨h.1, fun p hp => e _ _ (h.2 p hp) (n p hp)⟩
theorem RpL.extN (e : ExtN H H') : ∀ (ds : List D) (xs : List V), NoTbL ds → RpL K H ds xs → RpL K H' ds xs
  | [], _, _, h => h
  | d :: ds, xs, n, h => by
    obtain ⟨x, ys, h1, h2, h3⟩ := h
    exact ⟨x, ys, h1, Rp.extN e d x n.1 h2, RpL.extN e ds ys n.2 h3⟩
end
/-- the slots' data tell no table -/
def NoTbR (ρ : Rho) : Prop := ∀ d, some d ∈ ρ → NoTb d
theorem EnvD.extN {σ : L2.St} {ρ : Rho} (e : ExtN H H') (n : NoTbR ρ) (h : EnvD K H σ ρ) : EnvD K H' σ ρ := ⟨h.len, fun i d hd => let ⟨v, a, b⟩ := h.at_ i d hd; ⟨v, a, Rp.extN e d v (n d (List.mem_of_getElem? hd)) b⟩⟩
theorem errD_no {a dd C : Addr} {p : Str} : NoTb (errD a dd C p) := fun q hq ps => by
  rcases List.mem_cons.mp hq with rfl | hq
  · exact fun z => nomatch z
  · rcases List.mem_cons.mp hq with rfl | hq
    · exact fun z => nomatch z
    · cases hq
/-- without the tables -/
def noT (H : Hp) : Hp := fun b => match H b with
  | some (.tbl _) => none
  | o => o
theorem noT_some {b : Addr} {o : HO} (h : noT H b = some o) : H b = some o ∧ ∀ ps, o ≠ .tbl ps := by
  unfold noT at h
  split at h
  · cases h
  · rename_i hn
    exact ⟨h, fun ps e => hn ps (by rw [h, e])⟩
theorem noT_of {b : Addr} {o : HO} (h : H b = some o) (n : ∀ ps, o ≠ .tbl ps) : noT H b = some o := by
  unfold noT
  rw [h]
  split
  · rename_i ps e
    exact absurd (Option.some.inj e) (n ps)
  · rfl
theorem ExtN.noT : ExtN H (noT H) := fun _ _ h n => noT_of h n
theorem _root_.K31.Same.ext (e : Same H H') : ExtN H H' := fun b o h _ => e b o h
end
/-! ### what a lambda raises, what is heard of it -/
def tHe (K : PySem.W.Frag) (ρ : Rho) (C : Addr) (p : Str) (E : XK) : TE := fun σ H _ => ∃ W : Wd, W.h = H ∧ EnvD K W.s σ ρ ∧ ∀ cls d H', EXc C p W cls d H' → E cls d H'
/-- hearing of it gives the error, the tables T are kept -/
def HE (X : Cx) (T : List (Addr × Str)) (e : Expr) (ρ : Rho) (C : Addr) (p : Str) : Prop := ∀ σ (W : Wd), EnvD X.K W.s σ ρ → Tabs T W.h → ∀ Q : VK, (∀ (a dd : Addr) (W2 : Wd), ExtN W.s W2.s → Tabs T W2.h → Rp X.K W2.s (errD a dd C p) (.ref a) → Q (.ref a) W2.h) → wE X e σ W.h Q
section
variable {X : Cx} {ρ : Rho} {C : Addr} {p : Str} {T : List (Addr × Str)}
/-- what THear asks -/
theorem hear_of (em : PySem.W.exmOne X.K (.ref C) (.ref (He.ga X.K "CurveError")) = some true) {σ : L2.St} {W : Wd} (E : EnvD X.K W.s σ ρ) (n : NoTbR ρ) {Q : VK} {H1 : Hp} (eN : ExtN W.h H1) (T1 : Tabs T H1) (q : ∀ (a dd : Addr) (W2 : Wd), ExtN W.s W2.s → Tabs T W2.h → Rp X.K W2.s (errD a dd C p) (.ref a) → Q (.ref a) W2.h) :
    THear X.K (fun E H' Q' => tHe X.K ρ C p E σ H' Q') H1 Q := by
  have sub : Same (noT W.s) H1 := fun b o h => by
    obtain ⟨h1, h2⟩ := noT_some h
    exact eN b o (W.sub b o h1) h2
  refine ⟨⟨noT W.s, H1, sub⟩, rfl, E.extN ExtN.noT n, fun cls d H' hx => ?_⟩
  obtain ⟨rfl, dd, W2, rfl, rfl, le, hdd⟩ := hx
  refine ⟨em, fun a ha => ?_⟩
  have hn : (W2.new a (keptO a (.ref C) (some dd))).s a = some (keptO a (.ref C) (some dd)) := Wd.at_
  have le2 : Le W2 (W2.new a (keptO a (.ref C) (some dd))) := Le.new1 ha
  refine q a dd (W2.new a (keptO a (.ref C) (some dd))) (fun b o h h2 => le2.ss b o (le.ss b o (noT_of h h2))) (T1.ext fun b o h => le2.hh b o (le.hh b o h)) ⟨rfl, fun q hq => ?_⟩
  rcases List.mem_cons.mp hq with rfl | hq
  · exact hn
  · rcases List.mem_cons.mp hq with rfl | hq
    · exact le2.ss _ _ hdd
    · cases hq
/-- the lambda's body raises -/
theorem heBody {A : Around} {outer : List Env} {s : Shared} {H : Hp} {E : XK} {sc : Scope} {f c2 : Addr} {b : Expr} (h : ∀ W0 : Wd, TkE (lamCx X A outer s H E sc f c2) C p W0 → Rexp (lamCx X A outer s H E sc f c2) C p W0 b ρ) : PE (lamCx X A outer s H E sc f c2) b (tHe X.K ρ C p E) := ⟨fun pins s' σ H' Q I ⟨W, eh, Ev, hE⟩ => by
  subst eh
  exact h W ⟨E, takes_of rfl rfl rfl rfl, hE⟩ σ W Ev (Le.refl W) Q pins s' I⟩
def lamS3B (N : List Str) (so sc : Scope) : Bool :=
  decide (sc.kind = .function) && !sc.isCoroutine && !sc.isGenerator && sc.names.all fun y => (!decide (y.2 = .local) || !decide (y.1 ∈ N)) && !decide (y.2 = .cell) && (!decide (y.2 = .free) || decide (so.names.lookup y.1 = some .cell) || decide (so.names.lookup y.1 = some .free))
theorem lamS3_by {N : List Str} {so sc : Scope} (h : lamS3B N so sc = true) : LamS3 N so sc := by
  unfold lamS3B at h
  simp only [Bool.and_eq_true, Bool.or_eq_true, Bool.not_eq_true', decide_eq_true_eq, decide_eq_false_iff_not, List.all_eq_true] at h
  obtain ⟨⟨⟨h1, h2⟩, h3⟩, h4⟩ := h
  refine ⟨h1, h2, h3, fun y hy => ⟨fun e => ?_, (h4 y hy).1.2⟩, fun y hy e => ?_⟩
  · rcases (h4 y hy).1.1 with z | z
    · exact absurd e z
    · exact z
  · rcases (h4 y hy).2 with (z | z) | z
    · exact absurd e z
    · exact .inl z
    · exact .inr z
/-- _law_heard(lambda: b) -/
theorem he0 {P : Program} {c P9 : Addr} {par : Arguments} {b : Expr} {sc : Scope} {lpos p1 pos : Pos} (TC_ : TC P X.K X.mg) (em : PySem.W.exmOne X.K (.ref C) (.ref (He.ga X.K "CurveError")) = some true) (hr : Room 10 X.A) (TB_ : TabB X.base X.mg c P9) (hcode : X.env.code = .ref c) (eT : T = [(P9, X.env.qual ++ "<lambda>")]) (n : NoTbR ρ)
    (hbody : ∀ (A : Around) (outer : List Env) (s : Shared) (H : Hp) (E : XK) (f c' : Addr), Room 8 (A.deeper (lamEnv X sc s.heap.objs.size f c')) → ∀ W0 : Wd, TkE (lamCx X A outer s H E sc f c') C p W0 → Rexp (lamCx X A outer s H E sc f c') C p W0 b ρ)
    (L : lamSB X.env.scope sc = true) (hdef : defaultsOf par X.env = ([], []) := by rfl) (hbind : ∀ (q : Str) (cl : List (Str × Addr)) (pm cv ctv : Value), bindArgs (PySem.W.kla_fn "<lambda>" q par b sc cl pm cv ctv) ⟨[], []⟩ = pure [] := by intros; rfl)
    (hg : Gl X "_law_heard" := by rfl) : HE X T (.Call (.Name "_law_heard" p1) [.Lambda par b sc lpos] [] pos) ρ C p := by
  intro σ W E hT Q q pins s I
  subst eT
  obtain ⟨fd, F⟩ := TC_.f__law_heard
  have hb := F.bindsN (ps := ["_law_ask"]) fun _ _ _ _ _ _ us hl => match us, hl with | [_], _ => rfl
  have kp := F.kp
  obtain ⟨oc, od, dV, kV, doc, pm, an, cdv, ct, osl, rfl, lk, hcd, hD, hK⟩ := F.ex
  exact (pe_lamcall (t := tHe X.K ρ C p) (k := 8) hg TC_.g__law_heard kp lk hcd hb sc__law_heard rfl (.inl rfl) (heard_gives TC_) TB_ hcode (List.mem_cons_self ..) (fun q hq _ => by
    rcases List.mem_cons.mp hq with rfl | hq
    · rfl
    · cases hq) hr (lamS_by L) hdef hbind (fun A outer s H E f c' hr2 => heBody (hbody A outer s H E f c' hr2)) (by decide)).run pins s σ W.h Q I ⟨hT, fun H1 eN T1 => hear_of em E n eN T1 q⟩
/-- _law_heard(lambda x1=0: b) -/
theorem he3 {P : Program} {c P9 : Addr} {par : Arguments} {b d0 : Expr} {sc : Scope} {x1 : Str} {lpos p1 pos : Pos} (TC_ : TC P X.K X.mg) (em : PySem.W.exmOne X.K (.ref C) (.ref (He.ga X.K "CurveError")) = some true) (hr : Room 10 X.A) (TB_ : TabB X.base X.mg c P9) (hcode : X.env.code = .ref c) (eT : T = [(P9, X.env.qual ++ "<lambda>")]) (n : NoTbR ρ)
    (hbody : ∀ (A : Around) (outer : List Env) (s : Shared) (H : Hp) (E : XK) (f c' : Addr), Room 8 (A.deeper (lamEnv X sc s.heap.objs.size f c')) → ∀ W0 : Wd, TkE (lamCx X A outer s H E sc f c') C p W0 → Rexp (lamCx X A outer s H E sc f c') C p W0 b ρ)
    (L : lamS3B X.N X.env.scope sc = true) (hdef : defaultsOf par X.env = ([eval d0 X.env], [])) (hd0 : PE X d0 (tC (.int 0))) (hx1 : sc.names.lookup x1 = some .local) (hkw : par.kwonlyargs = [])
    (hbind : ∀ (tt : Addr) (q : Str) (cl : List (Str × Addr)) (pm cv ctv : Value) (tk : Tok), ∃ kk, bindArgs (lamFn (.ref tt) q par b sc cl pm cv ctv) ⟨[], []⟩ = seqItems? (.ref tt) >>= kk ∧ kk (some #[.int 0 tk]) = pure [(x1, .int 0 tk)])
    (hg : Gl X "_law_heard" := by rfl) : HE X T (.Call (.Name "_law_heard" p1) [.Lambda par b sc lpos] [] pos) ρ C p := by
  intro σ W E hT Q q pins s I
  subst eT
  obtain ⟨fd, F⟩ := TC_.f__law_heard
  have hb := F.bindsN (ps := ["_law_ask"]) fun _ _ _ _ _ _ us hl => match us, hl with | [_], _ => rfl
  have kp := F.kp
  obtain ⟨oc, od, dV, kV, doc, pm, an, cdv, ct, osl, rfl, lk, hcd, hD, hK⟩ := F.ex
  exact (pe_lamcall3 (t := tHe X.K ρ C p) (k := 8) hg TC_.g__law_heard kp lk hcd hb sc__law_heard rfl (.inl rfl) (heard_gives TC_) TB_ hcode (List.mem_cons_self ..) (fun q hq _ => by
    rcases List.mem_cons.mp hq with rfl | hq
    · rfl
    · cases hq) hr (lamS3_by L) hdef hd0 hkw hx1 hbind (fun A outer s H E f c' hr2 => heBody (hbody A outer s H E f c' hr2)) (by decide)).run pins s σ W.h Q I ⟨hT, fun H1 eN T1 => hear_of em E n eN T1 q⟩
/-- [.., .., ..] of such -/
theorem he_list {e1 e2 e3 : Expr} {pos : Pos} (h1 : HE X T e1 ρ C p) (h2 : HE X T e2 ρ C p) (h3 : HE X T e3 ρ C p) (n : NoTbR ρ) (hs1 : starEach [e1, e2, e3] X.env = (false, eval e1 X.env) :: starEach [e2, e3] X.env := by rfl) (hs2 : starEach [e2, e3] X.env = (false, eval e2 X.env) :: starEach [e3] X.env := by rfl)
    (hs3 : starEach [e3] X.env = (false, eval e3 X.env) :: starEach [] X.env := by rfl) {σ : L2.St} {W : Wd} (E : EnvD X.K W.s σ ρ) (hT : Tabs T W.h) {Q : VK}
    (q : ∀ (a1 d1 a2 d2 a3 d3 : Addr) (v : V) (W2 : Wd), ExtN W.s W2.s → Tabs T W2.h → Rp X.K W2.s (.lst [errD a1 d1 C p, errD a2 d2 C p, errD a3 d3 C p]) v → Q v W2.h) : wE X (.List [e1, e2, e3] pos) σ W.h Q := fun pins s I =>
  (pe_lst (pa_cons (peW e1) (pa_cons (peW e2) (pa_cons (peW e3) pa_nil hs3) hs2) hs1)).run pins s σ W.h Q I (h1 σ W E hT _ fun a1 d1 W1 x1 t1 r1 => h2 σ W1 (E.extN x1 n) t1 _ fun a2 d2 W2 x2 t2 r2 => h3 σ W2 ((E.extN x1 n).extN x2 n) t2 _ fun a3 d3 W3 x3 t3 r3 => ⟨sz_le (show 3 ≤ 1000 by decide), fun b hb => by
    have le : Le W3 (W3.new b (.lst [.ref a1, .ref a2, .ref a3])) := Le.new1 hb
    exact q a1 d1 a2 d2 a3 d3 (.ref b) (W3.new b (.lst [.ref a1, .ref a2, .ref a3])) (((x1.trans x2).trans x3).trans (Same.ext le.ss)) (t3.ext le.hh) ⟨b, _, rfl, .inl (.inl Wd.at_), _, _, rfl, Rp.le le (Rp.extN x3 _ _ errD_no (Rp.extN x2 _ _ errD_no r1)), _, _, rfl, Rp.le le (Rp.extN x3 _ _ errD_no r2), _, _, rfl, Rp.le le r3, rfl⟩⟩)
end
end K31
end
section
set_option maxHeartbeats 4000000
set_option autoImplicit false
/-! The walk: the law's end, where what is none is refused. -/
namespace K31
open PySem PySem.Spec PySem.Calls PyProof.Rows L2 LamX
/-- the block ends by True, from slots ρ, the tables being there -/
def FB (X : Cx) (T : List (Addr × Str)) (ss : List Stmt) (ρ : Rho) : Prop := ∀ σ (W : Wd), EnvD X.K W.s σ ρ → Tabs T W.h → ∀ D : Ends, (∀ v H', v = .bl true → D.rt v H') → wB X ss D σ W.h
section
variable {X : Cx} {T : List (Addr × Str)} {ρ ρ' : Rho} {st : Stmt} {ss : List Stmt} {C : Addr} {p : Str}
theorem fbD (h : DB X ss ρ (.rt (.bl true))) : FB X T ss ρ := fun σ W E _ D q => h σ W E D fun v W2 _ r => q v _ r
theorem fb1 (h : DS X st ρ (.nx ρ')) (h2 : FB X T ss ρ') : FB X T (st :: ss) ρ := fun σ W E hT D q pins s I => (pss_cons (psW st) (pbW ss)).run pins s σ W.h D I (h σ W E _ fun σ' W1 e1 E1 => h2 σ' W1 E1 (hT.ext e1.hh) D q)
theorem fbW (wk : Wk ρ ρ') (h : FB X T ss ρ') : FB X T ss ρ := fun σ W E hT D q => h σ W (wk.env E) hT D q
theorem fbH {i : Nat} {x : Str} {py pos lpos : Pos} {e1 e2 e3 : Expr} (nd : X.N.Nodup) (hi : X.N[i]? = some x) (h1 : HE X T e1 ρ C p) (h2 : HE X T e2 ρ C p) (h3 : HE X T e3 ρ C p) (n : NoTbR ρ) (h : ∀ a1 d1 a2 d2 a3 d3 : Addr, FB X T ss (ρ.set i (some (.lst [errD a1 d1 C p, errD a2 d2 C p, errD a3 d3 C p]))))
    (hs1 : starEach [e1, e2, e3] X.env = (false, eval e1 X.env) :: starEach [e2, e3] X.env := by rfl) (hs2 : starEach [e2, e3] X.env = (false, eval e2 X.env) :: starEach [e3] X.env := by rfl) (hs3 : starEach [e3] X.env = (false, eval e3 X.env) :: starEach [] X.env := by rfl)
    (hs : swapsWith (.List [e1, e2, e3] lpos) (some (.Name x py)) pos.line X.env = pure false := by rfl) (hx : Loc X.env.scope x := by first | exact Or.inl rfl | exact Or.inr rfl) (hf : X.fn x = true ∨ X.env.scope.names.lookup x = some .local := by exact Or.inl rfl) : FB X T (.Assign [.Name x py] (.List [e1, e2, e3] lpos) pos :: ss) ρ := fun σ W E hT D q pins s I =>
  (pss_cons (ps_set nd hi hx (peW (.List [e1, e2, e3] lpos)) hs hf) (pbW ss)).run pins s σ W.h D I (he_list h1 h2 h3 n hs1 hs2 hs3 E hT fun a1 d1 a2 d2 a3 d3 v W2 eN T2 r => h a1 d1 a2 d2 a3 d3 _ W2 ((E.extN eN n).set r) T2 D q)
end
abbrev N_law : List Str := ["_law_script", "_law_prow_here", "_law_turn", "_law_posed_here", "_law_rows_here", "_law_places", "_law_machine", "_law_joint", "_law_none", "_law_low", "_law_heard_here", "_law_each"]
theorem sc_law : FnScope N_law ["_law_script"] (defScope s_law) := ⟨rfl, rfl, rfl, by decide +kernel, rfl, by decide +kernel, by decide +kernel⟩
section
variable {P : Program} {w : World} {K : PySem.W.Frag} {mg : Str → Option Value} {base : Heap} {c P9 : Addr} {A : Around} {outer : List Env} {s : Shared} {H : Hp} {E : XK}
abbrev XLw (P : Program) (w : World) (K : PySem.W.Frag) (mg : Str → Option Value) (base : Heap) (c : Addr) (A : Around) (outer : List Env) (s : Shared) (H : Hp) (E : XK) : Cx := (cxOf CX0 P w K mg base N_law "law" (defScope s_law) (He.ga K "law") (.ref c) A outer s H E).nox
/-- the slots at the end: the places, none, low -/
def RE (dp dn dl : D) (dh : Option D) : Rho := [none, none, none, none, none, some dp, none, none, some dn, some dl, dh, none]
theorem re_no {dp dn dl : D} (h1 : NoTb dp) (h2 : NoTb dn) (h3 : NoTb dl) : NoTbR (RE dp dn dl none) := fun d hd => by
  unfold RE at hd
  simp only [List.mem_cons, Option.some.injEq, reduceCtorEq, List.not_mem_nil, or_false, false_or] at hd
  rcases hd with rfl | rfl | rfl
  · exact h1
  · exact h2
  · exact h3
/-- [each for each in heard if ..] is empty -/
theorem heard_ok {dp dn dl : D} {a1 d1 a2 d2 a3 d3 C : Addr} {p : Str} {e : Expr} {scope : Scope} {pos : Pos} (hC : ∀ (ρ2 : Rho) (a dd : Addr), ρ2[11]? = some (some (errD a dd C p)) → Blk (XLw P w K mg base c A outer s H E) scope fun X' => DT X' e ρ2 false)
    (ok : BlkOk (XLw P w K mg base c A outer s H E).N (XLw P w K mg base c A outer s H E).env.scope scope [("_law_each", 11)]) {px py : Pos} {elt : Expr} (hx : (relS scope (XLw P w K mg base c A outer s H E).env.scope).names.lookup ("_law_each" : Str) = some .local) :
    DE (XLw P w K mg base c A outer s H E) (.ListComp elt [⟨.Name "_law_each" px, .Name "_law_heard_here" py, [e], 0⟩] scope pos) (RE dp dn dl (some (.lst [errD a1 d1 C p, errD a2 d2 C p, errD a3 d3 C p]))) (.lst []) := by
  refine DE.is (dlcIf (own := [("_law_each", 11)]) (fun _ => none) rfl sc_law.nd (diL (dv 10 rfl)) ok (pgN (i := 11) sc_law.nd rfl hx) (show 3 ≤ 1000 by decide) (fun d hd => ?_)) rfl
  refine ⟨_, false, bcN, ?_, fun _ => rfl, fun h => nomatch h⟩
  simp only [List.mem_cons, List.not_mem_nil, or_false] at hd
  rcases hd with rfl | rfl | rfl <;> exact hC _ _ _ rfl
end
end K31
end
section
set_option maxHeartbeats 4000000
set_option autoImplicit false
/-! The walk: the law's end. -/
namespace K31
open PySem PySem.Spec PySem.Calls PyProof.Rows L2 LamX
section
variable {P : Program} {w : World} {K : PySem.W.Frag} {mg : Str → Option Value} {base : Heap} {c P9 : Addr} {A : Around} {outer : List Env} {s : Shared} {H : Hp} {E : XK}
theorem law_end (T : TC P K mg) (hr : Room 10 (XLw P w K mg base c A outer s H E).A) (TB_ : TabB base mg c P9) {dp dn dl : D} (h1 : NoTb dp) (h2 : NoTb dn) (h3 : NoTb dl) (hn : ∀ j, X_places [dn, j]) (hl : X_joint [dp, dl]) :
    FB (XLw P w K mg base c A outer s H E) [(P9, (XLw P w K mg base c A outer s H E).env.qual ++ "<lambda>")] ((defBody s_law).drop 3) (RE dp dn dl none) := by
  have hu := hr.units
  have n := re_no h1 h2 h3
  have F1 := okX_kin_of (w := w) (base := base) T (okX_need_joint1 T)
  have F2 := okX_mirrored_aside (w := w) (base := base) T (okX_need_joint1 T)
  have F3 := okX_turned_over (w := w) (base := base) T (okX_need_joint1 T)
  have G1 := okX_kin_of (w := w) (base := base) T (okX_need_joint2 T)
  have G2 := okX_mirrored_aside (w := w) (base := base) T (okX_need_joint2 T)
  have G3 := okX_turned_over (w := w) (base := base) T (okX_need_joint2 T)
  refine fbH (C := He.ga K "BadPlace") (p := "places") (i := 10) sc_law.nd rfl ?_ ?_ ?_ n fun a1 d1 a2 d2 a3 d3 => ?_
  · exact he0 T T.e_place.exm hr TB_ rfl rfl n (fun A outer s H E f c' hr2 W0 tk => rcall F1 hr2 tk (dacons (dv 8 rfl) (dacons (dv 9 rfl) danil)) (hn dl)) (show lamSB (defScope s_law) _ = true by decide +kernel)
  · exact he3 (x1 := "_law_x1") T T.e_place.exm hr TB_ rfl rfl n (fun A outer s H E f c' hr2 W0 tk => rcall F2 hr2 tk (dacons (dv 8 rfl) (dacons dint danil)) (hn _)) (show lamS3B N_law (defScope s_law) _ = true by decide +kernel) rfl pe_int rfl rfl (fun _ _ _ _ _ _ _ => ⟨_, rfl, rfl⟩)
  · exact he3 (x1 := "_law_x2") T T.e_place.exm hr TB_ rfl rfl n (fun A outer s H E f c' hr2 W0 tk => rcall F3 hr2 tk (dacons (dv 8 rfl) (dacons (dv 9 rfl) danil)) (hn dl)) (show lamS3B N_law (defScope s_law) _ = true by decide +kernel) rfl pe_int rfl rfl (fun _ _ _ _ _ _ _ => ⟨_, rfl, rfl⟩)
  refine fb1 (dif_f (DT.is (dt_cmp (cne (d1 := .lst []) (d2 := .lst []) hu trivial trivial (z := true) ⟨fun _ => rfl, fun _ => rfl⟩) (heard_ok (C := He.ga K "BadPlace") (p := "places") (fun ρ2 a dd hρ s H C cl fp => ?_) (blkOk_by (N := N_law) (sc := defScope s_law) (by decide +kernel)) rfl) (dlst danil)) rfl) db0) ?_
  · exact dw_val (dw_or_f (DT.is (dt_not (dt_val (disiE T.e_place.xf T.e_place.isi T.e_place.kit T.b_isinstance T.g_BadPlace (dv 11 hρ)))) rfl) (dw_or1 (DT.is (dt_cmp cneS (derrpart T.e_place.xf T.e_place.no (dv 11 hρ)) dstr) (by simp))))
  refine fbW (ρ' := RE dp dn dl none) ⟨.inl rfl, .inl rfl, .inl rfl, .inl rfl, .inl rfl, .inr rfl, .inl rfl, .inl rfl, .inr rfl, .inr rfl, .inl rfl, .inl rfl, trivial⟩ ?_
  refine fbH (C := He.ga K "BadNumber") (p := "joint") (i := 10) sc_law.nd rfl ?_ ?_ ?_ n fun a1 d1 a2 d2 a3 d3 => ?_
  · exact he0 T T.e_num.exm hr TB_ rfl rfl n (fun A outer s H E f c' hr2 W0 tk => rcall G1 hr2 tk (dacons (dv 5 rfl) (dacons (dv 9 rfl) danil)) hl) (show lamSB (defScope s_law) _ = true by decide +kernel)
  · exact he3 (x1 := "_law_x1") T T.e_num.exm hr TB_ rfl rfl n (fun A outer s H E f c' hr2 W0 tk => rcall G2 hr2 tk (dacons (dv 5 rfl) (dacons (dv 9 rfl) danil)) hl) (show lamS3B N_law (defScope s_law) _ = true by decide +kernel) rfl pe_int rfl rfl (fun _ _ _ _ _ _ _ => ⟨_, rfl, rfl⟩)
  · exact he3 (x1 := "_law_x2") T T.e_num.exm hr TB_ rfl rfl n (fun A outer s H E f c' hr2 W0 tk => rcall G3 hr2 tk (dacons (dv 5 rfl) (dacons (dv 9 rfl) danil)) hl) (show lamS3B N_law (defScope s_law) _ = true by decide +kernel) rfl pe_int rfl rfl (fun _ _ _ _ _ _ _ => ⟨_, rfl, rfl⟩)
  refine fbD (dbR (dret (de_cmp (ceq (d1 := .lst []) (d2 := .lst []) hu trivial trivial (z := true) ⟨fun _ => rfl, fun _ => rfl⟩) (heard_ok (C := He.ga K "BadNumber") (p := "joint") (fun ρ2 a dd hρ s H C cl fp => ?_) (blkOk_by (N := N_law) (sc := defScope s_law) (by decide +kernel)) rfl) (dlst danil))))
  exact dw_val (dw_or_f (DT.is (dt_not (dt_val (disiE T.e_num.xf T.e_num.isi T.e_num.kit T.b_isinstance T.g_BadNumber (dv 11 hρ)))) rfl) (dw_or1 (DT.is (dt_cmp cneS (derrpart T.e_num.xf T.e_num.no (dv 11 hρ)) dstr) (by simp))))
end
end K31
end
section
set_option maxHeartbeats 2000000
set_option autoImplicit false
/-! Plain: a drawn pose fits its rows, is not torn, and makes a machine. -/
namespace K31
open PySem PySem.Spec PyProof.Rows L2
theorem srt_lt {α : Type} {f : α → Int} {xs : List α} (inj : ∀ a ∈ xs, ∀ b ∈ xs, f a = f b → a = b) (nd : xs.Nodup) : (srt f xs).Pairwise fun a b => f a < f b := by
  have h1 : (srt f xs).Pairwise fun a b => f a ≤ f b := srt_pw
  have h2 : (srt f xs).Nodup := srt_perm.nodup_iff.mpr nd
  refine (h1.and h2).imp_of_mem fun {a b} ha hb h => ?_
  have h3 : f a ≠ f b := fun e => h.2 (inj a (mem_srt.mp ha) b (mem_srt.mp hb) e)
  have := h.1
  omega
theorem nodup_of_map {α β : Type} {f : α → β} {xs : List α} (h : (xs.map f).Nodup) : xs.Nodup := List.Pairwise.imp (fun h e => h (by rw [e])) (List.pairwise_map.mp h)
section
variable {x0 y0 : Rat} {i : Nat} {ps : List Pl} {pins : List PinE} {bars : List BarE} {beads : List BeadE}
theorem Pose.fits (h : Pose x0 y0 i ps pins bars beads) (hx : smallQ x0) (hy : smallQ y0) (hi : i ≤ 6) : Fits ps (pinS pins) (barS bars) (beadS beads) where
  ok := fun p hp => ⟨h.ok p hp, h.sz hx hy hi hp⟩
  pn := fun e he => let ⟨p, a, _⟩ := h.pn e (mem_srt.mp he); ⟨p, a⟩
  br := fun e he => let ⟨p, q, a, b, c, _, _, _, d⟩ := h.br e (mem_srt.mp he); ⟨p, q, a, (h.ok p (List.mem_of_getElem? a)).eq_pt b, c, d⟩
  bd := fun e he => let ⟨p, q, t, a, b, c, _, _, _, d, f⟩ := h.bd e (mem_srt.mp he); ⟨p, q, t, a, b, c, d, f⟩
theorem Pose.whole (h : Pose x0 y0 i ps pins bars beads) : tearQ ps (pinS pins) (barS bars) (beadS beads) = none := by
  refine tear_none.mpr ⟨fun e he => ?_, fun e he => ?_, fun e he => ?_⟩
  · obtain ⟨p, a, b, c, d⟩ := h.pn e (mem_srt.mp he)
    have e1 := (h.ok p (List.mem_of_getElem? a)).eq_pt b
    unfold pinBad
    rw [a, ← c, ← d, ← e1]
    simp
  · obtain ⟨p, q, a, _, c, _, d, _⟩ := h.br e (mem_srt.mp he)
    unfold barBad
    rw [a, c]
    show (!decide (sqQ p.x p.y q = some (e.2.2 * e.2.2))) = false
    rw [d]
    simp
  · obtain ⟨p, q, t, a, b, c, _, _, d, _⟩ := h.bd e (mem_srt.mp he)
    unfold beadBad
    rw [a, b, c]
    show (!decide (beadQ p q e.2.2.2 = some t)) = false
    rw [bead_gone (h.ok p (List.mem_of_getElem? a)) (h.ok q (List.mem_of_getElem? b)), d]
    simp
theorem Pose.rows (h : Pose x0 y0 i ps pins bars beads) (hi : i ≤ 6) : MRows ps.length (pinS pins) (barS bars) (beadS beads) where
  lo := by rw [h.len]; omega
  hi := by rw [h.len]; omega
  ps := srt_lt (fun a ha b hb e => nodup_inj (h.keyed hi).pn a ha b hb e) (nodup_of_map (h.keyed hi).pn)
  bs := srt_lt (fun a ha b hb e => nodup_inj (h.keyed hi).bn a ha b hb ((h.keyed hi).codB a ha b hb e)) (nodup_of_map (h.keyed hi).bn)
  es := srt_lt (fun a ha b hb e => nodup_inj (h.keyed hi).en a ha b hb ((h.keyed hi).codE a ha b hb e)) (nodup_of_map (h.keyed hi).en)
  pn := fun e he => (h.pn e (mem_srt.mp he)).lt
  br := fun e he => by
    have h1 := (h.br e (mem_srt.mp he)).lt
    obtain ⟨_, _, _, _, _, h2, _, h3, _⟩ := h.br e (mem_srt.mp he)
    exact ⟨h2, h1, h3⟩
  bd := fun e he => by
    have h1 := (h.bd e (mem_srt.mp he)).lt
    obtain ⟨_, _, _, _, _, _, h2, h3, _⟩ := h.bd e (mem_srt.mp he)
    exact ⟨by omega, by omega, h2, h1, by omega⟩
  ln := by
    have := (h.keyed hi).ln
    unfold pinS barS beadS
    rw [srt_length, srt_length, srt_length]
    exact this
end
end K31
end
section
set_option maxHeartbeats 4000000
set_option autoImplicit false
/-! The walk: the law's turns. -/
namespace K31
open PySem PySem.Spec PySem.Calls PyProof.Rows L2 LamX
/-- the block ends by True; W0 is the world at the law's entry -/
def FM (X : Cx) (W0 : Wd) (ss : List Stmt) (ρ : Rho) (m : Mu) : Prop := ∀ σ (W : Wd), EnvD X.K W.s σ ρ → MOk X.K W m → LeM [] m W0 W → ∀ D : Ends, (∀ v H', v = .bl true → D.rt v H') → wB X ss D σ W.h
section
variable {X : Cx} {W0 : Wd} {ρ ρ' : Rho} {m : Mu} {st : Stmt} {ss : List Stmt} {T : List (Addr × Str)}
theorem fm1 (h : SM X st ρ m (fun d _ => d = .bl true) fun ρ1 m1 => FM X W0 ss ρ1 m1) : FM X W0 (st :: ss) ρ m := fun σ W E M le D q pins s I =>
  (pss_cons (psW st) (pbW ss)).run pins s σ W.h D I (h σ W E M { D with nx := wB X ss D } ⟨fun d m' v W2 hd le2 M2 r => q v _ (by rw [hd] at r; exact r), fun ρ1 m1 σ1 W1 hB le1 M1 E1 => hB σ1 W1 E1 M1 (le.trans le1) D q⟩)
theorem fmE (hT : Tabs T W0.h) (wk : Wk ρ ρ') (h : FB X T ss ρ') : FM X W0 ss ρ m := fun σ W E M le D q => h σ W (wk.env E) (hT.ext fun b o e => le.hh b o (fun p hp => absurd hp (by simp)) e) D q
end
/-- the slots between the turns -/
def RI (a : Addr) (o : Option D) : Rho := [none, some (.fn a), none, none, none, o, none, none, none, none, none, none]
section
variable {P : Program} {w : World} {K : PySem.W.Frag} {mg : Str → Option Value} {base : Heap} {c P9 : Addr} {A : Around} {outer : List Env} {s : Shared} {H : Hp} {E : XK}
def IvL (a : Addr) (cs : List Int) (i : Nat) (ρ : Rho) (m : Mu) : Prop := ∃ (t l : Int) (o : Option D), m = [(a, PR cs t l)] ∧ 0 ≤ t ∧ t ≤ 200 * (i : Int) ∧ ρ = RI a o ∧ (0 < i → ∃ ps, o = some (.lst (ps.map plD)) ∧ Pls (.lst (ps.map plD)) ps)
theorem law_turn (T : TC P K mg) (hP : PapOk P w K mg base) (hr : Room 10 (XLw P w K mg base c A outer s H E).A) (hG : (XLw P w K mg base c A outer s H E).A.guards = some []) {a : Addr} {cs : List Int} {i : Nat} {ρ1 : Rho} {m2 : Mu} {R : D → Mu → Prop} (hi : i < 2) (h : IvL a cs i ρ1 m2) :
    BM (XLw P w K mg base c A outer s H E) (forB (atS (defBody s_law) 1)) (ρ1.set 2 (some (.int (i : Int)))) m2 R (IvL a cs (i + 1)) := by
  obtain ⟨t, l, o, rfl, h0, h1, rfl, _⟩ := h
  refine bm1 (sm_set (i := 3) sc_law.nd rfl (em_callM (okM__law_posed T.toTB) (hr.mono (by decide)) (am1 (em (dv 1 rfl) (am0 ⟨rfl, a, cs, t, l, rfl, rfl, h0, by unfold capT; omega, fun x0 y0 k ps pins bars beads t' l' hx hy hk pose g0 g1 => ?_⟩)))))
  have hf := pose.fits hx hy hk
  have hw := pose.whole
  have hm := pose.rows hk
  have hl : ps.length = k + 1 := pose.len
  have hne : ps ≠ [] := fun z => by rw [z] at hl; simp at hl
  have hX : Pls (.lst (ps.map plD)) ps := ⟨.inr (.inl rfl), hf.ok, hne, by omega⟩
  have hlen : (D.lst (ps.map plD)).len = some ps.length := by show some (ps.map plD).length = _; rw [List.length_map]
  refine bm1 (sm (dasg (dtup (dacons (dcall (ok__law_rows T.toTB) (hr.mono (by decide)) (dacons (dv 3 rfl) danil) ⟨_, pins, bars, beads, rfl, pose.keyed hk, rfl⟩) (dacons (dixL (d := .lst (ps.map plD)) (dv 3 rfl) dint rfl) danil))) (dgT rfl (dgs1 (dgN (i := 4) sc_law.nd rfl) (dgs1 (dgN (i := 5) sc_law.nd rfl) dgs0)))) ?_)
  refine bm1 (sm (dset (i := 6) sc_law.nd rfl (dmachine (n := ps.length) T T (hr.mono (by decide)) (dacons (dlen T.b_len (dv 5 rfl) hlen) (dacons (dixL (dv 4 rfl) dint rfl) (dacons (dixL (dv 4 rfl) dint rfl) (dacons (dixL (dv 4 rfl) dint rfl) (dacons (dsub (dlen T.b_len (dv 5 rfl) hlen) dint) danil))))) hm)) ?_)
  refine bm1 (sm (dif_f (DT.is (dt_not (dt_judge T T (hr.mono (by decide)) (dcall (ok_judged T) (hr.mono (by decide)) (dacons (dv 6 rfl) (dacons (dv 5 rfl) danil)) ⟨hP, _, ps, _, _, _, rfl, hX, hf, rfl⟩))) (by rw [hw]; rfl)) db0) ?_)
  refine bm1 (sm (ρ' := RI a (some (.lst (ps.map plD))) |>.set 2 (some (.int (i : Int))) |>.set 3 (some (.lst [.lst (ps.map plD), frzD (pinsM pins), frzD (barsM bars), frzD (beadsM beads)])) |>.set 4 (some (rowsD (pinS pins) (barS bars) (beadS beads))) |>.set 6 (some (machD K ps.length (pinS pins) (barS bars) (beadS beads)))) (dfor (fun _ => _) (fun _ => none) PassesOwn.never rfl (diR T.b_range (dlen T.b_len (dv 5 rfl) hlen) (by omega)) rfl (fun j d hd _ => ?_) (.inr ⟨rfl, fun _ _ => rfl⟩)) (bm0k ?_ ⟨t', l', some (.lst (ps.map plD)), rfl, g0, by push_cast; omega, rfl, fun _ => ⟨ps, rfl, hX⟩⟩))
  · rw [List.getElem?_map] at hd
    obtain ⟨j2, hj, rfl⟩ := Option.map_eq_some_iff.mp hd
    obtain ⟨hj1, rfl⟩ := List.getElem?_eq_some_iff.mp hj
    rw [List.length_range] at hj1
    rw [List.getElem_range]
    refine ⟨_, dgN (i := 7) sc_law.nd rfl, fun _ => ?_, fun r hr => nomatch hr⟩
    refine db1 (dif_f (DT.is (dt_not (dt_val (dcallG (okG__law_joint_right T) hr hG (dacons (dv 6 rfl) (dacons (dv 4 rfl) (dacons (dv 5 rfl) (dacons (dv 7 rfl) danil)))) ⟨hP, ps, _, _, _, j, ps[j], rfl, hf, hw, hm.ln, by omega, List.getElem?_eq_getElem hj1, rfl⟩))) rfl) db0) (db0k ?_)
    exact ⟨.inr rfl, .inr rfl, .inr rfl, .inr rfl, .inr rfl, .inr rfl, .inr rfl, .inl rfl, .inr rfl, .inr rfl, .inr rfl, .inr rfl, trivial⟩
  · exact ⟨.inr rfl, .inr rfl, .inl rfl, .inl rfl, .inl rfl, .inr rfl, .inl rfl, .inr rfl, .inr rfl, .inr rfl, .inr rfl, .inr rfl, trivial⟩
end
end K31
end
section
set_option maxHeartbeats 4000000
set_option autoImplicit false
/-! The walk: the law. -/
namespace K31
open PySem PySem.Spec PySem.Calls PyProof.Rows L2 LamX
/-- what is none, as places -/
def noneD : List D := [.non, .tup [], .lst [], .lst [.non], .lst [.tup [.tup [.int 0, .int 0], .tup [.int 2, .int 0], .int 3]], .int 5, .str "places", .lst [.tup [.tup [.int 0, .int 0], .tup [.int 0, .int 0]]]]
/-- what is none, as a joint -/
def lowD (n : Nat) : List D := [.int (-1), .int n, .non, .bl true, .str "0"]
theorem none_no {d : D} (h : d ∈ noneD) : NoTb d := by
  unfold noneD at h
  simp only [List.mem_cons, List.not_mem_nil, or_false] at h
  rcases h with rfl | rfl | rfl | rfl | rfl | rfl | rfl | rfl <;> simp [NoTb, NoTbL]
theorem low_no {n : Nat} {d : D} (h : d ∈ lowD n) : NoTb d := by
  unfold lowD at h
  simp only [List.mem_cons, List.not_mem_nil, or_false] at h
  rcases h with rfl | rfl | rfl | rfl | rfl <;> trivial
theorem none_refused {d : D} (h : d ∈ noneD) (j : D) : X_places [d, j] := by
  unfold noneD at h
  simp only [List.mem_cons, List.not_mem_nil, or_false] at h
  have one : ∀ e : D, IsPl e false → ArePl (.lst [e]) false := fun e he => .inr ⟨[e], fun _ => false, rfl, (show 1 ≤ 1000 by decide), fun x hx => by
    simp only [List.mem_cons, List.not_mem_nil, or_false] at hx
    rw [hx]; exact he, rfl⟩
  rcases h with rfl | rfl | rfl | rfl | rfl | rfl | rfl | rfl
  · exact ⟨_, _, rfl, .inl (.inl ⟨rfl, rfl, _, rfl⟩)⟩
  · exact ⟨_, _, rfl, .inr ⟨.inr ⟨[], fun _ => true, rfl, (show 0 ≤ 1000 by decide), fun x hx => absurd hx (by simp), rfl⟩, rfl⟩⟩
  · exact ⟨_, _, rfl, .inr ⟨.inr ⟨[], fun _ => true, rfl, (show 0 ≤ 1000 by decide), fun x hx => absurd hx (by simp), rfl⟩, rfl⟩⟩
  · exact ⟨_, _, rfl, .inl (one _ (.inr ⟨rfl, .inl rfl⟩))⟩
  · refine ⟨_, _, rfl, .inl (one _ (.inr ⟨rfl, .inr (.inr ⟨⟨((0 : Int) : Rat), ((0 : Int) : Rat), 2, 0, ((3 : Int) : Rat)⟩, ?_, ?_, ?_⟩)⟩))⟩
    · show _ = D.tup [ptD ((0 : Int) : Rat) ((0 : Int) : Rat), ptD ((2 : Int) : Rat) ((0 : Int) : Rat), numD ((3 : Int) : Rat)]
      rw [ptD_int, ptD_int, numD_intCast]
    · exact fun ⟨z, _⟩ => absurd z (by decide)
    · show gcdI 2 0 ≠ 1
      decide
  · exact ⟨_, _, rfl, .inl (.inl ⟨rfl, rfl, _, rfl⟩)⟩
  · exact ⟨_, _, rfl, .inl (.inl ⟨rfl, rfl, _, rfl⟩)⟩
  · exact ⟨_, _, rfl, .inl (one _ (.inr ⟨rfl, .inr (.inl rfl)⟩))⟩
theorem low_refused {ps : List Pl} {X d : D} (hX : Pls X ps) (h : d ∈ lowD ps.length) : X_joint [X, d] := by
  unfold lowD at h
  simp only [List.mem_cons, List.not_mem_nil, or_false] at h
  rcases h with rfl | rfl | rfl | rfl | rfl
  · refine ⟨X, _, ps, _, rfl, hX, rfl, ?_⟩
    show (geD (.int 0) (-1) && leD (.int ((ps.length : Int) - 1)) (-1)) = false
    rw [show geD (.int 0) (-1) = false from rfl, Bool.false_and]
  · refine ⟨X, _, ps, _, rfl, hX, rfl, ?_⟩
    show (geD (.int 0) ps.length && leD (.int ((ps.length : Int) - 1)) ps.length) = false
    rw [show leD (.int ((ps.length : Int) - 1)) ps.length = false from decide_eq_false (by omega), Bool.and_false]
  · exact ⟨X, _, ps, _, rfl, hX, rfl, rfl⟩
  · exact ⟨X, _, ps, _, rfl, hX, rfl, rfl⟩
  · exact ⟨X, _, ps, _, rfl, hX, rfl, rfl⟩
def noneE : Expr := callN (tupN (asgE (atS (defBody s_law) 2)) 0) 1
def lowE : Expr := callN (tupN (asgE (atS (defBody s_law) 2)) 1) 1
def lstN : Expr → Nat → Expr
  | .List es _, i => es.getD i (.List [] ⟨0, 0, 0, 0⟩)
  | e, _ => e
def lstP : Expr → Pos
  | .List _ p => p
  | _ => ⟨0, 0, 0, 0⟩
def isStar : Expr → Bool
  | .Starred _ _ => true
  | _ => false
theorem star_cons {e : Expr} {es : List Expr} {env : Env} (h : isStar e = false) : starEach (e :: es) env = (false, eval e env) :: starEach es env := by
  cases e <;> first | rfl | cases h
section
variable {X : Cx} {ρ : Rho} {e : Expr} {es : List Expr} {d : D} {ds : List D} {pos : Pos}
/-- data of expressions that are told one by one -/
theorem das (ha : DE X e ρ d) (hr : DA X es ρ ds) (hs : isStar e = false) : DA X (e :: es) ρ (d :: ds) := dacons ha hr (star_cons hs)
theorem lst8 {e0 e1 e2 e3 e4 e5 e6 e7 : Expr} {d0 d1 d2 d3 d4 d5 d6 d7 : D} (h0 : DE X e0 ρ d0) (h1 : DE X e1 ρ d1) (h2 : DE X e2 ρ d2) (h3 : DE X e3 ρ d3) (h4 : DE X e4 ρ d4) (h5 : DE X e5 ρ d5) (h6 : DE X e6 ρ d6) (h7 : DE X e7 ρ d7)
    (hs : ∀ e ∈ [e0, e1, e2, e3, e4, e5, e6, e7], isStar e = false) : DE X (.List [e0, e1, e2, e3, e4, e5, e6, e7] pos) ρ (.lst [d0, d1, d2, d3, d4, d5, d6, d7]) :=
  dlst (das h0 (das h1 (das h2 (das h3 (das h4 (das h5 (das h6 (das h7 danil (hs _ (by simp))) (hs _ (by simp))) (hs _ (by simp))) (hs _ (by simp))) (hs _ (by simp))) (hs _ (by simp))) (hs _ (by simp))) (hs _ (by simp))) (show 8 ≤ 1000 by decide)
end
theorem none_eq : noneE = .List [lstN noneE 0, lstN noneE 1, lstN noneE 2, lstN noneE 3, lstN noneE 4, lstN noneE 5, lstN noneE 6, lstN noneE 7] (lstP noneE) := rfl
theorem none_star : ∀ e ∈ [lstN noneE 0, lstN noneE 1, lstN noneE 2, lstN noneE 3, lstN noneE 4, lstN noneE 5, lstN noneE 6, lstN noneE 7], isStar e = false := by
  have h : ∀ k : Nat, k < 8 → isStar (lstN noneE k) = false := by decide +kernel
  intro e he
  simp only [List.mem_cons, List.not_mem_nil, or_false] at he
  rcases he with rfl | rfl | rfl | rfl | rfl | rfl | rfl | rfl <;> exact h _ (by decide)
section
variable {X : Cx} {ρ : Rho}
theorem none_0 : DE X (lstN noneE 0) ρ (.non) := dnon
theorem none_1 : DE X (lstN noneE 1) ρ (.tup []) := dtup danil
theorem none_2 : DE X (lstN noneE 2) ρ (.lst []) := dlst danil
theorem none_3 : DE X (lstN noneE 3) ρ (.lst [.non]) := dlst (dacons dnon danil)
theorem none_4 : DE X (lstN noneE 4) ρ (.lst [.tup [.tup [.int 0, .int 0], .tup [.int 2, .int 0], .int 3]]) := dlst (dacons (dtup (dacons (dtup (dacons dint (dacons dint danil))) (dacons (dtup (dacons dint (dacons dint danil))) (dacons dint danil)))) danil)
theorem none_5 : DE X (lstN noneE 5) ρ (.int 5) := dint
theorem none_6 : DE X (lstN noneE 6) ρ (.str "places") := dstr
theorem none_7 : DE X (lstN noneE 7) ρ (.lst [.tup [.tup [.int 0, .int 0], .tup [.int 0, .int 0]]]) := dlst (dacons (dtup (dacons (dtup (dacons dint (dacons dint danil))) (dacons (dtup (dacons dint (dacons dint danil))) danil))) danil)
theorem none_de0 : DE X (.List [lstN noneE 0, lstN noneE 1, lstN noneE 2, lstN noneE 3, lstN noneE 4, lstN noneE 5, lstN noneE 6, lstN noneE 7] (lstP noneE)) ρ (.lst noneD) :=
  @lst8 X ρ (lstP noneE) (lstN noneE 0) (lstN noneE 1) (lstN noneE 2) (lstN noneE 3) (lstN noneE 4) (lstN noneE 5) (lstN noneE 6) (lstN noneE 7) _ _ _ _ _ _ _ _ none_0 none_1 none_2 none_3 none_4 none_5 none_6 none_7 none_star
theorem de_eq {e e2 : Expr} {d : D} (h : DE X e ρ d) (q : e2 = e) : DE X e2 ρ d := by
  rw [q]
  exact h
theorem none_de : DE X noneE ρ (.lst noneD) := @de_eq X ρ _ _ _ (@none_de0 X ρ) none_eq
end
section
variable {P : Program} {w : World} {K : PySem.W.Frag} {mg : Str → Option Value} {base : Heap} {c P9 : Addr} {A : Around} {outer : List Env} {s : Shared} {H : Hp} {E : XK}
theorem low_de (T : TC P K mg) {a : Addr} {ps : List Pl} : DE (XLw P w K mg base c A outer s H E) lowE (RI a (some (.lst (ps.map plD)))) (.lst (lowD ps.length)) := dlst (dacons (dneg dint) (dacons (dlen T.b_len (dv 5 rfl) (n := ps.length) (by show some (ps.map plD).length = _; rw [List.length_map])) (dacons dnon (dacons dbl (dacons dstr danil))))) (show 5 ≤ 1000 by decide)
theorem plD_no (p : Pl) : NoTb (plD p) := by
  have num : ∀ q : Rat, NoTb (numD q) := fun q => by
    unfold numD
    split
    · trivial
    · exact ⟨trivial, trivial, trivial⟩
  exact ⟨⟨num _, num _, trivial⟩, ⟨num _, num _, trivial⟩, num _, trivial⟩
theorem pls_no (ps : List Pl) : NoTbL (ps.map plD) := by
  induction ps with
  | nil => trivial
  | cons p ps ih => exact ⟨plD_no p, ih⟩
end
end K31
end
section
set_option maxHeartbeats 400000
set_option autoImplicit false
/-! The walk: the law, what is none. -/
namespace K31
open PySem PySem.Spec PySem.Calls PyProof.Rows L2 LamX
section
variable {P : Program} {w : World} {K : PySem.W.Frag} {mg : Str → Option Value} {base : Heap} {c P9 : Addr} {A : Around} {outer : List Env} {s : Shared} {H : Hp} {E : XK}
theorem em_pick {X : Cx} {ρ : Rho} {e1 e2 : Expr} {p pos : Pos} {a : Addr} {cs : List Int} {t l : Int} {es : List D} {post : Mu} {S : D → Mu → Prop} (F : OkM X.prog X.w X.K X.mg X.base 2 "_law_pick" 2 F__law_pick) (hr : Room 2 X.A) (h1 : DE X e1 ρ (.fn a)) (h2 : DE X e2 ρ (.lst es)) (s1 : isStar e1 = false) (s2 : isStar e2 = false)
    (hl : 0 < es.length) (hl2 : es.length ≤ 1000) (h3 : 0 ≤ t) (h4 : t < capT) (hS : ∀ (k : Nat) (t' l' : Int) (d : D), es[k]? = some d → 0 ≤ t' → t' ≤ t + 1 → S d ((a, PR cs t' l') :: post)) (hg : Gl X "_law_pick" := by rfl) (hpl : (backTo pos (starEach [e2] X.env)).any (·.1) = false := by rfl) :
    EM X (.Call (.Name "_law_pick" p) [e1, e2] [] pos) ρ ((a, PR cs t l) :: post) S := em_callM F hr (am1 (em h1 (am1 (em h2 (am0 ⟨rfl, a, cs, t, l, post, es, rfl, rfl, hl, hl2, h3, h4, hS⟩)) (star_cons s2))) (star_cons s1)) hg (by decide) (star_cons s1) hpl
/-- what is drawn behind the turns -/
theorem law_none (T : TC P K mg) (hr : Room 10 (XLw P w K mg base c A outer s H E).A) (TB_ : TabB base mg c P9) {W0 : Wd} (hT : Tabs [(P9, (XLw P w K mg base c A outer s H E).env.qual ++ "<lambda>")] W0.h) {a : Addr} {cs : List Int} {t l : Int} {ps : List Pl} (h0 : 0 ≤ t) (h1 : t ≤ 400) (hX : Pls (.lst (ps.map plD)) ps) :
    FM (XLw P w K mg base c A outer s H E) W0 ((defBody s_law).drop 2) (RI a (some (.lst (ps.map plD)))) [(a, PR cs t l)] := by
  refine fm1 (sm_asg (em_tup (am1 (em_pick (es := noneD) (okM__law_pick T.toTB) (hr.mono (by decide)) (dv 1 rfl) (@none_de (XLw P w K mg base c A outer s H E) (RI a (some (.lst (ps.map plD))))) rfl rfl (by decide) (by decide) h0 (by unfold capT; omega) fun k t1 l1 d1 hk h2 h3 => ?_))))
  refine am1 (em_pick (es := lowD ps.length) (okM__law_pick T.toTB) (hr.mono (by decide)) (dv 1 rfl) (@low_de P w K mg base c A outer s H E T a ps) rfl rfl (show 0 < 5 by decide) (show 5 ≤ 1000 by decide) h2 (by unfold capT; omega) fun k2 t2 l2 d2 hk2 h4 h5 => ?_)
  refine am0 ⟨show 2 ≤ 1000 by decide, ?_⟩
  refine ⟨_, dgT rfl (dgs1 (dgN (i := 8) sc_law.nd rfl) (dgs1 (dgN (i := 9) sc_law.nd rfl) dgs0)), ?_⟩
  have m1 := List.mem_of_getElem? hk
  have m2 := List.mem_of_getElem? hk2
  exact fmE (ρ' := RE (.lst (ps.map plD)) d1 d2 none) hT ⟨.inl rfl, .inl rfl, .inl rfl, .inl rfl, .inl rfl, .inr rfl, .inl rfl, .inl rfl, .inr rfl, .inr rfl, .inr rfl, .inr rfl, trivial⟩ (law_end T hr TB_ (dp := .lst (ps.map plD)) (dn := d1) (dl := d2) (pls_no ps) (none_no m1) (low_no m2) (none_refused m1) (low_refused hX m2))
end
end K31
end
section
set_option maxHeartbeats 400000
set_option autoImplicit false
/-! The walk: the law, whole. -/
namespace K31
open PySem PySem.Spec PySem.Calls PyProof.Rows L2 LamX
section
variable {P : Program} {w : World} {K : PySem.W.Frag} {mg : Str → Option Value} {base : Heap} {c P9 : Addr} {A : Around} {outer : List Env} {s : Shared} {H : Hp} {E : XK}
theorem law_body (T : TC P K mg) (hP : PapOk P w K mg base) (hr : Room 10 (XLw P w K mg base c A outer s H E).A) (hG : (XLw P w K mg base c A outer s H E).A.guards = some []) (TB_ : TabB base mg c P9) {W0 : Wd} (hT : Tabs [(P9, (XLw P w K mg base c A outer s H E).env.qual ++ "<lambda>")] W0.h) (cs : List Int) :
    FM (XLw P w K mg base c A outer s H E) W0 (defBody s_law) [some (.lst (cs.map D.int)), none, none, none, none, none, none, none, none, none, none, none] [] := by
  refine fm1 (sm_set (i := 1) sc_law.nd rfl (em_callM (okM__law_prow T.toTB) (hr.mono (by decide)) (am1 (em (dv 0 rfl) (am0 ⟨rfl, cs, rfl, fun a => ?_⟩)))))
  refine fm1 (sm_forR PassesOwn.never rfl T.b_range (em dint ⟨2, rfl, by decide, fun i ρ m => (i = 0 ∧ ρ = [some (.lst (cs.map D.int)), some (.fn a), none, none, none, none, none, none, none, none, none, none] ∧ m = [(a, PR (cs.take 60) 0 0)]) ∨ (0 < i ∧ IvL a (cs.take 60) i ρ m), .inl ⟨rfl, rfl, rfl⟩, fun i ρ1 m2 hi h => ?_, fun ρ1 m2 h => ?_⟩))
  · rcases h with ⟨rfl, rfl, rfl⟩ | ⟨h1, h2⟩
    · refine ⟨_, dgN (i := 2) sc_law.nd rfl, (BM.wk (ρ' := (RI a none).set 2 (some (.int ((0 : Nat) : Int)))) ?_ (law_turn (i := 0) T hP hr hG hi ⟨0, 0, none, rfl, by decide, by decide, rfl, fun h => absurd h (by decide)⟩)).imp (fun _ _ h => h) fun _ _ h => .inr ⟨by omega, h⟩⟩
      exact ⟨.inl rfl, .inr rfl, .inr rfl, .inr rfl, .inr rfl, .inr rfl, .inr rfl, .inr rfl, .inr rfl, .inr rfl, .inr rfl, .inr rfl, trivial⟩
    · exact ⟨_, dgN (i := 2) sc_law.nd rfl, (law_turn T hP hr hG hi h2).imp (fun _ _ h => h) fun _ _ h => .inr ⟨by omega, h⟩⟩
  · rcases h with ⟨z, _⟩ | ⟨_, t, l, o, rfl, h0, h1, rfl, hp⟩
    · cases z
    · obtain ⟨ps, rfl, hX⟩ := hp (by decide)
      exact law_none T hr TB_ hT h0 (by omega) hX
end
end K31
end
section
set_option maxHeartbeats 1000000
set_option autoImplicit false
/-! The law, called while no repr is under way. -/
namespace K31
open PySem PySem.Spec PySem.Calls PyProof.Rows L2 LamX
/-- what the law promises: P9 is its table -/
def spLaw (K : PySem.W.Frag) (P9 : Addr) : Sp := fun vs H Q _ => ∃ (a : Addr) (cs : List Int), vs = [.ref a] ∧ SqL K H a (cs.map V.int) ∧ H P9 = some (.tbl #[]) ∧ ∀ v H', v = .bl true → Q v H'
theorem rpl_of_ints {K : PySem.W.Frag} {H : Hp} : ∀ cs : List Int, RpL K H (cs.map D.int) (cs.map V.int)
  | [] => rfl
  | c :: cs => ⟨_, _, rfl, rfl, rpl_of_ints cs⟩
section
variable {P : Program} {w : World} {K : PySem.W.Frag} {mg : Str → Option Value} {base : Heap}
theorem okG_law (T : TC P K mg) (hP : PapOk P w K mg base) (TB_ : TabB base mg (He.cT K ("law", none)).1 (He.cT K ("law", none)).2) : FnRG P w K mg base CX0 11 (He.ga K "law") (spLaw K (He.cT K ("law", none)).2) := by
  obtain ⟨fd, F⟩ := T.f_law
  have kp := F.kp
  obtain ⟨oc, od, dV, kV, doc, pm, an, cdv, ct, osl, rfl, lk, hcd, hD, hK⟩ := F.ex
  obtain ⟨c, rfl⟩ := He.codeIn_ref hcd
  have ec : He.codeOf K ("law", none) = c := He.codeOf_eq (p := ("law", none)) lk rfl
  have TB2 : TabB base mg c (He.cT K ("law", none)).2 := by
    have h : (He.cT K ("law", none)).1 = c := ec
    rw [← h]
    exact TB_
  rcases hD with ⟨_, rfl⟩ | ⟨h, _⟩
  · intro A outer s H us vs Q E hr hG e0 r hsp
    obtain ⟨a, cs, rfl, hS, hTb, q⟩ := hsp
    have lu : us.length = 1 := r.length.symm
    refine StX.run_bnd lk hcd sc_law hr e0 (G := fun xs H2 => xs = [.ref a] ∧ H2 = H) (fun A' Ex Q' h => ?_) fun s2 H2 xs ⟨ex, eh⟩ hr' => ?_
    · rw [show bindArgs (PySem.W.fnOf "law" "law" (defArgs s_law) (defBody s_law) (defScope s_law) .none kV doc pm an (.ref c) ct) ⟨us, []⟩ = pure ((["_law_script"] : List Str).zip us) from match us, lu with | [_], _ => rfl]
      exact wpAny_pure (h s H [.ref a] us e0 Un.refl rfl (fun _ _ z => z) r rfl ⟨rfl, rfl⟩)
    · subst ex eh
      let W0 : Wd := ⟨noT H2, H2, fun b o h => (noT_some h).1⟩
      have hw : RpL K W0.s [.lst (cs.map D.int)] [.ref a] := ⟨_, [], rfl, ⟨a, cs.map V.int, rfl, ExtN.sqL ExtN.noT hS, rpl_of_ints cs⟩, rfl⟩
      have hT : Tabs [((He.cT K ("law", none)).2, (XLw P w K mg base c A outer s2 H2 E).env.qual ++ "<lambda>")] W0.h := fun p hp => by
        rcases List.mem_cons.mp hp with rfl | hp
        · exact TabS.nil hTb
        · cases hp
      refine ⟨wB (XLw P w K mg base c A outer s2 H2 E) (defBody s_law), (pbW (defBody s_law)).nox, ?_⟩
      exact law_body T hP hr' hG TB2 hT cs _ W0 (EnvD.start (N := N_law) hw (show 1 ≤ 12 by decide)) MOk.nil (LeM.refl [] W0) _ q
  · exact absurd rfl h
end
end K31
end
section
set_option maxHeartbeats 1000000
set_option autoImplicit false
/-! The row's own call of a def that is promised only while no repr is under way. -/
namespace K31
open PySem PySem.Spec PySem.Calls PyProof.Rows L2 LamX
/-- what is tracked at the entry: the table t, the script's list a unless K holds it -/
def entH (K : PySem.W.Frag) (t a : Addr) (o : Obj) (xs : List V) : Hp := fun b => if b = t then some (.tbl #[]) else if b = a ∧ K.lookup a = none then some (.frz o (.lst xs)) else none
section
variable {P : Program} {w : World} {K : PySem.W.Frag} {mg mb : Str → Option Value} {k : Nat} {fa a c t : Addr} {sp : Sp} {s : Shared} {vs : List Value} {ns : List Int} {o : Obj} {xs : List V}
theorem entH_t : entH K t a o xs t = some (.tbl #[]) := if_pos rfl
theorem entH_a (h : a ≠ t) (hK : K.lookup a = none) : entH K t a o xs a = some (.frz o (.lst xs)) := (if_neg h).trans (if_pos ⟨rfl, hK⟩)
theorem entH_some {b : Addr} {u : HO} (h : entH K t a o xs b = some u) : (b = t ∧ u = .tbl #[]) ∨ (b ≠ t ∧ b = a ∧ K.lookup a = none ∧ u = .frz o (.lst xs)) := by
  unfold entH at h
  split at h
  · rename_i e
    exact .inl ⟨e, (Option.some.inj h).symm⟩
  · rename_i e1
    split at h
    · rename_i e2
      exact .inr ⟨e1, e2.1, e2.2, (Option.some.inj h).symm⟩
    · cases h
theorem entH_none {b : Addr} (h1 : b ≠ t) (h2 : b = a → K.lookup a = none → False) : entH K t a o xs b = none := (if_neg h1).trans (if_neg fun z => h2 z.1 z.2)
theorem law_callG (KX : K.In s.heap) (hns : s.heap.Ns mainGlobals mg) (hb : s.heap.Ns builtinsNs mb) (hbb : ∀ x : Str, x ≠ "__name__" → mb x = bootBuiltins x) (hlim : s.heap.NoLimit) (hg : s.gens = #[]) (hT : s.heap.get? t = some { cls := .none, data := .fields #[] }) (nT : K.lookup t = none) (C : PySem.W.CodeHd s.heap c t)
    (hbm : ∃ (bm : Addr) (ob : Obj), mg "__builtins__" = some (.ref bm) ∧ bm ≠ builtinsNs ∧ s.heap.get? bm = some ob ∧ ob.cls = .type "module" ∧ ob.dict = some builtinsNs ∧ ob.data = .plain) (ha : s.heap.get? a = some { cls := .type "list", data := .seq vs.toArray }) (hi : IntsAre vs ns) (hl : ns.length ≤ sizeLine) (hr : Room k callerA)
    (F : ∀ base : Heap, K.In base → base.Ns mainGlobals mg → TabB base mg c t → FnRG P w K mg base CX0 k fa sp) (hsp : ∀ H : Hp, H t = some (.tbl #[]) → SqL K H a (ns.map V.int) → sp [.ref a] H (fun v _ => v = .bl true) fun _ _ _ => False) :
    codeAny (model P w) callerA (.call (.ref fa) ⟨[.ref a], []⟩) (fun r s' => r = .ok (.ret (.bool true)) ∧ OldK s.heap s'.heap ∧ s'.os = s.os ∧ AllBare s'.gens) s := by
  have rel : Vals (ns.map V.int) vs := vals_ints hi
  have len : vs.length = ns.length := hi.length
  have at_ : a ≠ t := fun z => by
    rw [z, hT] at ha
    cases (congrArg Obj.data (Option.some.inj ha) : Data.fields #[] = Data.seq vs.toArray)
  let H : Hp := entH K t a { cls := .type "list", data := .seq vs.toArray } (ns.map V.int)
  -- what is neither the table nor a list is not tracked
  have out : ∀ {b : Addr} {o : Obj}, s.heap.get? b = some o → o.data ≠ .fields #[] → (∀ us n, o.data ≠ .seq us n) → H b = none := fun {b o} e h1 h2 => entH_none (fun z => by
    rw [z, hT] at e
    cases e
    exact h1 rfl) fun z _ => by
    rw [z, ha] at e
    cases e
    exact h2 _ _ rfl
  have vis : ∀ {b : Addr} {o : Obj}, s.heap.get? b = some o → o.data ≠ .fields #[] → (∀ us n, o.data ≠ .seq us n) → (hidT s.heap H).get? b = some o := fun e h1 h2 => hidT_get e (out e h1 h2)
  have ns_ : ∀ {b : Addr} {m : Str → Option Value}, s.heap.Ns b m → (hidT s.heap H).Ns b m := fun ⟨o, es, ep, e, d, r⟩ => ⟨o, es, ep, vis e (fun z => by rw [d] at z; cases z) (fun us n z => by rw [d] at z; cases z), d, r⟩
  have hK : K.In (hidT s.heap H) := fun b o e => hidT_get (KX b o e) (entH_none (fun z => by rw [z, nT] at e; cases e) fun z z2 => by rw [z, z2] at e; cases e)
  obtain ⟨ml, l1, l2⟩ := hlim
  have TB_ : TabB (hidT s.heap H) mg c t := by
    obtain ⟨oc, cs, file, tf, flags, tg, inF, tx, tt, e1, r1, r2, r3, r4⟩ := C
    refine ⟨⟨oc, cs, file, tf, flags, tg, inF, tx, tt, vis e1 (fun z => ?_) (fun us n z => by rw [r2] at z; cases z), r1, r2, r3, r4⟩, ?_, fun z => ?_⟩
    · rw [r2] at z
      cases z
      simp at r3
    · obtain ⟨bm, ob, b1, b2, b3, b4, b5, b6⟩ := hbm
      refine ⟨bm, ob, b1, b2, fun z => ?_, fun z => ?_, vis b3 (fun z => by rw [b6] at z; cases z) (fun us n z => by rw [b6] at z; cases z), b4, b5, b6⟩
      · obtain ⟨o1, es, ep, e, d, _⟩ := hns
        rw [z, e] at b3
        cases b3
        rw [d] at b6
        cases b6
      · rw [z, hT] at b3
        cases b3
        cases b6
    · obtain ⟨o1, es, ep, e, d, _⟩ := hns
      rw [z, hT] at e
      cases e
      cases d
  have hok : HOk P w H s.heap := fun b u e => by
    rcases entH_some e with ⟨rfl, rfl⟩ | ⟨_, rfl, _, rfl⟩
    · exact hT
    · exact ⟨ha, by rw [List.length_map]; exact hl, vs, _, rel, ha⟩
  have seq : SqL K H a (ns.map V.int) := by
    cases q : K.lookup a with
    | none => exact .inl (.inr ⟨_, entH_a at_ q⟩)
    | some o =>
      have e := KX a o q
      rw [ha] at e
      cases e
      exact .inr ⟨_, vs.toArray, _, q, rfl, rfl, rfl, by rw [List.size_toArray, len]; exact hl, by simpa using rel⟩
  have e0 : Env0 P w K mg (hidT s.heap H) callerA [] s H := ⟨rfl, ⟨hK, ns_ hns, ⟨mb, ns_ hb, hbb⟩, ⟨ml, ns_ l1, l2⟩⟩, fun b o e => of_hidT e, by rw [hidT_size]; exact Nat.le_refl _, trivial, fun b z => absurd (show b ∈ ([] : List Addr) from z) (by simp), hok, .of_eq hg⟩
  refine codeAny_mono (F _ hK (ns_ hns) TB_ callerA [] s H [.ref a] [.ref a] (fun v _ => v = .bl true) (fun _ _ _ => False) hr rfl e0 (.cons rfl .nil) (hsp H entH_t seq)) fun r s' h => ?_
  cases r with
  | error e => exact False.elim h
  | ok fl =>
    cases fl with
    | next => exact False.elim h
    | brk => exact False.elim h
    | cont => exact False.elim h
    | ret u =>
      obtain ⟨v, H', os, bare, un, hok', r', q⟩ := h
      subst q
      obtain rfl : u = Value.bool true := r'
      obtain ⟨more, hm⟩ := un.tbls t #[] entH_t
      have hm2 : s'.heap.get? t = some { cls := .none, data := .fields (#[] ++ more) } := hok' t _ hm
      have kept : ∀ b o, b ≠ t → s.heap.get? b = some o → s'.heap.get? b = some o := fun b o nb e => by
        cases q : H b with
        | none => exact un.keep b o e q (fun z => absurd (show b ∈ ([] : List Addr) from z) (by simp)) (by simp)
        | some u =>
          rcases entH_some q with ⟨z, _⟩ | ⟨_, z, _, rfl⟩
          · exact absurd z nb
          · obtain ⟨g1, _⟩ := hok b _ q
            obtain ⟨g2, _⟩ := hok' b _ (un.frzs b _ _ q)
            rw [e] at g1
            cases g1
            exact g2
      refine ⟨rfl, ⟨fun b o e => ?_, fun b o e => ?_⟩, os, bare⟩
      · by_cases nb : b = t
        · subst nb
          rw [hT] at e
          cases e
          exact .inr (.inl ⟨(C.tab hT).isCodeTable, rfl, #[], more, rfl, hm2⟩)
        · exact .inl (kept b o nb e)
      · by_cases nb : b = t
        · exact ⟨_, nb ▸ hm2⟩
        · exact ⟨o, kept b o nb e⟩
end
end K31
end
section
set_option maxHeartbeats 0
set_option autoImplicit false
/-! The join with the head. -/
namespace K31
open PySem PySem.Spec PySem.Calls PyProof.Rows L2 LamX
theorem room_law : Room 11 callerA := ⟨rfl, by decide, by decide⟩
theorem no_super : (R.prog.main.scope.names.lookup ("super" : Str)).isSome = false := by decide +kernel
theorem tc_of {K : PySem.W.Frag} {h : Heap} {mg : Str → Option Value} (X : K.In h) (G : h.Ns mainGlobals mg) (c : SaysY h K) : TC R.prog K mg := ⟨⟨⟨h, X, G⟩, c.t, (He.ba c.more).1⟩, c.more, c.clo⟩
theorem law_at {w : World} {K : PySem.W.Frag} {s : Shared} {mg mb : Str → Option Value} {fa a : Addr} {vs : List Value} {ns : List Int} (X : K.In s.heap) (c : SaysY s.heap K) (G : s.heap.Ns mainGlobals mg) (hm : mg ("law" : Str) = some (.ref fa)) (hb : s.heap.Ns builtinsNs mb) (hbb : ∀ x : Str, x ≠ "__name__" → mb x = bootBuiltins x) (hlim : s.heap.NoLimit) (hg : s.gens = #[])
    (hbm : ∃ (bm : Addr) (ob : Obj), mg "__builtins__" = some (.ref bm) ∧ bm ≠ builtinsNs ∧ s.heap.get? bm = some ob ∧ ob.cls = .type "module" ∧ ob.dict = some builtinsNs ∧ ob.data = .plain) (ha : s.heap.get? a = some { cls := .type "list", data := .seq vs.toArray }) (hi : IntsAre vs ns) (hl : ns.length ≤ 63) :
    codeAny (model R.prog w) callerA (.call (.ref fa) ⟨[.ref a], []⟩) (fun r s' => r = .ok (.ret (.bool true)) ∧ OldK s.heap s'.heap ∧ s'.os = s.os ∧ AllBare s'.gens) s := by
  have T := tc_of X G c
  have e := hm.symm.trans T.g_law
  cases e
  exact law_callG (mb := mb) (sp := spLaw K (He.cT K ("law", none)).2) X G hb hbb hlim hg (c.empty _ (List.mem_cons_self ..)) (c.out _ (List.mem_cons_self ..)) (PySem.W.codeHd_of_K X (c.hd _ (List.mem_cons_self ..))) hbm ha hi (Nat.le_trans hl (by decide)) room_law (fun base hK hN TB_ => okG_law T (papOk T no_super) TB_) fun H hH hS => ⟨a, ns, rfl, hS, hH, fun v _ e => e⟩
end K31
end
section
set_option maxHeartbeats 0
open PySem PySem.W PySem.Calls PyProof.Rows
theorem PySem.Challenge.cw_typedcurve_k31_whole_other_sides_togethe_holds : PySem.Challenge.rw_typedcurve_k31_whole_other_sides_togethe.Holds := by
  w_on; o_law
  refine HandSHeadRun.head_imp (r := OpenLaw.row PySem.Challenge.rw_typedcurve_k31_whole_other_sides_togethe) (q := K31.qv) (H := K31.hkY) (ob := K31.obY) (M := 12000) (loose := K31.names) (d := HandSHeadRun.topDef (OpenLaw.row PySem.Challenge.rw_typedcurve_k31_whole_other_sides_togethe).prog 110) (kwd := []) K31.obY_eq
    K31.run (by kernel_rfl) (by kernel_rfl) (by kernel_rfl) (by rfl) (by first | assumption | decide +kernel) (by decide +kernel) ⟨rfl, rfl, rfl, rfl, rfl, by decide +kernel⟩ ?hw ?hc
  case hw => w_witness2
  case hc =>
    refine Att.attach_callB (l := PySem.Challenge.rw_typedcurve_k31_whole_other_sides_togethe) (n := 63) rfl (by kernel_rfl) fun w s₀ s₁ mg mb fa o pm cd doc a vs ns G Y ho hd hcd hmg hobj hints hlen hbits hg => ?_
    obtain ⟨K, KX, c⟩ := Y
    have hm : mg ("law" : PySem.Str) = some (.ref fa) := by
      have e : (HandSHeadRun.topDef (OpenLaw.row PySem.Challenge.rw_typedcurve_k31_whole_other_sides_togethe).prog 110).name = ("law" : PySem.Str) := by kernel_rfl
      rw [← e]
      exact hmg
    exact K31.law_at KX c G.T.g hm G.T.b G.T.builtins G.T.nolimit hg G.T.bmain hobj hints hlen
end
