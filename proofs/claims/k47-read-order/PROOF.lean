import PyProof.Rows.All
import Wide.All
import OpenK.AllK
import Wide.FinOn
import KE.KStateDown
import HandS.ForMost
import HandS.Exc
import HandS.Codes
import HandS.Defaults
import HandS.IsInst
import HandS.TupAny
import HandS.TupSets
import HandS.Strs
import HandS.More
import HandS.DictTup
import HandS.CallLocal
import HandS.ExcOwn
import HandS.ExcIs
import HandS.TryOnly
import HandS.TryMany
import HandS.SortKw
import HandS.MakeKw
import HandS.ExcSuper
import HandS.ClsMeth
import HandS.HeadEnd
import HandS.HeadHook1
import HandS.HeadHook2
import HandS.Head0
import HandS.Head1
import HandS.Head2
import KE.KMinKey
import HandS.SetFor
import KE.KDictPairs
import HandS.WordsExc
import HandS.Walk
import PyProof.P3Eq
import HandS.HeadHook3
import HandS.HeadHook4
import PySem.Challenge.RW_lanescroll_k47_whole_no_order_is_read_by
set_option Elab.async false
set_option linter.all false
set_option maxRecDepth 100000
set_option maxHeartbeats 8000000
namespace Sc
open PySem PySem.Spec PyProof.Rows L2
abbrev top (i : Nat) : Stmt := PySem.Challenge.pw_lanescroll_k47_whole_no_order_is_read_by.main.body.getD i (.Pass ⟨0, 0, 0, 0⟩)
abbrev s_needs_of : Stmt := top 13
abbrev s_hung : Stmt := top 14
abbrev s_needed : Stmt := top 15
abbrev s_divisor : Stmt := top 18
abbrev s_is_number : Stmt := top 19
abbrev s_fraction : Stmt := top 20
abbrev s_is_fraction : Stmt := top 21
abbrev s_is_moment : Stmt := top 22
abbrev s_less : Stmt := top 26
abbrev s_is_edit : Stmt := top 28
abbrev s_is_edits : Stmt := top 29
abbrev s_sure_moment : Stmt := top 31
abbrev s_is_whole : Stmt := top 35
abbrev s_Rule_needs : Stmt := inClass (top 37) 1
abbrev s_Plain_init : Stmt := inClass (top 38) 0
abbrev s_Moved_init : Stmt := inClass (top 39) 0
abbrev s_Moved_needs : Stmt := inClass (top 39) 2
abbrev s_Mixed_init : Stmt := inClass (top 40) 0
abbrev s_Mixed_needs : Stmt := inClass (top 40) 2
abbrev s_is_need : Stmt := top 41
abbrev s_rule_of : Stmt := top 42
abbrev s_Leaf_init : Stmt := inClass (top 44) 0
abbrev s_Full_init : Stmt := inClass (top 45) 0
abbrev s_Full_told : Stmt := inClass (top 45) 1
abbrev s_Full_cells : Stmt := inClass (top 45) 2
abbrev s_Full_rule : Stmt := inClass (top 45) 3
abbrev s_Still_init : Stmt := inClass (top 46) 0
abbrev s_Still_told : Stmt := inClass (top 46) 1
abbrev s_Still_rule : Stmt := inClass (top 46) 2
abbrev s_Woven_init : Stmt := inClass (top 47) 0
abbrev s_Woven_told : Stmt := inClass (top 47) 1
abbrev s_Woven_cells : Stmt := inClass (top 47) 2
abbrev s_Woven_rule : Stmt := inClass (top 47) 3
abbrev s_is_value : Stmt := top 48
abbrev s_is_rule : Stmt := top 49
abbrev s_is_row_of : Stmt := top 50
abbrev s_leaf_of : Stmt := top 51
abbrev s_fits : Stmt := top 52
abbrev s_begins_due : Stmt := top 55
abbrev s_dues_of : Stmt := top 56
abbrev s_scale_of : Stmt := top 57
abbrev s_ordered : Stmt := top 58
abbrev s_read_by : Stmt := top 59
abbrev s_Film_init : Stmt := inClass (top 63) 0
abbrev s_Film_len : Stmt := inClass (top 63) 1
abbrev s_Film_told : Stmt := inClass (top 63) 3
abbrev s_Film_lane_at : Stmt := inClass (top 63) 4
abbrev s_Film_leaf_there : Stmt := inClass (top 63) 5
abbrev s_Film_units : Stmt := inClass (top 63) 6
abbrev s_Film_many : Stmt := inClass (top 63) 7
abbrev s_Film_told_leaf : Stmt := inClass (top 63) 9
abbrev s_are_apart : Stmt := top 64
abbrev s_good_leaf : Stmt := top 65
abbrev s_is_small : Stmt := top 66
abbrev s_are_lane_edits : Stmt := top 67
abbrev s_lane_of : Stmt := top 68
abbrev s_film_of : Stmt := top 69
abbrev s_law_cell_at : Stmt := top 71
abbrev s_law_digit : Stmt := top 72
abbrev s_law_shared : Stmt := top 73
abbrev s_law_lowest : Stmt := top 74
abbrev s_law_rule : Stmt := top 75
abbrev s_law_leaf : Stmt := top 76
abbrev s_law_leaves : Stmt := top 77
abbrev s_law_lane_edits : Stmt := top 78
abbrev s_law_lane : Stmt := top 79
abbrev s_law_film : Stmt := top 80
abbrev s_law_rules : Stmt := top 81
abbrev s_law_needs : Stmt := top 82
abbrev s_law_begin_due : Stmt := top 83
abbrev s_law_runs : Stmt := top 84
abbrev s_law_due : Stmt := top 85
abbrev s_law_ahead : Stmt := top 86
abbrev s_law_ordered : Stmt := top 87
abbrev s_law_less : Stmt := top 88
abbrev s_law_some : Stmt := top 89
abbrev s_law_mixed : Stmt := top 90
abbrev s_law_moments : Stmt := top 91
abbrev s_law_read_by : Stmt := top 92
abbrev s_law_refused : Stmt := top 93
abbrev s_law_copy : Stmt := top 94
abbrev s_law : Stmt := top 95
def d_needs_of : He.DefD := ⟨("needs_of", none), "needs_of", "needs_of", defArgs s_needs_of, defBody s_needs_of, defScope s_needs_of, [], []⟩
def d_hung : He.DefD := ⟨("hung", none), "hung", "hung", defArgs s_hung, defBody s_hung, defScope s_hung, [], []⟩
def d_needed : He.DefD := ⟨("needed", none), "needed", "needed", defArgs s_needed, defBody s_needed, defScope s_needed, [], []⟩
def d_divisor : He.DefD := ⟨("divisor", none), "divisor", "divisor", defArgs s_divisor, defBody s_divisor, defScope s_divisor, [], []⟩
def d_is_number : He.DefD := ⟨("is_number", none), "is_number", "is_number", defArgs s_is_number, defBody s_is_number, defScope s_is_number, [], []⟩
def d_fraction : He.DefD := ⟨("fraction", none), "fraction", "fraction", defArgs s_fraction, defBody s_fraction, defScope s_fraction, [.int 1], []⟩
def d_is_fraction : He.DefD := ⟨("is_fraction", none), "is_fraction", "is_fraction", defArgs s_is_fraction, defBody s_is_fraction, defScope s_is_fraction, [], []⟩
def d_is_moment : He.DefD := ⟨("is_moment", none), "is_moment", "is_moment", defArgs s_is_moment, defBody s_is_moment, defScope s_is_moment, [], []⟩
def d_less : He.DefD := ⟨("less", none), "less", "less", defArgs s_less, defBody s_less, defScope s_less, [], []⟩
def d_is_edit : He.DefD := ⟨("is_edit", none), "is_edit", "is_edit", defArgs s_is_edit, defBody s_is_edit, defScope s_is_edit, [], []⟩
def d_is_edits : He.DefD := ⟨("is_edits", none), "is_edits", "is_edits", defArgs s_is_edits, defBody s_is_edits, defScope s_is_edits, [], []⟩
def d_sure_moment : He.DefD := ⟨("sure_moment", none), "sure_moment", "sure_moment", defArgs s_sure_moment, defBody s_sure_moment, defScope s_sure_moment, [], []⟩
def d_is_whole : He.DefD := ⟨("is_whole", none), "is_whole", "is_whole", defArgs s_is_whole, defBody s_is_whole, defScope s_is_whole, [], []⟩
def d_Rule_needs : He.DefD := ⟨("Plain", some "needs"), "needs", "Rule.needs", defArgs s_Rule_needs, defBody s_Rule_needs, defScope s_Rule_needs, [], []⟩
def d_Plain_init : He.DefD := ⟨("Plain", some "__init__"), "__init__", "Plain.__init__", defArgs s_Plain_init, defBody s_Plain_init, defScope s_Plain_init, [], []⟩
def d_Moved_init : He.DefD := ⟨("Moved", some "__init__"), "__init__", "Moved.__init__", defArgs s_Moved_init, defBody s_Moved_init, defScope s_Moved_init, [], []⟩
def d_Moved_needs : He.DefD := ⟨("Moved", some "needs"), "needs", "Moved.needs", defArgs s_Moved_needs, defBody s_Moved_needs, defScope s_Moved_needs, [], []⟩
def d_Mixed_init : He.DefD := ⟨("Mixed", some "__init__"), "__init__", "Mixed.__init__", defArgs s_Mixed_init, defBody s_Mixed_init, defScope s_Mixed_init, [], []⟩
def d_Mixed_needs : He.DefD := ⟨("Mixed", some "needs"), "needs", "Mixed.needs", defArgs s_Mixed_needs, defBody s_Mixed_needs, defScope s_Mixed_needs, [], []⟩
def d_is_need : He.DefD := ⟨("is_need", none), "is_need", "is_need", defArgs s_is_need, defBody s_is_need, defScope s_is_need, [], []⟩
def d_rule_of : He.DefD := ⟨("rule_of", none), "rule_of", "rule_of", defArgs s_rule_of, defBody s_rule_of, defScope s_rule_of, [], []⟩
def d_Leaf_init : He.DefD := ⟨("Leaf", some "__init__"), "__init__", "Leaf.__init__", defArgs s_Leaf_init, defBody s_Leaf_init, defScope s_Leaf_init, [], []⟩
def d_Full_init : He.DefD := ⟨("Full", some "__init__"), "__init__", "Full.__init__", defArgs s_Full_init, defBody s_Full_init, defScope s_Full_init, [], []⟩
def d_Full_told : He.DefD := ⟨("Full", some "told"), "told", "Full.told", defArgs s_Full_told, defBody s_Full_told, defScope s_Full_told, [], []⟩
def d_Full_cells : He.DefD := ⟨("Full", some "cells"), "cells", "Full.cells", defArgs s_Full_cells, defBody s_Full_cells, defScope s_Full_cells, [], []⟩
def d_Full_rule : He.DefD := ⟨("Full", some "rule"), "rule", "Full.rule", defArgs s_Full_rule, defBody s_Full_rule, defScope s_Full_rule, [], []⟩
def d_Still_init : He.DefD := ⟨("Still", some "__init__"), "__init__", "Still.__init__", defArgs s_Still_init, defBody s_Still_init, defScope s_Still_init, [], []⟩
def d_Still_told : He.DefD := ⟨("Still", some "told"), "told", "Still.told", defArgs s_Still_told, defBody s_Still_told, defScope s_Still_told, [], []⟩
def d_Still_rule : He.DefD := ⟨("Still", some "rule"), "rule", "Still.rule", defArgs s_Still_rule, defBody s_Still_rule, defScope s_Still_rule, [], []⟩
def d_Woven_init : He.DefD := ⟨("Woven", some "__init__"), "__init__", "Woven.__init__", defArgs s_Woven_init, defBody s_Woven_init, defScope s_Woven_init, [], []⟩
def d_Woven_told : He.DefD := ⟨("Woven", some "told"), "told", "Woven.told", defArgs s_Woven_told, defBody s_Woven_told, defScope s_Woven_told, [], []⟩
def d_Woven_cells : He.DefD := ⟨("Woven", some "cells"), "cells", "Woven.cells", defArgs s_Woven_cells, defBody s_Woven_cells, defScope s_Woven_cells, [], []⟩
def d_Woven_rule : He.DefD := ⟨("Woven", some "rule"), "rule", "Woven.rule", defArgs s_Woven_rule, defBody s_Woven_rule, defScope s_Woven_rule, [], []⟩
def d_is_value : He.DefD := ⟨("is_value", none), "is_value", "is_value", defArgs s_is_value, defBody s_is_value, defScope s_is_value, [], []⟩
def d_is_rule : He.DefD := ⟨("is_rule", none), "is_rule", "is_rule", defArgs s_is_rule, defBody s_is_rule, defScope s_is_rule, [], []⟩
def d_is_row_of : He.DefD := ⟨("is_row_of", none), "is_row_of", "is_row_of", defArgs s_is_row_of, defBody s_is_row_of, defScope s_is_row_of, [], []⟩
def d_leaf_of : He.DefD := ⟨("leaf_of", none), "leaf_of", "leaf_of", defArgs s_leaf_of, defBody s_leaf_of, defScope s_leaf_of, [], []⟩
def d_fits : He.DefD := ⟨("fits", none), "fits", "fits", defArgs s_fits, defBody s_fits, defScope s_fits, [], []⟩
def d_begins_due : He.DefD := ⟨("begins_due", none), "begins_due", "begins_due", defArgs s_begins_due, defBody s_begins_due, defScope s_begins_due, [], []⟩
def d_dues_of : He.DefD := ⟨("dues_of", none), "dues_of", "dues_of", defArgs s_dues_of, defBody s_dues_of, defScope s_dues_of, [], []⟩
def d_scale_of : He.DefD := ⟨("scale_of", none), "scale_of", "scale_of", defArgs s_scale_of, defBody s_scale_of, defScope s_scale_of, [], []⟩
def d_ordered : He.DefD := ⟨("ordered", none), "ordered", "ordered", defArgs s_ordered, defBody s_ordered, defScope s_ordered, [], []⟩
def d_read_by : He.DefD := ⟨("read_by", none), "read_by", "read_by", defArgs s_read_by, defBody s_read_by, defScope s_read_by, [], []⟩
def d_Film_init : He.DefD := ⟨("Film", some "__init__"), "__init__", "Film.__init__", defArgs s_Film_init, defBody s_Film_init, defScope s_Film_init, [], []⟩
def d_Film_len : He.DefD := ⟨("Film", some "__len__"), "__len__", "Film.__len__", defArgs s_Film_len, defBody s_Film_len, defScope s_Film_len, [], []⟩
def d_Film_told : He.DefD := ⟨("Film", some "told"), "told", "Film.told", defArgs s_Film_told, defBody s_Film_told, defScope s_Film_told, [], []⟩
def d_Film_lane_at : He.DefD := ⟨("Film", some "lane_at"), "lane_at", "Film.lane_at", defArgs s_Film_lane_at, defBody s_Film_lane_at, defScope s_Film_lane_at, [], []⟩
def d_Film_leaf_there : He.DefD := ⟨("Film", some "leaf_there"), "leaf_there", "Film.leaf_there", defArgs s_Film_leaf_there, defBody s_Film_leaf_there, defScope s_Film_leaf_there, [], []⟩
def d_Film_units : He.DefD := ⟨("Film", some "units"), "units", "Film.units", defArgs s_Film_units, defBody s_Film_units, defScope s_Film_units, [], []⟩
def d_Film_many : He.DefD := ⟨("Film", some "many"), "many", "Film.many", defArgs s_Film_many, defBody s_Film_many, defScope s_Film_many, [], []⟩
def d_Film_told_leaf : He.DefD := ⟨("Film", some "told_leaf"), "told_leaf", "Film.told_leaf", defArgs s_Film_told_leaf, defBody s_Film_told_leaf, defScope s_Film_told_leaf, [], []⟩
def d_are_apart : He.DefD := ⟨("are_apart", none), "are_apart", "are_apart", defArgs s_are_apart, defBody s_are_apart, defScope s_are_apart, [], []⟩
def d_good_leaf : He.DefD := ⟨("good_leaf", none), "good_leaf", "good_leaf", defArgs s_good_leaf, defBody s_good_leaf, defScope s_good_leaf, [], []⟩
def d_is_small : He.DefD := ⟨("is_small", none), "is_small", "is_small", defArgs s_is_small, defBody s_is_small, defScope s_is_small, [], []⟩
def d_are_lane_edits : He.DefD := ⟨("are_lane_edits", none), "are_lane_edits", "are_lane_edits", defArgs s_are_lane_edits, defBody s_are_lane_edits, defScope s_are_lane_edits, [], []⟩
def d_lane_of : He.DefD := ⟨("lane_of", none), "lane_of", "lane_of", defArgs s_lane_of, defBody s_lane_of, defScope s_lane_of, [], []⟩
def d_film_of : He.DefD := ⟨("film_of", none), "film_of", "film_of", defArgs s_film_of, defBody s_film_of, defScope s_film_of, [], []⟩
def d_law_cell_at : He.DefD := ⟨("_law_cell_at", none), "_law_cell_at", "_law_cell_at", defArgs s_law_cell_at, defBody s_law_cell_at, defScope s_law_cell_at, [], []⟩
def d_law_digit : He.DefD := ⟨("_law_digit", none), "_law_digit", "_law_digit", defArgs s_law_digit, defBody s_law_digit, defScope s_law_digit, [], []⟩
def d_law_shared : He.DefD := ⟨("_law_shared", none), "_law_shared", "_law_shared", defArgs s_law_shared, defBody s_law_shared, defScope s_law_shared, [], []⟩
def d_law_lowest : He.DefD := ⟨("_law_lowest", none), "_law_lowest", "_law_lowest", defArgs s_law_lowest, defBody s_law_lowest, defScope s_law_lowest, [], []⟩
def d_law_rule : He.DefD := ⟨("_law_rule", none), "_law_rule", "_law_rule", defArgs s_law_rule, defBody s_law_rule, defScope s_law_rule, [], []⟩
def d_law_leaf : He.DefD := ⟨("_law_leaf", none), "_law_leaf", "_law_leaf", defArgs s_law_leaf, defBody s_law_leaf, defScope s_law_leaf, [], []⟩
def d_law_leaves : He.DefD := ⟨("_law_leaves", none), "_law_leaves", "_law_leaves", defArgs s_law_leaves, defBody s_law_leaves, defScope s_law_leaves, [], []⟩
def d_law_lane_edits : He.DefD := ⟨("_law_lane_edits", none), "_law_lane_edits", "_law_lane_edits", defArgs s_law_lane_edits, defBody s_law_lane_edits, defScope s_law_lane_edits, [], []⟩
def d_law_lane : He.DefD := ⟨("_law_lane", none), "_law_lane", "_law_lane", defArgs s_law_lane, defBody s_law_lane, defScope s_law_lane, [], []⟩
def d_law_film : He.DefD := ⟨("_law_film", none), "_law_film", "_law_film", defArgs s_law_film, defBody s_law_film, defScope s_law_film, [], []⟩
def d_law_rules : He.DefD := ⟨("_law_rules", none), "_law_rules", "_law_rules", defArgs s_law_rules, defBody s_law_rules, defScope s_law_rules, [], []⟩
def d_law_needs : He.DefD := ⟨("_law_needs", none), "_law_needs", "_law_needs", defArgs s_law_needs, defBody s_law_needs, defScope s_law_needs, [], []⟩
def d_law_begin_due : He.DefD := ⟨("_law_begin_due", none), "_law_begin_due", "_law_begin_due", defArgs s_law_begin_due, defBody s_law_begin_due, defScope s_law_begin_due, [], []⟩
def d_law_runs : He.DefD := ⟨("_law_runs", none), "_law_runs", "_law_runs", defArgs s_law_runs, defBody s_law_runs, defScope s_law_runs, [], []⟩
def d_law_due : He.DefD := ⟨("_law_due", none), "_law_due", "_law_due", defArgs s_law_due, defBody s_law_due, defScope s_law_due, [], []⟩
def d_law_ahead : He.DefD := ⟨("_law_ahead", none), "_law_ahead", "_law_ahead", defArgs s_law_ahead, defBody s_law_ahead, defScope s_law_ahead, [], []⟩
def d_law_ordered : He.DefD := ⟨("_law_ordered", none), "_law_ordered", "_law_ordered", defArgs s_law_ordered, defBody s_law_ordered, defScope s_law_ordered, [], []⟩
def d_law_less : He.DefD := ⟨("_law_less", none), "_law_less", "_law_less", defArgs s_law_less, defBody s_law_less, defScope s_law_less, [], []⟩
def d_law_some : He.DefD := ⟨("_law_some", none), "_law_some", "_law_some", defArgs s_law_some, defBody s_law_some, defScope s_law_some, [], []⟩
def d_law_mixed : He.DefD := ⟨("_law_mixed", none), "_law_mixed", "_law_mixed", defArgs s_law_mixed, defBody s_law_mixed, defScope s_law_mixed, [], []⟩
def d_law_moments : He.DefD := ⟨("_law_moments", none), "_law_moments", "_law_moments", defArgs s_law_moments, defBody s_law_moments, defScope s_law_moments, [], []⟩
def d_law_read_by : He.DefD := ⟨("_law_read_by", none), "_law_read_by", "_law_read_by", defArgs s_law_read_by, defBody s_law_read_by, defScope s_law_read_by, [], []⟩
def d_law_refused : He.DefD := ⟨("_law_refused", none), "_law_refused", "_law_refused", defArgs s_law_refused, defBody s_law_refused, defScope s_law_refused, [], []⟩
def d_law_copy : He.DefD := ⟨("_law_copy", none), "_law_copy", "_law_copy", defArgs s_law_copy, defBody s_law_copy, defScope s_law_copy, [], []⟩
def d_law : He.DefD := ⟨("law", none), "law", "law", defArgs s_law, defBody s_law, defScope s_law, [], []⟩
def fn : List He.DefD := [d_needs_of, d_hung, d_needed, d_divisor, d_is_number, d_fraction, d_is_fraction, d_is_moment, d_less, d_is_edit, d_is_edits, d_sure_moment, d_is_whole, d_Rule_needs, d_Plain_init, d_Moved_init, d_Moved_needs, d_Mixed_init, d_Mixed_needs, d_is_need, d_rule_of, d_Leaf_init, d_Full_init, d_Full_told, d_Full_cells, d_Full_rule, d_Still_init, d_Still_told, d_Still_rule, d_Woven_init, d_Woven_told, d_Woven_cells, d_Woven_rule, d_is_value, d_is_rule, d_is_row_of, d_leaf_of, d_fits, d_begins_due, d_dues_of, d_scale_of, d_ordered, d_read_by, d_Film_init, d_Film_len, d_Film_told, d_Film_lane_at, d_Film_leaf_there, d_Film_units, d_Film_many, d_Film_told_leaf, d_are_apart, d_good_leaf, d_is_small, d_are_lane_edits, d_lane_of, d_film_of, d_law_cell_at, d_law_digit, d_law_shared, d_law_lowest, d_law_rule, d_law_leaf, d_law_leaves, d_law_lane_edits, d_law_lane, d_law_film, d_law_rules, d_law_needs, d_law_begin_due, d_law_runs, d_law_due, d_law_ahead, d_law_ordered, d_law_less, d_law_some, d_law_mixed, d_law_moments, d_law_read_by, d_law_refused, d_law_copy, d_law]
def loose0 : List Str := ["_wall", "ScrollError", "NoFraction", "NoMoment", "NoRule", "NoLeaf", "NoCell", "NoEdits", "NoFilm", "NoLane", "NoNumber", "needs_of", "hung", "needed", "NOUGHT", "divisor", "is_number", "fraction", "is_fraction", "is_moment", "plus", "minus", "times", "less", "is_edit", "is_edits", "sure_edits", "sure_moment", "led_by", "mapped"]
def loose1 : List Str := ["is_whole", "Rule", "Plain", "Moved", "Mixed", "is_need", "rule_of", "Leaf", "Full", "Still", "Woven", "is_value", "is_rule", "is_row_of", "leaf_of", "fits", "is_on", "begins_due", "dues_of", "scale_of", "ordered", "read_by", "picture_of", "pictures_of", "Film", "are_apart", "good_leaf", "is_small", "are_lane_edits", "lane_of"]
def loose2 : List Str := ["film_of", "_law_cell_at", "_law_digit", "_law_shared", "_law_lowest", "_law_rule", "_law_leaf", "_law_leaves", "_law_lane_edits", "_law_lane", "_law_film", "_law_rules", "_law_needs", "_law_begin_due", "_law_runs", "_law_due", "_law_ahead", "_law_ordered", "_law_less", "_law_some", "_law_mixed", "_law_moments", "_law_read_by", "_law_refused", "_law_copy"]
def loose : List Str := loose0 ++ (loose1 ++ (loose2))

def fa : List He.Fa := [.glo "needs_of", .glo "hung", .glo "needed", .glo "divisor", .glo "is_number", .glo "fraction", .glo "is_fraction", .glo "is_moment", .glo "less", .glo "is_edit", .glo "is_edits", .glo "sure_moment", .glo "is_whole", .glo "is_need", .glo "rule_of", .glo "is_value", .glo "is_rule", .glo "is_row_of", .glo "leaf_of", .glo "fits", .glo "begins_due", .glo "dues_of", .glo "scale_of", .glo "ordered", .glo "read_by", .glo "are_apart", .glo "good_leaf", .glo "is_small", .glo "are_lane_edits", .glo "lane_of", .glo "film_of", .glo "_law_cell_at", .glo "_law_digit", .glo "_law_shared", .glo "_law_lowest", .glo "_law_rule", .glo "_law_leaf", .glo "_law_leaves", .glo "_law_lane_edits", .glo "_law_lane", .glo "_law_film", .glo "_law_rules", .glo "_law_needs", .glo "_law_begin_due", .glo "_law_runs", .glo "_law_due", .glo "_law_ahead", .glo "_law_ordered", .glo "_law_less", .glo "_law_some", .glo "_law_mixed", .glo "_law_moments", .glo "_law_read_by", .glo "_law_refused", .glo "_law_copy", .glo "law", .glo "Plain", .glo "Moved", .glo "Mixed", .glo "Leaf", .glo "Full", .glo "Still", .glo "Woven", .glo "Film", .glo "NoMoment", .glo "ScrollError", .glo "NoLane", .glo "NoNumber", .glo "NoLeaf", .glo "NoRule", .glo "NOUGHT", .free "len", .free "isinstance", .free "int", .free "bool", .free "tuple", .free "list", .free "dict", .free "all", .free "any", .free "abs", .free "min", .free "max", .free "sorted", .free "set", .free "range", .free "enumerate", .cls "Plain", .mkr "Plain", .noat "Plain" "worth", .meth "Plain" "needs", .cls "Moved", .mkr "Moved", .noat "Moved" "back", .noat "Moved" "cell", .noat "Moved" "add", .meth "Moved" "needs", .cls "Mixed", .mkr "Mixed", .noat "Mixed" "back", .noat "Mixed" "cell", .noat "Mixed" "other_back", .noat "Mixed" "other_cell", .meth "Mixed" "needs", .cls "Full", .mkr "Full", .noat "Full" "begin", .noat "Full" "span", .noat "Full" "worths", .meth "Full" "told", .meth "Full" "cells", .meth "Full" "rule", .cls "Still", .mkr "Still", .noat "Still" "begin", .noat "Still" "span", .noat "Still" "back", .meth "Still" "told", .meth "Still" "rule", .cls "Woven", .mkr "Woven", .noat "Woven" "begin", .noat "Woven" "span", .noat "Woven" "rules", .meth "Woven" "told", .meth "Woven" "cells", .meth "Woven" "rule", .cls "Film", .mkr "Film", .noat "Film" "seal", .noat "Film" "wide", .noat "Film" "lanes", .meth "Film" "told", .meth "Film" "lane_at", .meth "Film" "leaf_there", .meth "Film" "units", .meth "Film" "many", .meth "Film" "told_leaf", .meth "Film" "__len__", .exc "NoMoment", .exm "NoMoment" "NoMoment" true]
/-! what more is asked of the head -/
def isOpt (a : Option Bool) (b : Bool) : Bool := decide (a = some b)
def clsB (K : PySem.W.Frag) (x : Str) : Bool := He.eqO (PySem.W.findIn K (.ref (He.ga K x)) "__class__") (some (some (.builtin "object.__class__"))) && isOpt (PySem.W.mroIn K (He.ga K x) (.type "object")) true
def valB (K : PySem.W.Frag) (x m : Str) : Bool := match PySem.W.findCls K (.ref (He.ga K x)) (.type "type") m with
  | some (.val (.ref a)) => decide (a = He.ma K (He.ga K x) m)
  | _ => false
def ex (K : PySem.W.Frag) : Bool :=
  (He.eqO (PySem.W.specialIn K (.builtin "object.__class__") "__get__") (some (some (.builtin "getset_descriptor.__get__"))) && isOpt (PySem.W.takesIn K (.builtin "object.__class__")) true)
  && ((clsB K "Full" && (clsB K "Still" && (clsB K "Woven" && clsB K "NoMoment")))
  && ((isOpt (PySem.W.kitOne K (.ref (He.ga K "Full")) (.ref (He.ga K "Still"))) false && (isOpt (PySem.W.kitOne K (.ref (He.ga K "Still")) (.ref (He.ga K "Still"))) true && isOpt (PySem.W.kitOne K (.ref (He.ga K "Woven")) (.ref (He.ga K "Still"))) false))
  && ((He.eqO (PySem.W.findIn K (.ref (He.ga K "NoMoment")) "__getattribute__") (some (some (.builtin "BaseException.__getattribute__"))) && (He.eqO (PySem.W.findIn K (.ref (He.ga K "NoMoment")) "__getattr__") (some none) && (isOpt (PySem.W.subIn K (.ref (He.ga K "NoMoment")) (.type "BaseException")) true && PySem.W.hasDictIn K (He.ga K "NoMoment"))))
  && ((isOpt (PySem.W.kitAny K (.ref (He.ga K "NoMoment")) [.ref (He.ga K "NoLane"), .ref (He.ga K "NoNumber")]) false && He.tupB K "NOUGHT" [.int 0, .int 1])
  && (PySem.W.readsIn K (He.ga K "Leaf") (.type "type") && (He.eqO (PySem.W.specialIn K (.ref (He.ga K "Leaf")) "__getattribute__") (some (some (.builtin "type.__getattribute__"))) && valB K "Leaf" "__init__"))))))
structure More (K : PySem.W.Frag) : Prop where
  get : PySem.W.specialIn K (.builtin "object.__class__") "__get__" = some (some (.builtin "getset_descriptor.__get__"))
  tak : PySem.W.takesIn K (.builtin "object.__class__") = some true
  cF : PySem.W.findIn K (.ref (He.ga K "Full")) "__class__" = some (some (.builtin "object.__class__"))
  mF : PySem.W.mroIn K (He.ga K "Full") (.type "object") = some true
  cS : PySem.W.findIn K (.ref (He.ga K "Still")) "__class__" = some (some (.builtin "object.__class__"))
  mS : PySem.W.mroIn K (He.ga K "Still") (.type "object") = some true
  cW : PySem.W.findIn K (.ref (He.ga K "Woven")) "__class__" = some (some (.builtin "object.__class__"))
  mW : PySem.W.mroIn K (He.ga K "Woven") (.type "object") = some true
  kF : PySem.W.kitOne K (.ref (He.ga K "Full")) (.ref (He.ga K "Still")) = some false
  kS : PySem.W.kitOne K (.ref (He.ga K "Still")) (.ref (He.ga K "Still")) = some true
  kW : PySem.W.kitOne K (.ref (He.ga K "Woven")) (.ref (He.ga K "Still")) = some false
  exc : ExcC K (He.ga K "NoMoment")
  kE : PySem.W.kitAny K (.ref (He.ga K "NoMoment")) [.ref (He.ga K "NoLane"), .ref (He.ga K "NoNumber")] = some false
  ngt : ∀ H : Hp, SqT K H (He.ga K "NOUGHT") [.int 0, .int 1]
  lrd : ClX.CRead K (He.ga K "Leaf") (.type "type")
  lin : PySem.W.findCls K (.ref (He.ga K "Leaf")) (.type "type") "__init__" = some (.val (.ref (He.ma K (He.ga K "Leaf") "__init__")))
theorem isOpt_ok {a : Option Bool} {b : Bool} (h : isOpt a b = true) : a = some b := of_decide_eq_true h
theorem valB_ok {K : PySem.W.Frag} {x m : Str} (h : valB K x m = true) : PySem.W.findCls K (.ref (He.ga K x)) (.type "type") m = some (.val (.ref (He.ma K (He.ga K x) m))) := by
  unfold valB at h
  split at h
  · rename_i a e
    rw [e, of_decide_eq_true h]
  · cases h
theorem ex_ok {K : PySem.W.Frag} (h : ex K = true) : More K := by
  unfold ex at h
  simp only [Bool.and_eq_true] at h
  obtain ⟨⟨a1, a2⟩, ⟨b1, b2, b3, b4⟩, ⟨c1, c2, c3⟩, ⟨d1, d2, d3, d4⟩, ⟨e1, e2⟩, f1, f2, f3⟩ := h
  unfold clsB at b1 b2 b3 b4
  simp only [Bool.and_eq_true] at b1 b2 b3 b4
  have g1 := He.eqO_ok a1
  have g2 := isOpt_ok a2
  exact ⟨g1, g2, He.eqO_ok b1.1, isOpt_ok b1.2, He.eqO_ok b2.1, isOpt_ok b2.2, He.eqO_ok b3.1, isOpt_ok b3.2, isOpt_ok c1, isOpt_ok c2, isOpt_ok c3,
    ⟨He.eqO_ok d1, He.eqO_ok d2, isOpt_ok d3, d4, He.eqO_ok b4.1, g1, g2, isOpt_ok b4.2⟩, isOpt_ok e1, fun H => He.tupB_ok e2 H, ⟨f1, He.eqO_ok f2⟩, valB_ok f3⟩

structure Ts (K : PySem.W.Frag) (mg : Str → Option Value) : Prop where
  s : He.SaysD fa fn K
  e : More K
  h : ∃ h : Heap, K.In h ∧ h.Ns mainGlobals mg
section
variable {K : PySem.W.Frag} {mg : Str → Option Value}
theorem Ts.glo (T : Ts K mg) {x : Str} (c : (He.Fa.glo x).ok K = true) : mg x = some (.ref (He.ga K x)) := let ⟨_, X, G⟩ := T.h; He.glo_ok X G c
theorem Ts.fre (T : Ts K mg) {x : Str} (c : (He.Fa.free x).ok K = true) : mg x = none := let ⟨_, X, G⟩ := T.h; He.free_ok X G c
theorem Ts.g_needs_of (T : Ts K mg) : mg "needs_of" = some (.ref (He.ga K "needs_of")) := T.glo (T.s.fact 0)
theorem Ts.g_hung (T : Ts K mg) : mg "hung" = some (.ref (He.ga K "hung")) := T.glo (T.s.fact 1)
theorem Ts.g_needed (T : Ts K mg) : mg "needed" = some (.ref (He.ga K "needed")) := T.glo (T.s.fact 2)
theorem Ts.g_divisor (T : Ts K mg) : mg "divisor" = some (.ref (He.ga K "divisor")) := T.glo (T.s.fact 3)
theorem Ts.g_is_number (T : Ts K mg) : mg "is_number" = some (.ref (He.ga K "is_number")) := T.glo (T.s.fact 4)
theorem Ts.g_fraction (T : Ts K mg) : mg "fraction" = some (.ref (He.ga K "fraction")) := T.glo (T.s.fact 5)
theorem Ts.g_is_fraction (T : Ts K mg) : mg "is_fraction" = some (.ref (He.ga K "is_fraction")) := T.glo (T.s.fact 6)
theorem Ts.g_is_moment (T : Ts K mg) : mg "is_moment" = some (.ref (He.ga K "is_moment")) := T.glo (T.s.fact 7)
theorem Ts.g_less (T : Ts K mg) : mg "less" = some (.ref (He.ga K "less")) := T.glo (T.s.fact 8)
theorem Ts.g_is_edit (T : Ts K mg) : mg "is_edit" = some (.ref (He.ga K "is_edit")) := T.glo (T.s.fact 9)
theorem Ts.g_is_edits (T : Ts K mg) : mg "is_edits" = some (.ref (He.ga K "is_edits")) := T.glo (T.s.fact 10)
theorem Ts.g_sure_moment (T : Ts K mg) : mg "sure_moment" = some (.ref (He.ga K "sure_moment")) := T.glo (T.s.fact 11)
theorem Ts.g_is_whole (T : Ts K mg) : mg "is_whole" = some (.ref (He.ga K "is_whole")) := T.glo (T.s.fact 12)
theorem Ts.g_is_need (T : Ts K mg) : mg "is_need" = some (.ref (He.ga K "is_need")) := T.glo (T.s.fact 13)
theorem Ts.g_rule_of (T : Ts K mg) : mg "rule_of" = some (.ref (He.ga K "rule_of")) := T.glo (T.s.fact 14)
theorem Ts.g_is_value (T : Ts K mg) : mg "is_value" = some (.ref (He.ga K "is_value")) := T.glo (T.s.fact 15)
theorem Ts.g_is_rule (T : Ts K mg) : mg "is_rule" = some (.ref (He.ga K "is_rule")) := T.glo (T.s.fact 16)
theorem Ts.g_is_row_of (T : Ts K mg) : mg "is_row_of" = some (.ref (He.ga K "is_row_of")) := T.glo (T.s.fact 17)
theorem Ts.g_leaf_of (T : Ts K mg) : mg "leaf_of" = some (.ref (He.ga K "leaf_of")) := T.glo (T.s.fact 18)
theorem Ts.g_fits (T : Ts K mg) : mg "fits" = some (.ref (He.ga K "fits")) := T.glo (T.s.fact 19)
theorem Ts.g_begins_due (T : Ts K mg) : mg "begins_due" = some (.ref (He.ga K "begins_due")) := T.glo (T.s.fact 20)
theorem Ts.g_dues_of (T : Ts K mg) : mg "dues_of" = some (.ref (He.ga K "dues_of")) := T.glo (T.s.fact 21)
theorem Ts.g_scale_of (T : Ts K mg) : mg "scale_of" = some (.ref (He.ga K "scale_of")) := T.glo (T.s.fact 22)
theorem Ts.g_ordered (T : Ts K mg) : mg "ordered" = some (.ref (He.ga K "ordered")) := T.glo (T.s.fact 23)
theorem Ts.g_read_by (T : Ts K mg) : mg "read_by" = some (.ref (He.ga K "read_by")) := T.glo (T.s.fact 24)
theorem Ts.g_are_apart (T : Ts K mg) : mg "are_apart" = some (.ref (He.ga K "are_apart")) := T.glo (T.s.fact 25)
theorem Ts.g_good_leaf (T : Ts K mg) : mg "good_leaf" = some (.ref (He.ga K "good_leaf")) := T.glo (T.s.fact 26)
theorem Ts.g_is_small (T : Ts K mg) : mg "is_small" = some (.ref (He.ga K "is_small")) := T.glo (T.s.fact 27)
theorem Ts.g_are_lane_edits (T : Ts K mg) : mg "are_lane_edits" = some (.ref (He.ga K "are_lane_edits")) := T.glo (T.s.fact 28)
theorem Ts.g_lane_of (T : Ts K mg) : mg "lane_of" = some (.ref (He.ga K "lane_of")) := T.glo (T.s.fact 29)
theorem Ts.g_film_of (T : Ts K mg) : mg "film_of" = some (.ref (He.ga K "film_of")) := T.glo (T.s.fact 30)
theorem Ts.g_law_cell_at (T : Ts K mg) : mg "_law_cell_at" = some (.ref (He.ga K "_law_cell_at")) := T.glo (T.s.fact 31)
theorem Ts.g_law_digit (T : Ts K mg) : mg "_law_digit" = some (.ref (He.ga K "_law_digit")) := T.glo (T.s.fact 32)
theorem Ts.g_law_shared (T : Ts K mg) : mg "_law_shared" = some (.ref (He.ga K "_law_shared")) := T.glo (T.s.fact 33)
theorem Ts.g_law_lowest (T : Ts K mg) : mg "_law_lowest" = some (.ref (He.ga K "_law_lowest")) := T.glo (T.s.fact 34)
theorem Ts.g_law_rule (T : Ts K mg) : mg "_law_rule" = some (.ref (He.ga K "_law_rule")) := T.glo (T.s.fact 35)
theorem Ts.g_law_leaf (T : Ts K mg) : mg "_law_leaf" = some (.ref (He.ga K "_law_leaf")) := T.glo (T.s.fact 36)
theorem Ts.g_law_leaves (T : Ts K mg) : mg "_law_leaves" = some (.ref (He.ga K "_law_leaves")) := T.glo (T.s.fact 37)
theorem Ts.g_law_lane_edits (T : Ts K mg) : mg "_law_lane_edits" = some (.ref (He.ga K "_law_lane_edits")) := T.glo (T.s.fact 38)
theorem Ts.g_law_lane (T : Ts K mg) : mg "_law_lane" = some (.ref (He.ga K "_law_lane")) := T.glo (T.s.fact 39)
theorem Ts.g_law_film (T : Ts K mg) : mg "_law_film" = some (.ref (He.ga K "_law_film")) := T.glo (T.s.fact 40)
theorem Ts.g_law_rules (T : Ts K mg) : mg "_law_rules" = some (.ref (He.ga K "_law_rules")) := T.glo (T.s.fact 41)
theorem Ts.g_law_needs (T : Ts K mg) : mg "_law_needs" = some (.ref (He.ga K "_law_needs")) := T.glo (T.s.fact 42)
theorem Ts.g_law_begin_due (T : Ts K mg) : mg "_law_begin_due" = some (.ref (He.ga K "_law_begin_due")) := T.glo (T.s.fact 43)
theorem Ts.g_law_runs (T : Ts K mg) : mg "_law_runs" = some (.ref (He.ga K "_law_runs")) := T.glo (T.s.fact 44)
theorem Ts.g_law_due (T : Ts K mg) : mg "_law_due" = some (.ref (He.ga K "_law_due")) := T.glo (T.s.fact 45)
theorem Ts.g_law_ahead (T : Ts K mg) : mg "_law_ahead" = some (.ref (He.ga K "_law_ahead")) := T.glo (T.s.fact 46)
theorem Ts.g_law_ordered (T : Ts K mg) : mg "_law_ordered" = some (.ref (He.ga K "_law_ordered")) := T.glo (T.s.fact 47)
theorem Ts.g_law_less (T : Ts K mg) : mg "_law_less" = some (.ref (He.ga K "_law_less")) := T.glo (T.s.fact 48)
theorem Ts.g_law_some (T : Ts K mg) : mg "_law_some" = some (.ref (He.ga K "_law_some")) := T.glo (T.s.fact 49)
theorem Ts.g_law_mixed (T : Ts K mg) : mg "_law_mixed" = some (.ref (He.ga K "_law_mixed")) := T.glo (T.s.fact 50)
theorem Ts.g_law_moments (T : Ts K mg) : mg "_law_moments" = some (.ref (He.ga K "_law_moments")) := T.glo (T.s.fact 51)
theorem Ts.g_law_read_by (T : Ts K mg) : mg "_law_read_by" = some (.ref (He.ga K "_law_read_by")) := T.glo (T.s.fact 52)
theorem Ts.g_law_refused (T : Ts K mg) : mg "_law_refused" = some (.ref (He.ga K "_law_refused")) := T.glo (T.s.fact 53)
theorem Ts.g_law_copy (T : Ts K mg) : mg "_law_copy" = some (.ref (He.ga K "_law_copy")) := T.glo (T.s.fact 54)
theorem Ts.g_law (T : Ts K mg) : mg "law" = some (.ref (He.ga K "law")) := T.glo (T.s.fact 55)
theorem Ts.g_Plain (T : Ts K mg) : mg "Plain" = some (.ref (He.ga K "Plain")) := T.glo (T.s.fact 56)
theorem Ts.g_Moved (T : Ts K mg) : mg "Moved" = some (.ref (He.ga K "Moved")) := T.glo (T.s.fact 57)
theorem Ts.g_Mixed (T : Ts K mg) : mg "Mixed" = some (.ref (He.ga K "Mixed")) := T.glo (T.s.fact 58)
theorem Ts.g_Leaf (T : Ts K mg) : mg "Leaf" = some (.ref (He.ga K "Leaf")) := T.glo (T.s.fact 59)
theorem Ts.g_Full (T : Ts K mg) : mg "Full" = some (.ref (He.ga K "Full")) := T.glo (T.s.fact 60)
theorem Ts.g_Still (T : Ts K mg) : mg "Still" = some (.ref (He.ga K "Still")) := T.glo (T.s.fact 61)
theorem Ts.g_Woven (T : Ts K mg) : mg "Woven" = some (.ref (He.ga K "Woven")) := T.glo (T.s.fact 62)
theorem Ts.g_Film (T : Ts K mg) : mg "Film" = some (.ref (He.ga K "Film")) := T.glo (T.s.fact 63)
theorem Ts.g_NoMoment (T : Ts K mg) : mg "NoMoment" = some (.ref (He.ga K "NoMoment")) := T.glo (T.s.fact 64)
theorem Ts.g_ScrollError (T : Ts K mg) : mg "ScrollError" = some (.ref (He.ga K "ScrollError")) := T.glo (T.s.fact 65)
theorem Ts.g_NoLane (T : Ts K mg) : mg "NoLane" = some (.ref (He.ga K "NoLane")) := T.glo (T.s.fact 66)
theorem Ts.g_NoNumber (T : Ts K mg) : mg "NoNumber" = some (.ref (He.ga K "NoNumber")) := T.glo (T.s.fact 67)
theorem Ts.g_NoLeaf (T : Ts K mg) : mg "NoLeaf" = some (.ref (He.ga K "NoLeaf")) := T.glo (T.s.fact 68)
theorem Ts.g_NoRule (T : Ts K mg) : mg "NoRule" = some (.ref (He.ga K "NoRule")) := T.glo (T.s.fact 69)
theorem Ts.g_NOUGHT (T : Ts K mg) : mg "NOUGHT" = some (.ref (He.ga K "NOUGHT")) := T.glo (T.s.fact 70)
theorem Ts.m_len (T : Ts K mg) : mg "len" = none := T.fre (T.s.fact 71)
theorem Ts.m_isinstance (T : Ts K mg) : mg "isinstance" = none := T.fre (T.s.fact 72)
theorem Ts.m_int (T : Ts K mg) : mg "int" = none := T.fre (T.s.fact 73)
theorem Ts.m_bool (T : Ts K mg) : mg "bool" = none := T.fre (T.s.fact 74)
theorem Ts.m_tuple (T : Ts K mg) : mg "tuple" = none := T.fre (T.s.fact 75)
theorem Ts.m_list (T : Ts K mg) : mg "list" = none := T.fre (T.s.fact 76)
theorem Ts.m_dict (T : Ts K mg) : mg "dict" = none := T.fre (T.s.fact 77)
theorem Ts.m_all (T : Ts K mg) : mg "all" = none := T.fre (T.s.fact 78)
theorem Ts.m_any (T : Ts K mg) : mg "any" = none := T.fre (T.s.fact 79)
theorem Ts.m_abs (T : Ts K mg) : mg "abs" = none := T.fre (T.s.fact 80)
theorem Ts.m_min (T : Ts K mg) : mg "min" = none := T.fre (T.s.fact 81)
theorem Ts.m_max (T : Ts K mg) : mg "max" = none := T.fre (T.s.fact 82)
theorem Ts.m_sorted (T : Ts K mg) : mg "sorted" = none := T.fre (T.s.fact 83)
theorem Ts.m_set (T : Ts K mg) : mg "set" = none := T.fre (T.s.fact 84)
theorem Ts.m_range (T : Ts K mg) : mg "range" = none := T.fre (T.s.fact 85)
theorem Ts.m_enumerate (T : Ts K mg) : mg "enumerate" = none := T.fre (T.s.fact 86)
theorem Ts.c_Plain (T : Ts K mg) : Cls K (He.ga K "Plain") := He.cls_ok (T.s.fact 87)
theorem Ts.k_Plain (T : Ts K mg) : Mk K (He.ga K "Plain") (He.ma K (He.ga K "Plain") "__init__") := He.mkr_ok (T.s.fact 88)
theorem Ts.n_Plain_worth (T : Ts K mg) : NoAttr K (He.ga K "Plain") "worth" := He.noat_ok (T.s.fact 89)
theorem Ts.t_Plain_needs (T : Ts K mg) : Meth K (He.ga K "Plain") "needs" (He.ma K (He.ga K "Plain") "needs") := He.meth_ok (T.s.fact 90)
theorem Ts.c_Moved (T : Ts K mg) : Cls K (He.ga K "Moved") := He.cls_ok (T.s.fact 91)
theorem Ts.k_Moved (T : Ts K mg) : Mk K (He.ga K "Moved") (He.ma K (He.ga K "Moved") "__init__") := He.mkr_ok (T.s.fact 92)
theorem Ts.n_Moved_back (T : Ts K mg) : NoAttr K (He.ga K "Moved") "back" := He.noat_ok (T.s.fact 93)
theorem Ts.n_Moved_cell (T : Ts K mg) : NoAttr K (He.ga K "Moved") "cell" := He.noat_ok (T.s.fact 94)
theorem Ts.n_Moved_add (T : Ts K mg) : NoAttr K (He.ga K "Moved") "add" := He.noat_ok (T.s.fact 95)
theorem Ts.t_Moved_needs (T : Ts K mg) : Meth K (He.ga K "Moved") "needs" (He.ma K (He.ga K "Moved") "needs") := He.meth_ok (T.s.fact 96)
theorem Ts.c_Mixed (T : Ts K mg) : Cls K (He.ga K "Mixed") := He.cls_ok (T.s.fact 97)
theorem Ts.k_Mixed (T : Ts K mg) : Mk K (He.ga K "Mixed") (He.ma K (He.ga K "Mixed") "__init__") := He.mkr_ok (T.s.fact 98)
theorem Ts.n_Mixed_back (T : Ts K mg) : NoAttr K (He.ga K "Mixed") "back" := He.noat_ok (T.s.fact 99)
theorem Ts.n_Mixed_cell (T : Ts K mg) : NoAttr K (He.ga K "Mixed") "cell" := He.noat_ok (T.s.fact 100)
theorem Ts.n_Mixed_other_back (T : Ts K mg) : NoAttr K (He.ga K "Mixed") "other_back" := He.noat_ok (T.s.fact 101)
theorem Ts.n_Mixed_other_cell (T : Ts K mg) : NoAttr K (He.ga K "Mixed") "other_cell" := He.noat_ok (T.s.fact 102)
theorem Ts.t_Mixed_needs (T : Ts K mg) : Meth K (He.ga K "Mixed") "needs" (He.ma K (He.ga K "Mixed") "needs") := He.meth_ok (T.s.fact 103)
theorem Ts.c_Full (T : Ts K mg) : Cls K (He.ga K "Full") := He.cls_ok (T.s.fact 104)
theorem Ts.k_Full (T : Ts K mg) : Mk K (He.ga K "Full") (He.ma K (He.ga K "Full") "__init__") := He.mkr_ok (T.s.fact 105)
theorem Ts.n_Full_begin (T : Ts K mg) : NoAttr K (He.ga K "Full") "begin" := He.noat_ok (T.s.fact 106)
theorem Ts.n_Full_span (T : Ts K mg) : NoAttr K (He.ga K "Full") "span" := He.noat_ok (T.s.fact 107)
theorem Ts.n_Full_worths (T : Ts K mg) : NoAttr K (He.ga K "Full") "worths" := He.noat_ok (T.s.fact 108)
theorem Ts.t_Full_told (T : Ts K mg) : Meth K (He.ga K "Full") "told" (He.ma K (He.ga K "Full") "told") := He.meth_ok (T.s.fact 109)
theorem Ts.t_Full_cells (T : Ts K mg) : Meth K (He.ga K "Full") "cells" (He.ma K (He.ga K "Full") "cells") := He.meth_ok (T.s.fact 110)
theorem Ts.t_Full_rule (T : Ts K mg) : Meth K (He.ga K "Full") "rule" (He.ma K (He.ga K "Full") "rule") := He.meth_ok (T.s.fact 111)
theorem Ts.c_Still (T : Ts K mg) : Cls K (He.ga K "Still") := He.cls_ok (T.s.fact 112)
theorem Ts.k_Still (T : Ts K mg) : Mk K (He.ga K "Still") (He.ma K (He.ga K "Still") "__init__") := He.mkr_ok (T.s.fact 113)
theorem Ts.n_Still_begin (T : Ts K mg) : NoAttr K (He.ga K "Still") "begin" := He.noat_ok (T.s.fact 114)
theorem Ts.n_Still_span (T : Ts K mg) : NoAttr K (He.ga K "Still") "span" := He.noat_ok (T.s.fact 115)
theorem Ts.n_Still_back (T : Ts K mg) : NoAttr K (He.ga K "Still") "back" := He.noat_ok (T.s.fact 116)
theorem Ts.t_Still_told (T : Ts K mg) : Meth K (He.ga K "Still") "told" (He.ma K (He.ga K "Still") "told") := He.meth_ok (T.s.fact 117)
theorem Ts.t_Still_rule (T : Ts K mg) : Meth K (He.ga K "Still") "rule" (He.ma K (He.ga K "Still") "rule") := He.meth_ok (T.s.fact 118)
theorem Ts.c_Woven (T : Ts K mg) : Cls K (He.ga K "Woven") := He.cls_ok (T.s.fact 119)
theorem Ts.k_Woven (T : Ts K mg) : Mk K (He.ga K "Woven") (He.ma K (He.ga K "Woven") "__init__") := He.mkr_ok (T.s.fact 120)
theorem Ts.n_Woven_begin (T : Ts K mg) : NoAttr K (He.ga K "Woven") "begin" := He.noat_ok (T.s.fact 121)
theorem Ts.n_Woven_span (T : Ts K mg) : NoAttr K (He.ga K "Woven") "span" := He.noat_ok (T.s.fact 122)
theorem Ts.n_Woven_rules (T : Ts K mg) : NoAttr K (He.ga K "Woven") "rules" := He.noat_ok (T.s.fact 123)
theorem Ts.t_Woven_told (T : Ts K mg) : Meth K (He.ga K "Woven") "told" (He.ma K (He.ga K "Woven") "told") := He.meth_ok (T.s.fact 124)
theorem Ts.t_Woven_cells (T : Ts K mg) : Meth K (He.ga K "Woven") "cells" (He.ma K (He.ga K "Woven") "cells") := He.meth_ok (T.s.fact 125)
theorem Ts.t_Woven_rule (T : Ts K mg) : Meth K (He.ga K "Woven") "rule" (He.ma K (He.ga K "Woven") "rule") := He.meth_ok (T.s.fact 126)
theorem Ts.c_Film (T : Ts K mg) : Cls K (He.ga K "Film") := He.cls_ok (T.s.fact 127)
theorem Ts.k_Film (T : Ts K mg) : Mk K (He.ga K "Film") (He.ma K (He.ga K "Film") "__init__") := He.mkr_ok (T.s.fact 128)
theorem Ts.n_Film_seal (T : Ts K mg) : NoAttr K (He.ga K "Film") "seal" := He.noat_ok (T.s.fact 129)
theorem Ts.n_Film_wide (T : Ts K mg) : NoAttr K (He.ga K "Film") "wide" := He.noat_ok (T.s.fact 130)
theorem Ts.n_Film_lanes (T : Ts K mg) : NoAttr K (He.ga K "Film") "lanes" := He.noat_ok (T.s.fact 131)
theorem Ts.t_Film_told (T : Ts K mg) : Meth K (He.ga K "Film") "told" (He.ma K (He.ga K "Film") "told") := He.meth_ok (T.s.fact 132)
theorem Ts.t_Film_lane_at (T : Ts K mg) : Meth K (He.ga K "Film") "lane_at" (He.ma K (He.ga K "Film") "lane_at") := He.meth_ok (T.s.fact 133)
theorem Ts.t_Film_leaf_there (T : Ts K mg) : Meth K (He.ga K "Film") "leaf_there" (He.ma K (He.ga K "Film") "leaf_there") := He.meth_ok (T.s.fact 134)
theorem Ts.t_Film_units (T : Ts K mg) : Meth K (He.ga K "Film") "units" (He.ma K (He.ga K "Film") "units") := He.meth_ok (T.s.fact 135)
theorem Ts.t_Film_many (T : Ts K mg) : Meth K (He.ga K "Film") "many" (He.ma K (He.ga K "Film") "many") := He.meth_ok (T.s.fact 136)
theorem Ts.t_Film_told_leaf (T : Ts K mg) : Meth K (He.ga K "Film") "told_leaf" (He.ma K (He.ga K "Film") "told_leaf") := He.meth_ok (T.s.fact 137)
theorem Ts.t_Film_len (T : Ts K mg) : Meth K (He.ga K "Film") "__len__" (He.ma K (He.ga K "Film") "__len__") := He.meth_ok (T.s.fact 138)
theorem Ts.exc (T : Ts K mg) : PySem.W.excIn K (He.ga K "NoMoment") He.veBase "ValueError.__new__" = true ∧ PySem.W.keepIn K (.ref (He.ga K "NoMoment")) = true ∧ PySem.W.subIn K (.ref (He.ga K "NoMoment")) (.type "BaseException") = some true ∧ PySem.W.typeIn K (.ref (He.ga K "NoMoment")) = some (.type "type") := He.exc_ok (T.s.fact 139)
theorem Ts.exm (T : Ts K mg) : PySem.W.exmOne K (.ref (He.ga K "NoMoment")) (.ref (He.ga K "NoMoment")) = some true := He.exm_ok (T.s.fact 140)
theorem Ts.f_needs_of (T : Ts K mg) : ∃ fd, FunD K "needs_of" "needs_of" (defArgs s_needs_of) (defBody s_needs_of) (defScope s_needs_of) [] [] (He.ga K "needs_of") fd := T.s.def_ 0 (d := d_needs_of)
theorem Ts.f_hung (T : Ts K mg) : ∃ fd, FunD K "hung" "hung" (defArgs s_hung) (defBody s_hung) (defScope s_hung) [] [] (He.ga K "hung") fd := T.s.def_ 1 (d := d_hung)
theorem Ts.f_needed (T : Ts K mg) : ∃ fd, FunD K "needed" "needed" (defArgs s_needed) (defBody s_needed) (defScope s_needed) [] [] (He.ga K "needed") fd := T.s.def_ 2 (d := d_needed)
theorem Ts.f_divisor (T : Ts K mg) : ∃ fd, FunD K "divisor" "divisor" (defArgs s_divisor) (defBody s_divisor) (defScope s_divisor) [] [] (He.ga K "divisor") fd := T.s.def_ 3 (d := d_divisor)
theorem Ts.f_is_number (T : Ts K mg) : ∃ fd, FunD K "is_number" "is_number" (defArgs s_is_number) (defBody s_is_number) (defScope s_is_number) [] [] (He.ga K "is_number") fd := T.s.def_ 4 (d := d_is_number)
theorem Ts.f_fraction (T : Ts K mg) : ∃ fd, FunD K "fraction" "fraction" (defArgs s_fraction) (defBody s_fraction) (defScope s_fraction) [.int 1] [] (He.ga K "fraction") fd := T.s.def_ 5 (d := d_fraction)
theorem Ts.f_is_fraction (T : Ts K mg) : ∃ fd, FunD K "is_fraction" "is_fraction" (defArgs s_is_fraction) (defBody s_is_fraction) (defScope s_is_fraction) [] [] (He.ga K "is_fraction") fd := T.s.def_ 6 (d := d_is_fraction)
theorem Ts.f_is_moment (T : Ts K mg) : ∃ fd, FunD K "is_moment" "is_moment" (defArgs s_is_moment) (defBody s_is_moment) (defScope s_is_moment) [] [] (He.ga K "is_moment") fd := T.s.def_ 7 (d := d_is_moment)
theorem Ts.f_less (T : Ts K mg) : ∃ fd, FunD K "less" "less" (defArgs s_less) (defBody s_less) (defScope s_less) [] [] (He.ga K "less") fd := T.s.def_ 8 (d := d_less)
theorem Ts.f_is_edit (T : Ts K mg) : ∃ fd, FunD K "is_edit" "is_edit" (defArgs s_is_edit) (defBody s_is_edit) (defScope s_is_edit) [] [] (He.ga K "is_edit") fd := T.s.def_ 9 (d := d_is_edit)
theorem Ts.f_is_edits (T : Ts K mg) : ∃ fd, FunD K "is_edits" "is_edits" (defArgs s_is_edits) (defBody s_is_edits) (defScope s_is_edits) [] [] (He.ga K "is_edits") fd := T.s.def_ 10 (d := d_is_edits)
theorem Ts.f_sure_moment (T : Ts K mg) : ∃ fd, FunD K "sure_moment" "sure_moment" (defArgs s_sure_moment) (defBody s_sure_moment) (defScope s_sure_moment) [] [] (He.ga K "sure_moment") fd := T.s.def_ 11 (d := d_sure_moment)
theorem Ts.f_is_whole (T : Ts K mg) : ∃ fd, FunD K "is_whole" "is_whole" (defArgs s_is_whole) (defBody s_is_whole) (defScope s_is_whole) [] [] (He.ga K "is_whole") fd := T.s.def_ 12 (d := d_is_whole)
theorem Ts.f_Rule_needs (T : Ts K mg) : ∃ fd, FunD K "needs" "Rule.needs" (defArgs s_Rule_needs) (defBody s_Rule_needs) (defScope s_Rule_needs) [] [] (He.ma K (He.ga K "Plain") "needs") fd := T.s.def_ 13 (d := d_Rule_needs)
theorem Ts.f_Plain_init (T : Ts K mg) : ∃ fd, FunD K "__init__" "Plain.__init__" (defArgs s_Plain_init) (defBody s_Plain_init) (defScope s_Plain_init) [] [] (He.ma K (He.ga K "Plain") "__init__") fd := T.s.def_ 14 (d := d_Plain_init)
theorem Ts.f_Moved_init (T : Ts K mg) : ∃ fd, FunD K "__init__" "Moved.__init__" (defArgs s_Moved_init) (defBody s_Moved_init) (defScope s_Moved_init) [] [] (He.ma K (He.ga K "Moved") "__init__") fd := T.s.def_ 15 (d := d_Moved_init)
theorem Ts.f_Moved_needs (T : Ts K mg) : ∃ fd, FunD K "needs" "Moved.needs" (defArgs s_Moved_needs) (defBody s_Moved_needs) (defScope s_Moved_needs) [] [] (He.ma K (He.ga K "Moved") "needs") fd := T.s.def_ 16 (d := d_Moved_needs)
theorem Ts.f_Mixed_init (T : Ts K mg) : ∃ fd, FunD K "__init__" "Mixed.__init__" (defArgs s_Mixed_init) (defBody s_Mixed_init) (defScope s_Mixed_init) [] [] (He.ma K (He.ga K "Mixed") "__init__") fd := T.s.def_ 17 (d := d_Mixed_init)
theorem Ts.f_Mixed_needs (T : Ts K mg) : ∃ fd, FunD K "needs" "Mixed.needs" (defArgs s_Mixed_needs) (defBody s_Mixed_needs) (defScope s_Mixed_needs) [] [] (He.ma K (He.ga K "Mixed") "needs") fd := T.s.def_ 18 (d := d_Mixed_needs)
theorem Ts.f_is_need (T : Ts K mg) : ∃ fd, FunD K "is_need" "is_need" (defArgs s_is_need) (defBody s_is_need) (defScope s_is_need) [] [] (He.ga K "is_need") fd := T.s.def_ 19 (d := d_is_need)
theorem Ts.f_rule_of (T : Ts K mg) : ∃ fd, FunD K "rule_of" "rule_of" (defArgs s_rule_of) (defBody s_rule_of) (defScope s_rule_of) [] [] (He.ga K "rule_of") fd := T.s.def_ 20 (d := d_rule_of)
theorem Ts.f_Leaf_init (T : Ts K mg) : ∃ fd, FunD K "__init__" "Leaf.__init__" (defArgs s_Leaf_init) (defBody s_Leaf_init) (defScope s_Leaf_init) [] [] (He.ma K (He.ga K "Leaf") "__init__") fd := T.s.def_ 21 (d := d_Leaf_init)
theorem Ts.f_Full_init (T : Ts K mg) : ∃ fd, FunD K "__init__" "Full.__init__" (defArgs s_Full_init) (defBody s_Full_init) (defScope s_Full_init) [] [] (He.ma K (He.ga K "Full") "__init__") fd := T.s.def_ 22 (d := d_Full_init)
theorem Ts.f_Full_told (T : Ts K mg) : ∃ fd, FunD K "told" "Full.told" (defArgs s_Full_told) (defBody s_Full_told) (defScope s_Full_told) [] [] (He.ma K (He.ga K "Full") "told") fd := T.s.def_ 23 (d := d_Full_told)
theorem Ts.f_Full_cells (T : Ts K mg) : ∃ fd, FunD K "cells" "Full.cells" (defArgs s_Full_cells) (defBody s_Full_cells) (defScope s_Full_cells) [] [] (He.ma K (He.ga K "Full") "cells") fd := T.s.def_ 24 (d := d_Full_cells)
theorem Ts.f_Full_rule (T : Ts K mg) : ∃ fd, FunD K "rule" "Full.rule" (defArgs s_Full_rule) (defBody s_Full_rule) (defScope s_Full_rule) [] [] (He.ma K (He.ga K "Full") "rule") fd := T.s.def_ 25 (d := d_Full_rule)
theorem Ts.f_Still_init (T : Ts K mg) : ∃ fd, FunD K "__init__" "Still.__init__" (defArgs s_Still_init) (defBody s_Still_init) (defScope s_Still_init) [] [] (He.ma K (He.ga K "Still") "__init__") fd := T.s.def_ 26 (d := d_Still_init)
theorem Ts.f_Still_told (T : Ts K mg) : ∃ fd, FunD K "told" "Still.told" (defArgs s_Still_told) (defBody s_Still_told) (defScope s_Still_told) [] [] (He.ma K (He.ga K "Still") "told") fd := T.s.def_ 27 (d := d_Still_told)
theorem Ts.f_Still_rule (T : Ts K mg) : ∃ fd, FunD K "rule" "Still.rule" (defArgs s_Still_rule) (defBody s_Still_rule) (defScope s_Still_rule) [] [] (He.ma K (He.ga K "Still") "rule") fd := T.s.def_ 28 (d := d_Still_rule)
theorem Ts.f_Woven_init (T : Ts K mg) : ∃ fd, FunD K "__init__" "Woven.__init__" (defArgs s_Woven_init) (defBody s_Woven_init) (defScope s_Woven_init) [] [] (He.ma K (He.ga K "Woven") "__init__") fd := T.s.def_ 29 (d := d_Woven_init)
theorem Ts.f_Woven_told (T : Ts K mg) : ∃ fd, FunD K "told" "Woven.told" (defArgs s_Woven_told) (defBody s_Woven_told) (defScope s_Woven_told) [] [] (He.ma K (He.ga K "Woven") "told") fd := T.s.def_ 30 (d := d_Woven_told)
theorem Ts.f_Woven_cells (T : Ts K mg) : ∃ fd, FunD K "cells" "Woven.cells" (defArgs s_Woven_cells) (defBody s_Woven_cells) (defScope s_Woven_cells) [] [] (He.ma K (He.ga K "Woven") "cells") fd := T.s.def_ 31 (d := d_Woven_cells)
theorem Ts.f_Woven_rule (T : Ts K mg) : ∃ fd, FunD K "rule" "Woven.rule" (defArgs s_Woven_rule) (defBody s_Woven_rule) (defScope s_Woven_rule) [] [] (He.ma K (He.ga K "Woven") "rule") fd := T.s.def_ 32 (d := d_Woven_rule)
theorem Ts.f_is_value (T : Ts K mg) : ∃ fd, FunD K "is_value" "is_value" (defArgs s_is_value) (defBody s_is_value) (defScope s_is_value) [] [] (He.ga K "is_value") fd := T.s.def_ 33 (d := d_is_value)
theorem Ts.f_is_rule (T : Ts K mg) : ∃ fd, FunD K "is_rule" "is_rule" (defArgs s_is_rule) (defBody s_is_rule) (defScope s_is_rule) [] [] (He.ga K "is_rule") fd := T.s.def_ 34 (d := d_is_rule)
theorem Ts.f_is_row_of (T : Ts K mg) : ∃ fd, FunD K "is_row_of" "is_row_of" (defArgs s_is_row_of) (defBody s_is_row_of) (defScope s_is_row_of) [] [] (He.ga K "is_row_of") fd := T.s.def_ 35 (d := d_is_row_of)
theorem Ts.f_leaf_of (T : Ts K mg) : ∃ fd, FunD K "leaf_of" "leaf_of" (defArgs s_leaf_of) (defBody s_leaf_of) (defScope s_leaf_of) [] [] (He.ga K "leaf_of") fd := T.s.def_ 36 (d := d_leaf_of)
theorem Ts.f_fits (T : Ts K mg) : ∃ fd, FunD K "fits" "fits" (defArgs s_fits) (defBody s_fits) (defScope s_fits) [] [] (He.ga K "fits") fd := T.s.def_ 37 (d := d_fits)
theorem Ts.f_begins_due (T : Ts K mg) : ∃ fd, FunD K "begins_due" "begins_due" (defArgs s_begins_due) (defBody s_begins_due) (defScope s_begins_due) [] [] (He.ga K "begins_due") fd := T.s.def_ 38 (d := d_begins_due)
theorem Ts.f_dues_of (T : Ts K mg) : ∃ fd, FunD K "dues_of" "dues_of" (defArgs s_dues_of) (defBody s_dues_of) (defScope s_dues_of) [] [] (He.ga K "dues_of") fd := T.s.def_ 39 (d := d_dues_of)
theorem Ts.f_scale_of (T : Ts K mg) : ∃ fd, FunD K "scale_of" "scale_of" (defArgs s_scale_of) (defBody s_scale_of) (defScope s_scale_of) [] [] (He.ga K "scale_of") fd := T.s.def_ 40 (d := d_scale_of)
theorem Ts.f_ordered (T : Ts K mg) : ∃ fd, FunD K "ordered" "ordered" (defArgs s_ordered) (defBody s_ordered) (defScope s_ordered) [] [] (He.ga K "ordered") fd := T.s.def_ 41 (d := d_ordered)
theorem Ts.f_read_by (T : Ts K mg) : ∃ fd, FunD K "read_by" "read_by" (defArgs s_read_by) (defBody s_read_by) (defScope s_read_by) [] [] (He.ga K "read_by") fd := T.s.def_ 42 (d := d_read_by)
theorem Ts.f_Film_init (T : Ts K mg) : ∃ fd, FunD K "__init__" "Film.__init__" (defArgs s_Film_init) (defBody s_Film_init) (defScope s_Film_init) [] [] (He.ma K (He.ga K "Film") "__init__") fd := T.s.def_ 43 (d := d_Film_init)
theorem Ts.f_Film_len (T : Ts K mg) : ∃ fd, FunD K "__len__" "Film.__len__" (defArgs s_Film_len) (defBody s_Film_len) (defScope s_Film_len) [] [] (He.ma K (He.ga K "Film") "__len__") fd := T.s.def_ 44 (d := d_Film_len)
theorem Ts.f_Film_told (T : Ts K mg) : ∃ fd, FunD K "told" "Film.told" (defArgs s_Film_told) (defBody s_Film_told) (defScope s_Film_told) [] [] (He.ma K (He.ga K "Film") "told") fd := T.s.def_ 45 (d := d_Film_told)
theorem Ts.f_Film_lane_at (T : Ts K mg) : ∃ fd, FunD K "lane_at" "Film.lane_at" (defArgs s_Film_lane_at) (defBody s_Film_lane_at) (defScope s_Film_lane_at) [] [] (He.ma K (He.ga K "Film") "lane_at") fd := T.s.def_ 46 (d := d_Film_lane_at)
theorem Ts.f_Film_leaf_there (T : Ts K mg) : ∃ fd, FunD K "leaf_there" "Film.leaf_there" (defArgs s_Film_leaf_there) (defBody s_Film_leaf_there) (defScope s_Film_leaf_there) [] [] (He.ma K (He.ga K "Film") "leaf_there") fd := T.s.def_ 47 (d := d_Film_leaf_there)
theorem Ts.f_Film_units (T : Ts K mg) : ∃ fd, FunD K "units" "Film.units" (defArgs s_Film_units) (defBody s_Film_units) (defScope s_Film_units) [] [] (He.ma K (He.ga K "Film") "units") fd := T.s.def_ 48 (d := d_Film_units)
theorem Ts.f_Film_many (T : Ts K mg) : ∃ fd, FunD K "many" "Film.many" (defArgs s_Film_many) (defBody s_Film_many) (defScope s_Film_many) [] [] (He.ma K (He.ga K "Film") "many") fd := T.s.def_ 49 (d := d_Film_many)
theorem Ts.f_Film_told_leaf (T : Ts K mg) : ∃ fd, FunD K "told_leaf" "Film.told_leaf" (defArgs s_Film_told_leaf) (defBody s_Film_told_leaf) (defScope s_Film_told_leaf) [] [] (He.ma K (He.ga K "Film") "told_leaf") fd := T.s.def_ 50 (d := d_Film_told_leaf)
theorem Ts.f_are_apart (T : Ts K mg) : ∃ fd, FunD K "are_apart" "are_apart" (defArgs s_are_apart) (defBody s_are_apart) (defScope s_are_apart) [] [] (He.ga K "are_apart") fd := T.s.def_ 51 (d := d_are_apart)
theorem Ts.f_good_leaf (T : Ts K mg) : ∃ fd, FunD K "good_leaf" "good_leaf" (defArgs s_good_leaf) (defBody s_good_leaf) (defScope s_good_leaf) [] [] (He.ga K "good_leaf") fd := T.s.def_ 52 (d := d_good_leaf)
theorem Ts.f_is_small (T : Ts K mg) : ∃ fd, FunD K "is_small" "is_small" (defArgs s_is_small) (defBody s_is_small) (defScope s_is_small) [] [] (He.ga K "is_small") fd := T.s.def_ 53 (d := d_is_small)
theorem Ts.f_are_lane_edits (T : Ts K mg) : ∃ fd, FunD K "are_lane_edits" "are_lane_edits" (defArgs s_are_lane_edits) (defBody s_are_lane_edits) (defScope s_are_lane_edits) [] [] (He.ga K "are_lane_edits") fd := T.s.def_ 54 (d := d_are_lane_edits)
theorem Ts.f_lane_of (T : Ts K mg) : ∃ fd, FunD K "lane_of" "lane_of" (defArgs s_lane_of) (defBody s_lane_of) (defScope s_lane_of) [] [] (He.ga K "lane_of") fd := T.s.def_ 55 (d := d_lane_of)
theorem Ts.f_film_of (T : Ts K mg) : ∃ fd, FunD K "film_of" "film_of" (defArgs s_film_of) (defBody s_film_of) (defScope s_film_of) [] [] (He.ga K "film_of") fd := T.s.def_ 56 (d := d_film_of)
theorem Ts.f_law_cell_at (T : Ts K mg) : ∃ fd, FunD K "_law_cell_at" "_law_cell_at" (defArgs s_law_cell_at) (defBody s_law_cell_at) (defScope s_law_cell_at) [] [] (He.ga K "_law_cell_at") fd := T.s.def_ 57 (d := d_law_cell_at)
theorem Ts.f_law_digit (T : Ts K mg) : ∃ fd, FunD K "_law_digit" "_law_digit" (defArgs s_law_digit) (defBody s_law_digit) (defScope s_law_digit) [] [] (He.ga K "_law_digit") fd := T.s.def_ 58 (d := d_law_digit)
theorem Ts.f_law_shared (T : Ts K mg) : ∃ fd, FunD K "_law_shared" "_law_shared" (defArgs s_law_shared) (defBody s_law_shared) (defScope s_law_shared) [] [] (He.ga K "_law_shared") fd := T.s.def_ 59 (d := d_law_shared)
theorem Ts.f_law_lowest (T : Ts K mg) : ∃ fd, FunD K "_law_lowest" "_law_lowest" (defArgs s_law_lowest) (defBody s_law_lowest) (defScope s_law_lowest) [] [] (He.ga K "_law_lowest") fd := T.s.def_ 60 (d := d_law_lowest)
theorem Ts.f_law_rule (T : Ts K mg) : ∃ fd, FunD K "_law_rule" "_law_rule" (defArgs s_law_rule) (defBody s_law_rule) (defScope s_law_rule) [] [] (He.ga K "_law_rule") fd := T.s.def_ 61 (d := d_law_rule)
theorem Ts.f_law_leaf (T : Ts K mg) : ∃ fd, FunD K "_law_leaf" "_law_leaf" (defArgs s_law_leaf) (defBody s_law_leaf) (defScope s_law_leaf) [] [] (He.ga K "_law_leaf") fd := T.s.def_ 62 (d := d_law_leaf)
theorem Ts.f_law_leaves (T : Ts K mg) : ∃ fd, FunD K "_law_leaves" "_law_leaves" (defArgs s_law_leaves) (defBody s_law_leaves) (defScope s_law_leaves) [] [] (He.ga K "_law_leaves") fd := T.s.def_ 63 (d := d_law_leaves)
theorem Ts.f_law_lane_edits (T : Ts K mg) : ∃ fd, FunD K "_law_lane_edits" "_law_lane_edits" (defArgs s_law_lane_edits) (defBody s_law_lane_edits) (defScope s_law_lane_edits) [] [] (He.ga K "_law_lane_edits") fd := T.s.def_ 64 (d := d_law_lane_edits)
theorem Ts.f_law_lane (T : Ts K mg) : ∃ fd, FunD K "_law_lane" "_law_lane" (defArgs s_law_lane) (defBody s_law_lane) (defScope s_law_lane) [] [] (He.ga K "_law_lane") fd := T.s.def_ 65 (d := d_law_lane)
theorem Ts.f_law_film (T : Ts K mg) : ∃ fd, FunD K "_law_film" "_law_film" (defArgs s_law_film) (defBody s_law_film) (defScope s_law_film) [] [] (He.ga K "_law_film") fd := T.s.def_ 66 (d := d_law_film)
theorem Ts.f_law_rules (T : Ts K mg) : ∃ fd, FunD K "_law_rules" "_law_rules" (defArgs s_law_rules) (defBody s_law_rules) (defScope s_law_rules) [] [] (He.ga K "_law_rules") fd := T.s.def_ 67 (d := d_law_rules)
theorem Ts.f_law_needs (T : Ts K mg) : ∃ fd, FunD K "_law_needs" "_law_needs" (defArgs s_law_needs) (defBody s_law_needs) (defScope s_law_needs) [] [] (He.ga K "_law_needs") fd := T.s.def_ 68 (d := d_law_needs)
theorem Ts.f_law_begin_due (T : Ts K mg) : ∃ fd, FunD K "_law_begin_due" "_law_begin_due" (defArgs s_law_begin_due) (defBody s_law_begin_due) (defScope s_law_begin_due) [] [] (He.ga K "_law_begin_due") fd := T.s.def_ 69 (d := d_law_begin_due)
theorem Ts.f_law_runs (T : Ts K mg) : ∃ fd, FunD K "_law_runs" "_law_runs" (defArgs s_law_runs) (defBody s_law_runs) (defScope s_law_runs) [] [] (He.ga K "_law_runs") fd := T.s.def_ 70 (d := d_law_runs)
theorem Ts.f_law_due (T : Ts K mg) : ∃ fd, FunD K "_law_due" "_law_due" (defArgs s_law_due) (defBody s_law_due) (defScope s_law_due) [] [] (He.ga K "_law_due") fd := T.s.def_ 71 (d := d_law_due)
theorem Ts.f_law_ahead (T : Ts K mg) : ∃ fd, FunD K "_law_ahead" "_law_ahead" (defArgs s_law_ahead) (defBody s_law_ahead) (defScope s_law_ahead) [] [] (He.ga K "_law_ahead") fd := T.s.def_ 72 (d := d_law_ahead)
theorem Ts.f_law_ordered (T : Ts K mg) : ∃ fd, FunD K "_law_ordered" "_law_ordered" (defArgs s_law_ordered) (defBody s_law_ordered) (defScope s_law_ordered) [] [] (He.ga K "_law_ordered") fd := T.s.def_ 73 (d := d_law_ordered)
theorem Ts.f_law_less (T : Ts K mg) : ∃ fd, FunD K "_law_less" "_law_less" (defArgs s_law_less) (defBody s_law_less) (defScope s_law_less) [] [] (He.ga K "_law_less") fd := T.s.def_ 74 (d := d_law_less)
theorem Ts.f_law_some (T : Ts K mg) : ∃ fd, FunD K "_law_some" "_law_some" (defArgs s_law_some) (defBody s_law_some) (defScope s_law_some) [] [] (He.ga K "_law_some") fd := T.s.def_ 75 (d := d_law_some)
theorem Ts.f_law_mixed (T : Ts K mg) : ∃ fd, FunD K "_law_mixed" "_law_mixed" (defArgs s_law_mixed) (defBody s_law_mixed) (defScope s_law_mixed) [] [] (He.ga K "_law_mixed") fd := T.s.def_ 76 (d := d_law_mixed)
theorem Ts.f_law_moments (T : Ts K mg) : ∃ fd, FunD K "_law_moments" "_law_moments" (defArgs s_law_moments) (defBody s_law_moments) (defScope s_law_moments) [] [] (He.ga K "_law_moments") fd := T.s.def_ 77 (d := d_law_moments)
theorem Ts.f_law_read_by (T : Ts K mg) : ∃ fd, FunD K "_law_read_by" "_law_read_by" (defArgs s_law_read_by) (defBody s_law_read_by) (defScope s_law_read_by) [] [] (He.ga K "_law_read_by") fd := T.s.def_ 78 (d := d_law_read_by)
theorem Ts.f_law_refused (T : Ts K mg) : ∃ fd, FunD K "_law_refused" "_law_refused" (defArgs s_law_refused) (defBody s_law_refused) (defScope s_law_refused) [] [] (He.ga K "_law_refused") fd := T.s.def_ 79 (d := d_law_refused)
theorem Ts.f_law_copy (T : Ts K mg) : ∃ fd, FunD K "_law_copy" "_law_copy" (defArgs s_law_copy) (defBody s_law_copy) (defScope s_law_copy) [] [] (He.ga K "_law_copy") fd := T.s.def_ 80 (d := d_law_copy)
theorem Ts.f_law (T : Ts K mg) : ∃ fd, FunD K "law" "law" (defArgs s_law) (defBody s_law) (defScope s_law) [] [] (He.ga K "law") fd := T.s.def_ 81 (d := d_law)
end
end Sc

namespace Sc
open PySem PySem.Spec PyProof.Rows L2

/-! ### what the values are, as data -/
inductive RuleD where
  | plain (w : Int)
  | moved (b c : Nat) (a : Int)
  | mixed (b c ob oc : Nat)
inductive BodyD where
  | full (vs : List Int)
  | still (b : Nat)
  | woven (rs : List RuleD)
structure LeafD where
  bg : Int
  sp : Int
  body : BodyD
structure EditD where
  span : Int × Int
  start : Option (Int × Int)
  rate : Int × Int
structure LaneD where
  units : Int
  leaves : List LeafD
  edits : List EditD
structure FilmD where
  sg : Int
  wide : Nat
  lanes : List LaneD

def RuleD.dat : RuleD → PyData
  | .plain w => .tuple [.str "plain", .int w]
  | .moved b c a => .tuple [.str "moved", .int (b : Int), .int (c : Int), .int a]
  | .mixed b c ob oc => .tuple [.str "mixed", .int (b : Int), .int (c : Int), .int (ob : Int), .int (oc : Int)]
def BodyD.word : BodyD → Str
  | .full _ => "full"
  | .still _ => "still"
  | .woven _ => "woven"
def BodyD.dat : BodyD → PyData
  | .full vs => .tuple (vs.map PyData.int)
  | .still b => .int (b : Int)
  | .woven rs => .tuple (rs.map RuleD.dat)
def LeafD.dat (l : LeafD) : PyData := .tuple [.str l.body.word, .int l.bg, .int l.sp, l.body.dat]
def frD (p : Int × Int) : PyData := .tuple [.int p.1, .int p.2]
def startD : Option (Int × Int) → PyData
  | none => .none
  | some p => frD p
def EditD.dat (e : EditD) : PyData := .tuple [frD e.span, startD e.start, frD e.rate]
def LaneD.dat (l : LaneD) : PyData := .tuple [.int l.units, .list (l.leaves.map LeafD.dat), .list (l.edits.map EditD.dat)]
def FilmD.dat (f : FilmD) : PyData := .tuple [.int f.sg, .int (f.wide : Int), .list (f.lanes.map LaneD.dat)]

/-! ### the part of the heap that stays -/
theorem same_new {H : Hp} {p : Addr} {o : HO} (h : H p = none) : Same H (upd H p o) := fun b x e => by
  rw [upd_ne (ne_of_none e h)]
  exact e
/-- F: what stays as it is for ever; from F, H to F', H', the addresses of M written -/
structure Gw (M : List Addr) (F H F' H' : Hp) : Prop where
  fs : Same F F'
  sub : Same F' H'
  keep : ∀ a o, H a = some o → a ∉ M → H' a = some o
  new : ∀ a o, F' a = some o → F a = none → H a = none
  dom : ∀ a, H' a = none → H a = none
section
variable {M M2 : List Addr} {F H F0 H0 F' H' F1 H1 : Hp} {p l a : Addr} {o o' : HO}
theorem Gw.refl (s : Same F H) : Gw M F H F H := ⟨Same.refl _, s, fun _ _ h _ => h, fun a o h n => (by rw [n] at h; cases h), fun _ h => h⟩
theorem Gw.out (g : Gw M F H F' H') (h : H a = some o) (f : F a = none) : F' a = none := by
  cases e : F' a with
  | none => rfl
  | some u =>
    have := g.new a u e f
    rw [h] at this
    cases this
/-- what was not there and is not of F' -/
theorem Gw.fresh (g : Gw M F H F' H') (h : H' a = none) : H a = none := g.dom a h
theorem Gw.ffresh (g : Gw M F H F' H') (h : H' a = none) : F' a = none := g.sub.free h
theorem Gw.same (g : Gw [] F H F' H') : Same H H' := fun a o h => g.keep a o h (by simp)
theorem Gw.trans (g : Gw M F0 H0 F H) (g2 : Gw M2 F H F' H') (hM : ∀ a, a ∈ M2 → a ∈ M ∨ H0 a = none) : Gw M F0 H0 F' H' where
  fs := g.fs.trans g2.fs
  sub := g2.sub
  keep := fun a o h n => g2.keep a o (g.keep a o h n) fun m => by
    rcases hM a m with q | q
    · exact n q
    · rw [q] at h
      cases h
  new := fun a o h n => by
    cases e : F a with
    | some u => exact g.new a u e n
    | none => exact g.dom a (g2.new a o h e)
  dom := fun a h => g.dom a (g2.dom a h)
theorem Gw.call (g : Gw M F0 H0 F H) (g2 : Gw [] F H F' H') : Gw M F0 H0 F' H' := g.trans g2 fun _ h => by simp at h
theorem Gw.callM (g : Gw M F0 H0 F H) (g2 : Gw M F H F' H') : Gw M F0 H0 F' H' := g.trans g2 fun _ h => .inl h
theorem Gw.mono (g : Gw [] F H F' H') : Gw M F H F' H' := ⟨g.fs, g.sub, fun a o h _ => g.same a o h, g.new, g.dom⟩
theorem same_dom (s : Same H H') : ∀ a, H' a = none → H a = none := fun _ h => s.free h
theorem Gw.pure (g : Gw M F0 H0 F H) (s : Same H H') : Gw M F0 H0 F H' := g.call ⟨Same.refl _, g.sub.trans s, fun a o h _ => s a o h, fun a o h n => (by rw [n] at h; cases h), same_dom s⟩
theorem Gw.alloc (g : Gw M F0 H0 F H) (hp : H p = none) : Gw M F0 H0 F (upd H p o) := g.pure (same_new hp)
theorem Gw.frz (g : Gw M F0 H0 F H) (hp : H p = none) : Gw M F0 H0 (upd F p o) (upd H p o) where
  fs := g.fs.trans (same_new (g.ffresh hp))
  sub := fun a u h => by
    by_cases e : a = p
    · subst e
      rw [upd_same] at h ⊢
      exact h
    · rw [upd_ne e] at h ⊢
      exact g.sub a u h
  keep := fun a u h n => same_new hp a u (g.keep a u h n)
  new := fun a u h n => by
    by_cases e : a = p
    · subst e
      exact g.dom a hp
    · rw [upd_ne e] at h
      exact g.new a u h n
  dom := fun a h => g.dom a ((same_new hp).free h)
/-- an object of one's own, finished, stays from now on -/
theorem Gw.hold (g : Gw M F0 H0 F H) (h : H p = some o) (h0 : H0 p = none) (hf : F p = none) : Gw M F0 H0 (upd F p o) H where
  fs := g.fs.trans (same_new hf)
  sub := fun a u e => by
    by_cases q : a = p
    · subst q
      rw [upd_same] at e
      rw [h, ← e]
    · rw [upd_ne q] at e
      exact g.sub a u e
  keep := g.keep
  new := fun a u e n => by
    by_cases q : a = p
    · rw [q]
      exact h0
    · rw [upd_ne q] at e
      exact g.new a u e n
  dom := g.dom
theorem Gw.put (g : Gw M F0 H0 F H) (h0 : H0 l = none ∨ l ∈ M) (hf : F l = none) (hl : H l = some o) : Gw M F0 H0 F (upd H l o') where
  fs := g.fs
  sub := fun a u e => by
    rw [upd_ne (ne_of_none e hf)]
    exact g.sub a u e
  keep := fun a u e n => by
    by_cases q : a = l
    · subst q
      rcases h0 with z | z
      · rw [e] at z
        cases z
      · exact absurd z n
    · rw [upd_ne q]
      exact g.keep a u e n
  new := g.new
  dom := fun a h => by
    by_cases q : a = l
    · subst q
      rw [upd_same] at h
      cases h
    · rw [upd_ne q] at h
      exact g.dom a h
end

end Sc
namespace L2
open PySem PySem.Spec PyProof.Rows Sc
/-! ### data in the heap -/
section
variable {K : PySem.W.Frag} {F H F' H' : Hp}
theorem Same.tup {a : Addr} {xs : List V} (e : Same H H') (h : SqT K H a xs) : SqT K H' a xs := by
  rcases h with (h | ⟨o, h⟩) | h
  · exact .inl (.inl (e _ _ h))
  · exact .inl (.inr ⟨o, e _ _ h⟩)
  · exact .inr h
mutual
theorem Dp.mono (s : Same H H') : ∀ (d : PyData) (v : V), Dp K H v d → Dp K H' v d
  | .none, _, h => by cases h; exact .non
  | .bool b, _, h => by cases h; exact .bl b
  | .int i, _, h => by cases h; exact .int i
  | .str x, _, h => by cases h; exact .str x
  | .list ds, _, h => by
    cases h with
    | lst h1 h2 => exact .lst (s.seq h1) (DpAll.mono s ds _ h2)
  | .tuple ds, _, h => by
    cases h with
    | tup h1 h2 => exact .tup (Same.tup s h1) (DpAll.mono s ds _ h2)
  | .dict _, _, h => by cases h
theorem DpAll.mono (s : Same H H') : ∀ (ds : List PyData) (vs : List V), DpAll K H vs ds → DpAll K H' vs ds
  | [], _, h => by cases h; exact .nil
  | d :: ds, _, h => by
    cases h with
    | cons h1 h2 => exact .cons (Dp.mono s d _ h1) (DpAll.mono s ds _ h2)
end
theorem Dp.up {d : PyData} {v : V} (h : Dp K H v d) (s : Same H H') : Dp K H' v d := Dp.mono s d v h
theorem DpAll.up {ds : List PyData} {vs : List V} (h : DpAll K H vs ds) (s : Same H H') : DpAll K H' vs ds := DpAll.mono s ds vs h
theorem Dp.tupE {v : V} {ds : List PyData} (h : Dp K H v (.tuple ds)) : ∃ a xs, v = .ref a ∧ SqT K H a xs ∧ DpAll K H xs ds := by
  cases h with
  | tup h1 h2 => exact ⟨_, _, rfl, h1, h2⟩
theorem Dp.lstE {v : V} {ds : List PyData} (h : Dp K H v (.list ds)) : ∃ a xs, v = .ref a ∧ SqL K H a xs ∧ DpAll K H xs ds := by
  cases h with
  | lst h1 h2 => exact ⟨_, _, rfl, h1, h2⟩
theorem Dp.intE {v : V} {i : Int} (h : Dp K H v (.int i)) : v = .int i := by cases h; rfl
theorem Dp.strE {v : V} {i : Str} (h : Dp K H v (.str i)) : v = .str i := by cases h; rfl
theorem Dp.nonE {v : V} (h : Dp K H v .none) : v = .non := by cases h; rfl
theorem Dp.blE {v : V} {b : Bool} (h : Dp K H v (.bool b)) : v = .bl b := by cases h; rfl
theorem DpAll.nilE {vs : List V} (h : DpAll K H vs []) : vs = [] := by cases h; rfl
theorem DpAll.consE {vs : List V} {d : PyData} {ds : List PyData} (h : DpAll K H vs (d :: ds)) : ∃ v r, vs = v :: r ∧ Dp K H v d ∧ DpAll K H r ds := by
  cases h with
  | cons h1 h2 => exact ⟨_, _, rfl, h1, h2⟩
theorem DpAll.len : ∀ {vs : List V} {ds : List PyData}, DpAll K H vs ds → vs.length = ds.length
  | _, [], h => by cases h; rfl
  | _, d :: ds, h => by
    cases h with
    | cons h1 h2 => exact congrArg Nat.succ (DpAll.len h2)
theorem DpAll.get : ∀ {vs : List V} {ds : List PyData} {i : Nat} {d : PyData}, DpAll K H vs ds → ds[i]? = some d → ∃ v, vs[i]? = some v ∧ Dp K H v d
  | _, [], i, d, h, e => by simp at e
  | _, c :: ds, 0, d, h, e => by
    cases h with
    | cons h1 h2 =>
      have e2 : c = d := by simpa using e
      subst e2
      exact ⟨_, rfl, h1⟩
  | _, c :: ds, i + 1, d, h, e => by
    cases h with
    | cons h1 h2 =>
      obtain ⟨v, q1, q2⟩ := DpAll.get (i := i) (d := d) h2 (by simpa using e)
      exact ⟨v, by simpa using q1, q2⟩
theorem DpAll.at : ∀ {vs : List V} {ds : List PyData} {i : Nat} {v : V}, DpAll K H vs ds → vs[i]? = some v → ∃ d, ds[i]? = some d ∧ Dp K H v d := fun {vs ds i v} h e => by
  have hl : i < vs.length := (List.getElem?_eq_some_iff.mp e).1
  rw [h.len] at hl
  obtain ⟨w, q1, q2⟩ := h.get (List.getElem?_eq_getElem hl)
  rw [e] at q1
  have e2 : v = w := Option.some.inj q1
  rw [e2]
  exact ⟨_, List.getElem?_eq_getElem hl, q2⟩
theorem DpAll.app : ∀ {vs ws : List V} {ds es : List PyData}, DpAll K H vs ds → DpAll K H ws es → DpAll K H (vs ++ ws) (ds ++ es)
  | _, _, [], es, h, g => by cases h; exact g
  | _, _, d :: ds, es, h, g => by
    cases h with
    | cons h1 h2 => exact .cons h1 (DpAll.app h2 g)
theorem DpAll.one {v : V} {d : PyData} (h : Dp K H v d) : DpAll K H [v] [d] := .cons h .nil
theorem DpAll.drop : ∀ {vs : List V} {ds : List PyData} (n : Nat), DpAll K H vs ds → DpAll K H (vs.drop n) (ds.drop n)
  | _, _, 0, h => h
  | _, [], n + 1, h => by cases h; exact .nil
  | _, d :: ds, n + 1, h => by
    cases h with
    | cons h1 h2 => exact DpAll.drop n h2
theorem DpAll.take : ∀ {vs : List V} {ds : List PyData} (n : Nat), DpAll K H vs ds → DpAll K H (vs.take n) (ds.take n)
  | _, _, 0, h => .nil
  | _, [], n + 1, h => by cases h; exact .nil
  | _, d :: ds, n + 1, h => by
    cases h with
    | cons h1 h2 => exact .cons h1 (DpAll.take n h2)
theorem DpAll.intsE : ∀ {vs : List V} {ns : List Int}, DpAll K H vs (ns.map PyData.int) → vs = ns.map V.int
  | _, [], h => by cases h; rfl
  | _, n :: ns, h => by
    cases h with
    | cons h1 h2 => rw [Dp.intE h1, DpAll.intsE h2]; rfl
theorem DpAll.ints : ∀ {ns : List Int}, DpAll K H (ns.map V.int) (ns.map PyData.int)
  | [] => .nil
  | n :: ns => .cons (.int n) DpAll.ints
/-- a pair of numbers -/
theorem Dp.frE {v : V} {p : Int × Int} (h : Dp K H v (frD p)) : ∃ a, v = .ref a ∧ SqT K H a [.int p.1, .int p.2] := by
  obtain ⟨a, xs, rfl, h1, h2⟩ := Dp.tupE h
  obtain ⟨_, _, rfl, e1, h2⟩ := h2.consE
  obtain ⟨_, _, rfl, e2, h2⟩ := h2.consE
  cases h2.nilE
  rw [e1.intE, e2.intE] at h1
  exact ⟨a, rfl, h1⟩
theorem Dp.fr {a : Addr} {p : Int × Int} (h : H a = some (.tup [.int p.1, .int p.2])) : Dp K H (.ref a) (frD p) := .tup (SqT.of h) (.cons (.int _) (.cons (.int _) .nil))
end

end L2
namespace Sc
open PySem PySem.Spec PyProof.Rows L2
/-! ### a def of the text, by its body -/
section
variable {P : Program} {w : World} {K : PySem.W.Frag} {mg : Str → Option Value} {base : Heap} {x qual m : Str} {params : Arguments} {body : List Stmt} {scope : Scope} {f C : Addr} {N ps : List Str} {k : Nat} {sp : Sp}
abbrev BodyOk (P : Program) (w : World) (K : PySem.W.Frag) (mg : Str → Option Value) (base : Heap) (qual : Str) (body : List Stmt) (scope : Scope) (f : Addr) (N : List Str) (k : Nat) (sp : Sp) : Prop :=
  ∀ (cdv : Value) (A : Around) (outer : List Env) (s : Shared) (H : Hp) (vs : List V) (Q : VK) (E : XK), Room k (A.deeper (envOfC qual scope s.heap.objs.size f cdv)) → sp vs H Q E →
    ∃ t, PSs (cxOf C8.CX0 P w K mg base N qual scope f cdv A outer s H E).nox body t ∧ t { nx := fun _ H' => Q .non H', rt := Q } (start N vs) H
theorem fnok_of (F : ∃ fd, FunD K x qual params body scope [] [] f fd) (S : FnScope N ps scope) (len : ∀ vs H Q E, sp vs H Q E → vs.length = ps.length)
    (hb : ∀ (kV doc pm : Value) (an : Option Addr) (cdv ct : Value) (us : List Value), us.length = ps.length → bindArgs (PySem.W.fnOf x qual params body scope .none kV doc pm an cdv ct) ⟨us, []⟩ = pure (ps.zip us))
    (h : BodyOk P w K mg base qual body scope f N k sp) : ∃ fd, FnOk P w K mg base C8.CX0 (k + 1) f fd ps sp ∧ PySem.W.keepIn K (.ref f) = true ∧ Binds K fd ps [] ∧ FunD K x qual params body scope [] [] f fd := by
  obtain ⟨fd, F⟩ := F
  refine ⟨fd, F.ok S len fun cdv A outer s H vs Q E hr hsp => ?_, F.kp, F.bindsN hb, F⟩
  obtain ⟨t, h1, h2⟩ := h cdv A outer s H vs Q E hr hsp
  exact ⟨t, h1.nox, h2⟩
theorem cal_of (F : ∃ fd, FunD K x qual params body scope [] [] f fd) (hm : mg x = some (.ref f)) (S : FnScope N ps scope) (len : ∀ vs H Q E, sp vs H Q E → vs.length = ps.length)
    (hb : ∀ (kV doc pm : Value) (an : Option Addr) (cdv ct : Value) (us : List Value), us.length = ps.length → bindArgs (PySem.W.fnOf x qual params body scope .none kV doc pm an cdv ct) ⟨us, []⟩ = pure (ps.zip us))
    (h : BodyOk P w K mg base qual body scope f N k sp) : C8.Cal P w K mg base (k + 1) x sp [] := by
  obtain ⟨fd, F1, kp, b, _⟩ := fnok_of F S len hb h
  exact ⟨f, fd, ps, [], F1, hm, kp, b, .nil⟩
theorem met_of (c : Cls K C) (hm : Meth K C m f) (F : ∃ fd, FunD K x qual params body scope [] [] f fd) (S : FnScope N ps scope) (len : ∀ vs H Q E, sp vs H Q E → vs.length = ps.length)
    (hb : ∀ (kV doc pm : Value) (an : Option Addr) (cdv ct : Value) (us : List Value), us.length = ps.length → bindArgs (PySem.W.fnOf x qual params body scope .none kV doc pm an cdv ct) ⟨us, []⟩ = pure (ps.zip us))
    (h : BodyOk P w K mg base qual body scope f N k sp) : C8.Met P w K mg base (k + 1) C m sp [] := by
  obtain ⟨fd, F1, kp, b, _⟩ := fnok_of F S len hb h
  exact ⟨f, fd, ps, [], c, hm, F1, b, .nil⟩
theorem mak_of (M : Mk K C f) (hm : mg m = some (.ref C)) (F : ∃ fd, FunD K x qual params body scope [] [] f fd) (S : FnScope N ps scope) (len : ∀ vs H Q E, sp vs H Q E → vs.length = ps.length)
    (hb : ∀ (kV doc pm : Value) (an : Option Addr) (cdv ct : Value) (us : List Value), us.length = ps.length → bindArgs (PySem.W.fnOf x qual params body scope .none kV doc pm an cdv ct) ⟨us, []⟩ = pure (ps.zip us))
    (h : BodyOk P w K mg base qual body scope f N k sp) : C8.Mak P w K mg base (k + 1) m C sp [] := by
  obtain ⟨fd, F1, kp, b, _⟩ := fnok_of F S len hb h
  exact ⟨f, fd, ps, [], M, F1, hm, b, .nil⟩
end
end Sc

namespace Sc
open PySem PySem.Spec PyProof.Rows L2
/-! numbers and fractions -/
def low (t b : Int) : Int × Int := (t / (Int.gcd t b : Int), b / (Int.gcd t b : Int))
def isFrac : PyData → Bool
  | .tuple [.int a, .int b] => decide (1 ≤ b) && decide (Int.gcd a b = 1)
  | _ => false
def isMom : PyData → Bool
  | .tuple [.int a, .int b] => decide (1 ≤ b) && decide (Int.gcd a b = 1) && decide (0 ≤ a)
  | _ => false
def FracLike (d : PyData) : Prop := d = .none ∨ (∃ b, d = .bool b) ∨ (∃ i, d = .int i) ∨ (∃ x, d = .str x) ∨ ∃ ns : List Int, d = .tuple (ns.map PyData.int)
def tyN : PyData → String
  | .none => "NoneType"
  | .bool _ => "bool"
  | .int _ => "int"
  | .str _ => "str"
  | .list _ => "list"
  | .tuple _ => "tuple"
  | .dict _ => "dict"
section
variable {K : PySem.W.Frag} {H : Hp}
theorem dp_ty {v : V} {d : PyData} (h : Dp K H v d) : TyX K H v (.type (tyN d)) := by
  cases h with
  | non => exact .base .non
  | bl b => exact .base (.bl b)
  | int i => exact .base (.int i)
  | str x => exact .base (.str x)
  | lst h1 _ =>
    rcases h1 with (h1 | ⟨o, h1⟩) | ⟨o, _, _, h1, h2, _⟩
    · exact .base (.lst h1)
    · exact .base (.frz h1)
    · exact .kList h1 h2
  | tup h1 _ =>
    rcases h1 with (h1 | ⟨o, h1⟩) | ⟨o, _, _, h1, h2, _⟩
    · exact .base (.tup h1)
    · exact .fTuple h1
    · exact .kTuple h1 h2
/-- isinstance(v, n) of data -/
theorem isi_r {v : V} {d : PyData} {n : String} {b : Bool} {Q : VK} (h : Dp K H v d) (hb : kitB (tyN d) n = some b) (q : Q (.bl b) H) : rIsi K [v, .ty n] H Q :=
  ⟨v, _, _, _, b, rfl, .ty n, dp_ty h, kit_ty hb, q⟩
theorem len_t {v : V} {ds : List PyData} {a : Addr} (h : Dp K H (.ref a) (.tuple ds)) : LenV K (.ref a) H ds.length := by
  cases h with
  | tup h1 h2 => exact .inr ⟨_, h1, h2.len.symm⟩
theorem len_l {v : V} {ds : List PyData} {a : Addr} (h : Dp K H (.ref a) (.list ds)) : LenV K (.ref a) H ds.length := by
  cases h with
  | lst h1 h2 => exact .inl ⟨_, h1, h2.len.symm⟩
end
theorem kb_NoneType_int {K : PySem.W.Frag} : PySem.W.kitOne K (.type "NoneType") (.type "int") = some false := kit_ty (by decide +kernel)
theorem kb_NoneType_bool {K : PySem.W.Frag} : PySem.W.kitOne K (.type "NoneType") (.type "bool") = some false := kit_ty (by decide +kernel)
theorem kb_NoneType_tuple {K : PySem.W.Frag} : PySem.W.kitOne K (.type "NoneType") (.type "tuple") = some false := kit_ty (by decide +kernel)
theorem kb_NoneType_list {K : PySem.W.Frag} : PySem.W.kitOne K (.type "NoneType") (.type "list") = some false := kit_ty (by decide +kernel)
theorem kb_bool_int {K : PySem.W.Frag} : PySem.W.kitOne K (.type "bool") (.type "int") = some true := kit_ty (by decide +kernel)
theorem kb_bool_bool {K : PySem.W.Frag} : PySem.W.kitOne K (.type "bool") (.type "bool") = some true := kit_ty (by decide +kernel)
theorem kb_bool_tuple {K : PySem.W.Frag} : PySem.W.kitOne K (.type "bool") (.type "tuple") = some false := kit_ty (by decide +kernel)
theorem kb_bool_list {K : PySem.W.Frag} : PySem.W.kitOne K (.type "bool") (.type "list") = some false := kit_ty (by decide +kernel)
theorem kb_int_int {K : PySem.W.Frag} : PySem.W.kitOne K (.type "int") (.type "int") = some true := kit_ty (by decide +kernel)
theorem kb_int_bool {K : PySem.W.Frag} : PySem.W.kitOne K (.type "int") (.type "bool") = some false := kit_ty (by decide +kernel)
theorem kb_int_tuple {K : PySem.W.Frag} : PySem.W.kitOne K (.type "int") (.type "tuple") = some false := kit_ty (by decide +kernel)
theorem kb_int_list {K : PySem.W.Frag} : PySem.W.kitOne K (.type "int") (.type "list") = some false := kit_ty (by decide +kernel)
theorem kb_str_int {K : PySem.W.Frag} : PySem.W.kitOne K (.type "str") (.type "int") = some false := kit_ty (by decide +kernel)
theorem kb_str_bool {K : PySem.W.Frag} : PySem.W.kitOne K (.type "str") (.type "bool") = some false := kit_ty (by decide +kernel)
theorem kb_str_tuple {K : PySem.W.Frag} : PySem.W.kitOne K (.type "str") (.type "tuple") = some false := kit_ty (by decide +kernel)
theorem kb_str_list {K : PySem.W.Frag} : PySem.W.kitOne K (.type "str") (.type "list") = some false := kit_ty (by decide +kernel)
theorem kb_list_int {K : PySem.W.Frag} : PySem.W.kitOne K (.type "list") (.type "int") = some false := kit_ty (by decide +kernel)
theorem kb_list_bool {K : PySem.W.Frag} : PySem.W.kitOne K (.type "list") (.type "bool") = some false := kit_ty (by decide +kernel)
theorem kb_list_tuple {K : PySem.W.Frag} : PySem.W.kitOne K (.type "list") (.type "tuple") = some false := kit_ty (by decide +kernel)
theorem kb_list_list {K : PySem.W.Frag} : PySem.W.kitOne K (.type "list") (.type "list") = some true := kit_ty (by decide +kernel)
theorem kb_tuple_int {K : PySem.W.Frag} : PySem.W.kitOne K (.type "tuple") (.type "int") = some false := kit_ty (by decide +kernel)
theorem kb_tuple_bool {K : PySem.W.Frag} : PySem.W.kitOne K (.type "tuple") (.type "bool") = some false := kit_ty (by decide +kernel)
theorem kb_tuple_tuple {K : PySem.W.Frag} : PySem.W.kitOne K (.type "tuple") (.type "tuple") = some true := kit_ty (by decide +kernel)
theorem kb_tuple_list {K : PySem.W.Frag} : PySem.W.kitOne K (.type "tuple") (.type "list") = some false := kit_ty (by decide +kernel)
/-! ### promises -/
def sp_is_number : Sp := fun vs H Q _ => ∃ i : Int, vs = [.int i] ∧ Q (.bl true) H
def sp_divisor : Sp := fun vs H Q _ => ∃ a b : Int, vs = [.int a, .int b] ∧ Q (.int (Int.gcd a b : Int)) H
def sp_fraction : Sp := fun vs H Q _ => ∃ t b : Int, vs = [.int t, .int b] ∧ 0 < b ∧ b < 1073741824 ∧ ∀ p, H p = none → Q (.ref p) (upd H p (.tup [.int (low t b).1, .int (low t b).2]))
def sp_less (K : PySem.W.Frag) : Sp := fun vs H Q _ => ∃ (u v : V) (p q : Int × Int), vs = [u, v] ∧ Dp K H u (frD p) ∧ Dp K H v (frD q) ∧ (-(2 ^ 64) < p.2 ∧ p.2 < 2 ^ 64) ∧ (-(2 ^ 64) < q.2 ∧ q.2 < 2 ^ 64) ∧ Q (.bl (decide (p.1 * q.2 < q.1 * p.2))) H
def sp_is_fraction (K : PySem.W.Frag) : Sp := fun vs H Q _ => ∃ (v : V) (d : PyData), vs = [v] ∧ Dp K H v d ∧ FracLike d ∧ Q (.bl (isFrac d)) H
def sp_is_moment (K : PySem.W.Frag) : Sp := fun vs H Q _ => ∃ (v : V) (d : PyData), vs = [v] ∧ Dp K H v d ∧ FracLike d ∧ Q (.bl (isMom d)) H
/-! ### gcd -/
theorem abs_if (a : Int) : (if a < 0 then -a else a) = (a.natAbs : Int) := by
  by_cases h : a < 0
  · rw [if_pos h]; omega
  · rw [if_neg h]; omega
section
variable {P : Program} {w : World} {K : PySem.W.Frag} {mg : Str → Option Value} {base : Heap}
abbrev N_is_number : List Str := ["thing"]
theorem sc_is_number : FnScope N_is_number ["thing"] (defScope s_is_number) := ⟨rfl, rfl, rfl, by decide +kernel, rfl, by decide +kernel, by decide +kernel⟩
theorem ok_is_number (T : Ts K mg) : C8.Cal P w K mg base 1 "is_number" sp_is_number [] := by
  refine cal_of T.f_is_number T.g_is_number sc_is_number (fun vs H Q E h => ?_)
    (fun _ _ _ _ _ _ us hl => match us, hl with | [_], _ => rfl)
    (fun cdv A outer s H vs Q E hr h => ⟨_, (pss_one (ps_ret (pe_and (pe_callB call_isi (by rfl) T.m_isinstance (by decide +kernel) (pa_cons (pv 0) (pa_cons (pe_bltn (v := .ty "int") (by rfl) T.m_int (by decide +kernel) rfl) pa_nil))) (pe_one (pe_not (pe_callB call_isi (by rfl) T.m_isinstance (by decide +kernel) (pa_cons (pv 0) (pa_cons (pe_bltn (v := .ty "bool") (by rfl) T.m_bool (by decide +kernel) rfl) pa_nil)))))))), ?_⟩)
  · obtain ⟨i, rfl, _⟩ := h
    rfl
  · obtain ⟨i, rfl, q⟩ := h
    refine ⟨_, rfl, _, _, _, _, true, rfl, .ty _, dp_ty (.int i), kb_int_int, true, rfl, iteT ⟨_, rfl, _, _, _, _, false, rfl, .ty _, dp_ty (.int i), kb_int_bool, false, rfl, ?_⟩⟩
    exact q
abbrev N_divisor : List Str := ["one", "other"]
theorem sc_divisor : FnScope N_divisor ["one", "other"] (defScope s_divisor) := ⟨rfl, rfl, rfl, by decide +kernel, rfl, by decide +kernel, by decide +kernel⟩
theorem ok_divisor (T : Ts K mg) : C8.Cal P w K mg base 1 "divisor" sp_divisor [] := by
  refine cal_of T.f_divisor T.g_divisor sc_divisor (fun vs H Q E h => ?_)
    (fun _ _ _ _ _ _ us hl => match us, hl with | [_, _], _ => rfl)
    (fun cdv A outer s H vs Q E hr h => ⟨_, (pss_cons (ps_set (i := 0) sc_divisor.nd rfl (Or.inl rfl) (pe_callB call_abs (by rfl) T.m_abs (by decide +kernel) (pa_cons (pv 0) pa_nil)))
      (pss_cons (ps_set (i := 1) sc_divisor.nd rfl (Or.inl rfl) (pe_callB call_abs (by rfl) T.m_abs (by decide +kernel) (pa_cons (pv 1) pa_nil)))
      (pss_cons (ps_while PassesOwn.never (pt_cmpR op_gt (pv 1) pe_int (nomark _)) (pss_one (ps_par (i := 0) (j := 1) rfl sc_divisor.nd rfl rfl (by decide) rfl rfl (pa_cons (pv 1) (pa_cons (pe_op op_mod (pv 0) (pv 1)) pa_nil)) (by rfl))))
      (pss_one (ps_ret (pv 0)))))), ?_⟩)
  · obtain ⟨a, b, rfl, _⟩ := h
    rfl
  · obtain ⟨a, b, rfl, q⟩ := h
    refine ⟨_, rfl, a, rfl, _, rfl, b, rfl, ?_⟩
    rw [abs_if, abs_if]
    refine while_by (fun σ H' => H' = H ∧ ∃ x y : Nat, σ = [some (.int (x : Int)), some (.int (y : Int))] ∧ Nat.gcd x y = Int.gcd a b)
      (fun σ _ => match σ with | [_, some (.int y)] => y.toNat | _ => 0) ⟨rfl, a.natAbs, b.natAbs, rfl, rfl⟩ ?_ (fun σ H Q Q' k h => ?_)
    · rintro σ H' ⟨rfl, x, y, rfl, e⟩
      refine ⟨_, rfl, _, _, rfl, rfl, _, rfl, ite2 (fun c => ?_) (fun c => ?_)⟩
      · have c0 : (0 : Int) < (y : Int) := of_decide_eq_true c
        refine ⟨_, rfl, _, rfl, _, rfl, _, _, rfl, rfl, c0, _, _, rfl, ?_⟩
        refine ⟨⟨rfl, y, x % y, ?_, ?_⟩, ?_⟩
        · rw [Int.natCast_emod]
          rfl
        · rw [← e, Nat.gcd_comm x y, Nat.gcd_rec y x, Nat.gcd_comm]
        · show ((x : Int) % (y : Int)).toNat < (y : Int).toNat
          have h1 := Int.emod_lt_of_pos (x : Int) c0
          have h2 := Int.emod_nonneg (x : Int) (show (y : Int) ≠ 0 by omega)
          omega
      · have c0 : ¬ (0 : Int) < (y : Int) := fun z => c (decide_eq_true z)
        have y0 : y = 0 := by omega
        subst y0
        refine ⟨_, rfl, ?_⟩
        rw [Nat.gcd_zero_right] at e
        rw [e]
        exact q
    · obtain ⟨v, e1, i, j, e2, e3, k1, e4, h4⟩ := h
      exact ⟨v, e1, i, j, e2, e3, k1, e4, k _ _ h4⟩

/-! fraction: both arguments are written at every call here -/
theorem low_pos {t b : Int} (h : 0 < b) : 0 < (Int.gcd t b : Int) ∧ (Int.gcd t b : Int) ≤ b := by
  have h1 : Int.gcd t b ∣ b.natAbs := Int.gcd_dvd_natAbs_right t b
  have h2 : 0 < Int.gcd t b := Nat.pos_of_ne_zero fun z => by
    have := (Int.gcd_eq_zero_iff.mp z).2
    omega
  have h3 := Nat.le_of_dvd (by omega) h1
  omega
abbrev N_fraction : List Str := ["top", "bottom", "share"]
theorem sc_fraction : FnScope N_fraction ["top", "bottom"] (defScope s_fraction) := ⟨rfl, rfl, rfl, by decide +kernel, rfl, by decide +kernel, by decide +kernel⟩
theorem ok_fraction (T : Ts K mg) (c_is_number : C8.Cal P w K mg base 1 "is_number" sp_is_number []) (c_divisor : C8.Cal P w K mg base 1 "divisor" sp_divisor []) : C8.Cal P w K mg base 2 "fraction" sp_fraction [] := by
  obtain ⟨fd, F⟩ := T.f_fraction
  have b : Binds K fd ["top", "bottom"] [] := by
    obtain ⟨ds, v, b⟩ := F.binds1 (ps := ["top", "bottom"]) 2 1 (by simp) rfl fun T kV doc pm an cdv ct us its h1 h2 => match us, its, h1, h2 with | [_, _], [_], _, _ => ⟨_, rfl, rfl⟩
    cases v
    exact b
  refine ⟨_, fd, ["top", "bottom"], [], F.ok sc_fraction (fun vs H Q E h => ?_) (fun cdv A outer s H vs Q E hr h => ⟨_, PSs.nox (pss_cons (ps_if (PW.pt (pw_or (pt_not (pt_val (C8.pe_c c_is_number hr (by decide) (by rfl) (pa_cons (pv 0) pa_nil)))) (pw_or (pt_not (pt_val (C8.pe_c c_is_number hr (by decide) (by rfl) (pa_cons (pv 1) pa_nil)))) (pw_or1 (pt_cmpR op_eq (pv 1) pe_int (nomark _)))))) (pss_one ps_never) pss_nil)
      (pss_cons (ps_set (i := 2) sc_fraction.nd rfl (Or.inl rfl) (C8.pe_c c_divisor hr (by decide) (by rfl) (pa_cons (pv 0) (pa_cons (pv 1) pa_nil))))
      (pss_cons (ps_if (pt_cmpR op_lt (pv 1) pe_int (nomark _)) (pss_one (ps_set (i := 2) sc_fraction.nd rfl (Or.inl rfl) (pe_un un_neg (pv 2)))) pss_nil)
      (pss_one (ps_ret (pe_tup (pa_cons (pe_op op_fdiv (pv 0) (pv 2)) (pa_cons (pe_op op_fdiv (pv 1) (pv 2)) pa_nil)))))))), ?_⟩), T.g_fraction, F.kp, b, .nil⟩
  · obtain ⟨a, b, rfl, _⟩ := h
    rfl
  · obtain ⟨t, b, rfl, h0, h1, q⟩ := h
    obtain ⟨g0, g1⟩ := low_pos (t := t) h0
    refine ⟨_, rfl, _, rfl, _, rfl, iteF ⟨_, rfl, _, rfl, _, rfl, iteF ⟨_, rfl, rfl, _, rfl, ite2 (fun c => ?_) fun c => ?_⟩⟩⟩
    · have := of_decide_eq_true c
      have e : b = 0 := V.int.inj this
      omega
    · refine ⟨_, rfl, _, rfl, _, _, rfl, ?_⟩
      refine ⟨_, rfl, _, _, rfl, rfl, _, rfl, ite2 (fun c => ?_) fun c => ?_⟩
      · have := of_decide_eq_true c
        omega
      · refine ⟨_, rfl, _, rfl, _, _, rfl, rfl, ⟨g0, by omega⟩, _, rfl, _, rfl, _, _, rfl, rfl, ⟨g0, by omega⟩, (by show 2 ≤ sizeLine; decide), ?_⟩
        exact q
abbrev N_less : List Str := ["one", "other"]
theorem sc_less : FnScope N_less ["one", "other"] (defScope s_less) := ⟨rfl, rfl, rfl, by decide +kernel, rfl, by decide +kernel, by decide +kernel⟩
theorem ok_less (T : Ts K mg) : C8.Cal P w K mg base 1 "less" (sp_less K) [] := by
  refine cal_of T.f_less T.g_less sc_less (fun vs H Q E h => ?_)
    (fun _ _ _ _ _ _ us hl => match us, hl with | [_, _], _ => rfl)
    (fun cdv A outer s H vs Q E hr h => ⟨_, (pss_one (ps_ret (pe_cmpR op_lt (pe_op op_mul (pe_ix ix_tup (pv 0) pe_int (fun _ _ => rfl)) (pe_ix ix_tup (pv 1) pe_int (fun _ _ => rfl))) (pe_op op_mul (pe_ix ix_tup (pv 1) pe_int (fun _ _ => rfl)) (pe_ix ix_tup (pv 0) pe_int (fun _ _ => rfl))) (nomark _)))), ?_⟩)
  · obtain ⟨u, v, p, q, rfl, _⟩ := h
    rfl
  · obtain ⟨u, v, p, q, rfl, hu, hv, hp, hq, k⟩ := h
    obtain ⟨a, rfl, sa⟩ := hu.frE
    obtain ⟨c, rfl, sc⟩ := hv.frE
    refine ⟨_, rfl, _, _, _, _, rfl, rfl, sa, rfl, _, rfl, _, _, _, _, rfl, rfl, sc, rfl, _, _, rfl, rfl, .inr hq, ?_⟩
    refine ⟨_, rfl, _, _, _, _, rfl, rfl, sc, rfl, _, rfl, _, _, _, _, rfl, rfl, sa, rfl, _, _, rfl, rfl, .inr hp, ?_⟩
    exact ⟨_, _, rfl, rfl, k⟩
abbrev N_is_fraction : List Str := ["thing", "top", "bottom"]
theorem sc_is_fraction : FnScope N_is_fraction ["thing"] (defScope s_is_fraction) := ⟨rfl, rfl, rfl, by decide +kernel, rfl, by decide +kernel, by decide +kernel⟩
theorem frac_false {d : PyData} (h : FracLike d) (n : ∀ a b, d ≠ .tuple [.int a, .int b]) : isFrac d = false := by
  rcases h with rfl | ⟨b, rfl⟩ | ⟨i, rfl⟩ | ⟨x, rfl⟩ | ⟨ns, rfl⟩
  · rfl
  · rfl
  · rfl
  · rfl
  · match ns with
    | [] => rfl
    | [_] => rfl
    | [a, b] => exact absurd rfl (n a b)
    | _ :: _ :: _ :: _ => rfl
theorem ok_is_fraction (T : Ts K mg) (c_is_number : C8.Cal P w K mg base 1 "is_number" sp_is_number []) (c_divisor : C8.Cal P w K mg base 1 "divisor" sp_divisor []) : C8.Cal P w K mg base 2 "is_fraction" (sp_is_fraction K) [] := by
  refine cal_of T.f_is_fraction T.g_is_fraction sc_is_fraction (fun vs H Q E h => ?_)
    (fun _ _ _ _ _ _ us hl => match us, hl with | [_], _ => rfl)
    (fun cdv A outer s H vs Q E hr h => ⟨_, (pss_cons (ps_if (PW.pt (pw_or (pt_not (pt_val (pe_callB call_isi (by rfl) T.m_isinstance (by decide +kernel) (pa_cons (pv 0) (pa_cons (pe_bltn (v := .ty "tuple") (by rfl) T.m_tuple (by decide +kernel) rfl) pa_nil))))) (pw_or1 (pt_cmpR op_ne (pe_callB call_len (by rfl) T.m_len PySem.boot_len (pa_cons (pv 0) pa_nil)) pe_int (nomark _))))) (pss_one (ps_ret pe_bl)) pss_nil)
      (pss_cons (ps_asg (pv 0) (pg_tup rfl (pgs_cons (pg_name (i := 1) sc_is_fraction.nd rfl (Or.inl rfl)) (pgs_cons (pg_name (i := 2) sc_is_fraction.nd rfl (Or.inl rfl)) pgs_nil))))
      (pss_cons (ps_if (PW.pt (pw_or (pt_not (pt_val (C8.pe_c c_is_number hr (by decide) (by rfl) (pa_cons (pv 1) pa_nil)))) (pw_or (pt_not (pt_val (C8.pe_c c_is_number hr (by decide) (by rfl) (pa_cons (pv 2) pa_nil)))) (pw_or1 (pt_cmpR op_lt (pv 2) pe_int (nomark _)))))) (pss_one (ps_ret pe_bl)) pss_nil)
      (pss_one (ps_ret (pe_cmpR op_eq (C8.pe_c c_divisor hr (by decide) (by rfl) (pa_cons (pv 1) (pa_cons (pv 2) pa_nil))) pe_int (nomark _))))))), ?_⟩)
  · obtain ⟨v, d, rfl, _⟩ := h
    rfl
  · obtain ⟨v, d, rfl, hv, fl, k⟩ := h
    rcases id fl with rfl | ⟨b, rfl⟩ | ⟨i, rfl⟩ | ⟨x, rfl⟩ | ⟨ns, rfl⟩
    · exact ⟨_, rfl, _, _, _, _, false, rfl, .ty _, dp_ty hv, kb_NoneType_tuple, false, rfl, iteT k⟩
    · exact ⟨_, rfl, _, _, _, _, false, rfl, .ty _, dp_ty hv, kb_bool_tuple, false, rfl, iteT k⟩
    · exact ⟨_, rfl, _, _, _, _, false, rfl, .ty _, dp_ty hv, kb_int_tuple, false, rfl, iteT k⟩
    · exact ⟨_, rfl, _, _, _, _, false, rfl, .ty _, dp_ty hv, kb_str_tuple, false, rfl, iteT k⟩
    · refine ⟨_, rfl, _, _, _, _, true, rfl, .ty _, dp_ty hv, kb_tuple_tuple, true, rfl, iteF ?_⟩
      obtain ⟨a, xs, rfl, h1, h2⟩ := hv.tupE
      have e := h2.intsE
      subst e
      refine ⟨_, rfl, _, _, rfl, .inr ⟨_, h1, rfl⟩, rfl, _, rfl, ite2 (fun c => ?_) fun c => ?_⟩
      · have c1 : ¬ (((ns.map V.int).length : Int) = 2) := fun z => by
          have q : decide (V.int ((ns.map V.int).length : Int) = V.int 2) = true := decide_eq_true (congrArg V.int z)
          rw [q] at c
          cases c
        have e : isFrac (.tuple (ns.map PyData.int)) = false := frac_false fl fun a b z => c1 (by
          have z2 := congrArg List.length (PyData.tuple.inj z)
          rw [List.length_map] at z2
          rw [List.length_map, z2]
          rfl)
        rw [e] at k
        exact k
      · have c1 : ((ns.map V.int).length : Int) = 2 := by
          have q : decide (V.int ((ns.map V.int).length : Int) = V.int 2) = true := by
            cases z : decide (V.int ((ns.map V.int).length : Int) = V.int 2) with
            | true => rfl
            | false =>
              rw [z] at c
              exact absurd rfl c
          exact V.int.inj (of_decide_eq_true q)
        rw [List.length_map] at c1
        match ns, c1 with
        | [x, y], _ =>
          refine ⟨_, rfl, _, _, rfl, h1, rfl, _, _, rfl, _, _, rfl, rfl, ?_⟩
          refine ⟨_, rfl, _, rfl, _, rfl, iteF ⟨_, rfl, _, rfl, _, rfl, iteF ⟨_, rfl, _, _, rfl, rfl, _, rfl, ite2 (fun c => ?_) fun c => ?_⟩⟩⟩
          · have c2 := of_decide_eq_true c
            have e : isFrac (.tuple [.int x, .int y]) = false := by
              show (decide (1 ≤ y) && _) = false
              rw [decide_eq_false (by omega)]
              rfl
            rw [show ([x, y].map PyData.int) = [.int x, .int y] from rfl, e] at k
            exact k
          · have c2 : ¬ y < 1 := fun z => c (decide_eq_true z)
            refine ⟨_, rfl, _, rfl, _, _, rfl, rfl, ?_⟩
            have e : isFrac (.tuple [.int x, .int y]) = decide (V.int (Int.gcd x y : Int) = V.int 1) := by
              show (decide (1 ≤ y) && decide (Int.gcd x y = 1)) = _
              rw [decide_eq_true (show 1 ≤ y by omega), Bool.true_and]
              by_cases g : Int.gcd x y = 1
              · rw [decide_eq_true g, g]
                rfl
              · rw [decide_eq_false g, decide_eq_false]
                intro z
                have := V.int.inj z
                omega
            rw [show ([x, y].map PyData.int) = [.int x, .int y] from rfl, e] at k
            exact k
abbrev N_is_moment : List Str := ["thing"]
theorem sc_is_moment : FnScope N_is_moment ["thing"] (defScope s_is_moment) := ⟨rfl, rfl, rfl, by decide +kernel, rfl, by decide +kernel, by decide +kernel⟩
theorem ok_is_moment (T : Ts K mg) (c_is_fraction : C8.Cal P w K mg base 2 "is_fraction" (sp_is_fraction K) []) : C8.Cal P w K mg base 3 "is_moment" (sp_is_moment K) [] := by
  refine cal_of T.f_is_moment T.g_is_moment sc_is_moment (fun vs H Q E h => ?_)
    (fun _ _ _ _ _ _ us hl => match us, hl with | [_], _ => rfl)
    (fun cdv A outer s H vs Q E hr h => ⟨_, (pss_one (ps_ret (pe_and (C8.pe_c c_is_fraction hr (by decide) (by rfl) (pa_cons (pv 0) pa_nil)) (pe_one (pe_cmpR op_ge (pe_ix ix_tup (pv 0) pe_int (fun _ _ => rfl)) pe_int (nomark _)))))), ?_⟩)
  · obtain ⟨v, d, rfl, _⟩ := h
    rfl
  · obtain ⟨v, d, rfl, hv, fl, k⟩ := h
    refine ⟨_, rfl, _, _, rfl, hv, fl, _, rfl, ite2 (fun c => ?_) fun c => ?_⟩
    · have e : ∃ a b, d = .tuple [.int a, .int b] := by
        false_or_by_contra
        rename_i n
        rw [frac_false fl (fun a b z => n ⟨a, b, z⟩)] at c
        cases c
      obtain ⟨a, b, rfl⟩ := e
      obtain ⟨p, rfl, sp⟩ := Dp.frE (p := (a, b)) hv
      refine ⟨_, rfl, _, _, _, _, rfl, rfl, sp, rfl, _, _, rfl, rfl, ?_⟩
      have e : isMom (.tuple [.int a, .int b]) = decide (0 ≤ a) := by
        show (isFrac (.tuple [.int a, .int b]) && decide (0 ≤ a)) = _
        rw [c, Bool.true_and]
      rw [e] at k
      exact k
    · have e : isMom d = false := by
        rcases fl with rfl | ⟨b, rfl⟩ | ⟨i, rfl⟩ | ⟨x, rfl⟩ | ⟨ns, rfl⟩
        · rfl
        · rfl
        · rfl
        · rfl
        · match ns with
          | [] => rfl
          | [_] => rfl
          | [a, b] =>
            show (isFrac (.tuple [.int a, .int b]) && decide (0 ≤ a)) = false
            have c2 : isFrac (.tuple [.int a, .int b]) = false := Bool.eq_false_iff.mpr c
            rw [c2]
            rfl
          | _ :: _ :: _ :: _ => rfl
      rw [e] at k
      exact k
end
end Sc

namespace Sc
open PySem PySem.Spec PyProof.Rows L2
/-! rules of our own, beside the layer's -/
section
variable {X : Cx}
/-- the value is a new list or dict, which stays as it is from now on -/
def tHold (t : TE) : TE := fun σ H Q => t σ H fun x H1 => ∃ d u, x = .ref d ∧ H1 d = some u ∧ Mut (some u) ∧ ∀ od, Q x (upd H1 d (.frz od u))
theorem pe_hold {e : Expr} {t : TE} (h : PE X e t) : PE X e (tHold t) := by
  refine ⟨fun pins s σ H Q I hw => ?_⟩
  refine thn (h.run pins s σ H _ I hw) fun v s1 ⟨x, H1, I1, r, d, u, ex, hd, mu, q⟩ => ?_
  obtain ⟨od, I2⟩ := I1.lock hd mu
  exact ⟨x, _, I2, r, q od⟩
/-- C.m(e, ..): C a class of the text, m a plain def in it -/
theorem pe_ucall {CX : CXT} {k : Nat} {f C : Addr} {mc : Value} {fd : FuncData} {ps : List Str} {sp : Sp} {E : XK} {x m : Str} {p apos pos : Pos} {e : Expr} {es : List Expr} {t : TA} {pl : Sem Bool} (hg : Gl X x) (hx : X.mg x = some (.ref C)) (rd : ClX.CRead X.K C mc)
    (fc : PySem.W.findCls X.K (.ref C) mc m = some (.val (.ref f))) (kp : PySem.W.keepIn X.K (.ref f) = true) (F : FnOk X.prog X.w X.K X.mg X.base CX k f fd ps sp) (hr : Room k X.A) (hb : Binds X.K fd ps []) (hps : Passes CX X E) (ha : PA X (e :: es) t)
    (hd : (x == ("__debug__" : Str)) = false := by decide) (hst : starEach (e :: es) X.env = (false, eval e X.env) :: starEach es X.env := by rfl) (hpl : (backTo pos (starEach es X.env)).any (·.1) = false := by rfl)
    (ht : eval (.Call (.Attribute (.Name x p) m apos) (e :: es) [] pos) X.env = (do
      let o ← eval (.Name x p) X.env
      standAt apos.atName
      let (g, a) ← holding [o] (getMethod o m pl)
      callWith pos g a (backTo pos (starEach (e :: es) X.env)) (backToKw pos (keywordEach [] X.env))) := by rfl) :
    PE X (.Call (.Attribute (.Name x p) m apos) (e :: es) [] pos) (tCall sp [] E t) := by
  refine ⟨fun pins s σ H Q I h => PySem.W.methodCall_KW (pl := pl) (ld_glob I hg hx ?_ hd) ht⟩
  refine PySem.W.method_cls I.kIn rd.ga (ClX.getcval_ok (v := .ref f) I rd ⟨fc, rfl⟩ fun s1 I1 => ?_)
  refine PySem.W.callWith_K (first := []) (h₀ := X.base) I.ok.mod.kin kp (thn (ha.run pos pins s1 σ H _ I1 h) fun us s2 ⟨vs, H2, I2, r, q⟩ => ⟨I2.kIn, ?_⟩) hst hpl
  exact run_fn F hr hb .nil hps I2 r q
/-- len(o) by the class's own def -/
theorem call_lenO {CX : CXT} {k : Nat} {f C : Addr} {fd : FuncData} {sp : Sp} {ps : List Str} (hs : PySem.W.findIn X.K (.ref C) "__len__" = some (some (.ref f))) (hf : PySem.W.isFn X.K (.ref f) = true)
    (F : FnOk X.prog X.w X.K X.mg X.base CX k f fd ps sp) (hr : Room (k + 1) X.A) (hb : Binds X.K fd ps []) (hps : Passes CX X E0) :
    CallR X (.builtin "len") (fun xs H Q => ∃ a dx fs, xs = [.ref a] ∧ H a = some (.ins C dx fs) ∧ sp [.ref a] H (fun v H1 => ∃ n : Int, v = .int n ∧ (0 ≤ n ∧ n < 2 ^ 63) ∧ Q (.int n) H1) E0) := by
  intro pins s σ H xs us Q I r h
  obtain ⟨a, dx, fs, rfl, ha, h⟩ := h
  obtain ⟨u, rfl, ru⟩ := vals1 r
  obtain rfl : u = Value.ref a := ru
  obtain ⟨mA, O, _⟩ := ins_get I.hok ha
  obtain ⟨od, J, _⟩ := O.look
  obtain ⟨m, fr⟩ := I.fr
  refine PySem.W.len_K fr I.ok.mod.kin J hs hf (wpAny_call ?_)
  have hl : ps.length = 1 := (F.len _ _ _ _ h).symm
  have b := hb s [.ref a] I.kIn (by rw [hl]; rfl)
  refine codeAny_mono (F.run X.A.in1 X.stack s H ⟨[.ref a], []⟩ _ [.ref a] _ E0 hr.in1 I.env0.in1 b (.cons rfl .nil) h) fun z s1 hz => ?_
  cases z with
  | error e => exact hps pins σ H s e s1 I hz
  | ok fl =>
    cases fl with
    | ret v =>
      obtain ⟨y, H1, I1, ry, n, rfl, hn, q⟩ := I.after hz
      obtain ⟨t, rfl⟩ := ry
      exact ⟨hn, .int n, H1, I1.tok _, ⟨_, rfl⟩, q⟩
    | next => exact False.elim hz
    | brk => exact False.elim hz
    | cont => exact False.elim hz
/-- a call with keywords of a def without defaults -/
theorem kbn_of {K : PySem.W.Frag} {x qual : Str} {params : Arguments} {body : List Stmt} {scope : Scope} {f : Addr} {fd : FuncData} {ps ks : List Str} {n : Nat} {g : List Value → List Value → List Value} {gV : List V → List V → List V} (F : FunD K x qual params body scope [] [] f fd)
    (h : ∀ (kV doc pm : Value) (an : Option Addr) (cdv ct : Value) (us ws : List Value), us.length = n → ws.length = ks.length → bindArgs (PySem.W.fnOf x qual params body scope .none kV doc pm an cdv ct) ⟨us, ks.zip ws⟩ = pure (ps.zip (g us ws)))
    (hv : ∀ {vs : List V} {us : List Value} {zs : List V} {ws : List Value}, Vals vs us → Vals zs ws → Vals (gV vs zs) (g us ws)) : KBn K fd ps n ks g gV := by
  obtain ⟨oc, od, dV, kV, doc, pm, an, cdv, ct, osl, rfl, lk, hcd, hD, _⟩ := F.ex
  rcases hD with ⟨_, rfl⟩ | ⟨e, _⟩
  · exact ⟨fun s us ws _ l1 l2 => .of_eq (h _ _ _ _ _ _ _ _ l1 l2), hv⟩
  · exact absurd rfl e
/-! max of a tuple of ints -/
def rMaxT (K : PySem.W.Frag) : List V → Hp → VK → Prop := fun vs H Q => ∃ (a : Addr) (ns : List Int), vs = [V.ref a] ∧ SqT K H a (ns.map V.int) ∧ ns ≠ [] ∧ ∀ m, m ∈ ns → Q (.int m) H
theorem ints_of_vals : ∀ {ns : List Int} {us : List Value}, Vals (ns.map V.int) us → ∀ (i : Nat) (v : Value), us[i]? = some v → ∃ t, v = .int (ns.getD i 0) t
  | [], _, r, i, v, e => by
    cases r
    simp at e
  | n :: ns, _, r, 0, v, e => by
    cases r with
    | cons r1 r2 =>
      obtain ⟨t, rfl⟩ := r1
      have e2 : Value.int n t = v := Option.some.inj e
      exact ⟨t, e2.symm⟩
  | n :: ns, _, r, i + 1, v, e => by
    cases r with
    | cons r1 r2 =>
      obtain ⟨t, q⟩ := ints_of_vals r2 i v (by simpa using e)
      exact ⟨t, by simpa using q⟩
theorem getD_in {ns : List Int} {i : Nat} (h : i < ns.length) : ns.getD i 0 ∈ ns := by
  rw [List.getD_eq_getElem?_getD, List.getElem?_eq_getElem h]
  exact List.getElem_mem h
theorem argBest_le (bt : Nat → Nat → Bool) : ∀ k, PySem.argBest bt k ≤ k
  | 0 => Nat.le_refl 0
  | k + 1 => by
    show (if bt (k + 1) (PySem.argBest bt k) then k + 1 else PySem.argBest bt k) ≤ k + 1
    split
    · exact Nat.le_refl _
    · exact Nat.le_trans (argBest_le bt k) (Nat.le_succ k)
theorem cr_maxT (hc : X.calm = true) : CallR X (.builtin "max") (rMaxT X.K) := by
  intro pins s σ H vs us Q I r h
  obtain ⟨a, ns, rfl, hs, hne, q⟩ := h
  obtain ⟨its, rv, ht, _⟩ := I.tuple hs
  obtain ⟨u, rfl, ru⟩ := vals1 r
  obtain rfl : u = Value.ref a := ru
  have hl : ns.length = its.length := by
    have := rv.length
    rw [List.length_map] at this
    exact this
  have hpos : 0 < its.length := by
    rw [← hl]
    exact List.length_pos_iff.mpr hne
  have ha : a < s.heap.objs.size := ht.lt
  have hI : s.heap.IsTuple a its.toArray := ht
  refine PySem.call_max_walk (wpAny_pyIter_tuple hI ?_)
  refine ⟨_, _, _, _, _, _, _, rfl, Walks.tuple (A := X.A.in1) (I.ok.hd hc) s.heap.objs.size a (Nat.ne_of_lt ha) its.toArray, ⟨⟨_, Heap.get?_push_size _ rfl, rfl, rfl⟩, hI.push _⟩, fun b hb => ?_, by simpa using hpos,
    CmpOf.ints_gt (fun i => ns.getD i 0) (fun i v e => ints_of_vals rv i v (by simpa using e)), fun v h' tk hP hk => ?_⟩
  · show b < (s.heap.push _).objs.size
    rw [Heap.size_push]
    rcases List.mem_cons.mp hb with rfl | hb
    · exact Nat.lt_succ_self _
    · rcases List.mem_cons.mp hb with rfl | hb
      · exact Nat.lt_succ_of_lt ha
      · cases hb
  · obtain ⟨t, rfl⟩ := ints_of_vals rv _ v (by simpa using hP)
    refine ⟨.int _, H, I.kept (t' := tk) fun b o e => hk b o (fun z => ?_) (Heap.get?_push_of_some _ e), ⟨t, rfl⟩, q _ (getD_in ?_)⟩
    · have e2 : b = s.heap.objs.size := by simpa using z
      rw [e2] at e
      exact absurd (Heap.lt_size e) (Nat.lt_irrefl _)
    · refine Nat.lt_of_le_of_lt (argBest_le _ _) ?_
      rw [hl]
      exact Nat.sub_lt hpos (by decide)
end
end Sc

namespace Sc
open PySem PySem.Spec PyProof.Rows L2
/-! max(xs, default=d) of a list of ints: an item, or d of none -/
section
variable {P : Program} {w : World} {A : Around} {R : Result → Shared → Prop} {I S : Addr} {fp wr : List Addr} {n : Nat} {Pv : Nat → Value → Prop} {St : Nat → Heap → Prop}
/-- what the best so far is -/
def Held (ns : List Int) (old : List Value) : Prop := ∃ (m : Int) (t : Tok), m ∈ ns ∧ old = [.int m t, .int m t]
theorem gt_two {a b : Int} {t u : Tok} {s : Shared} {Q : Value → Shared → Prop} {E : Value → Shared → Prop} (h : ∀ c : Bool, Q (.bool c) s) : wpAny (model P w) A (richCompare .Gt (.int a t) (.int b u)) Q E s :=
  CmpOf.ints_gt (P := fun i v => ∃ t, v = .int (if i = 0 then a else b) t) (fun i => if i = 0 then a else b) (fun _ _ z => z) 0 1 _ _ s Q E ⟨t, rfl⟩ ⟨u, rfl⟩ (h _)
theorem maxd_go (W : Walks P w A.in1 I fp wr n Pv St) (ns : List Int) (hn : n = ns.length) (dv : Value) (hP : ∀ i v, Pv i v → ∃ t, v = .int (ns.getD i 0) t) (hS : S ∉ fp) :
    ∀ (k i : Nat) (s : Shared) (old : List Value) (c : Nat), n - i = k → i ≤ n → St i s.heap → ((i = 0 ∧ old = []) ∨ Held ns old) → s.heap.get? S = some { cls := .type "list", dict := none, data := .seq old.toArray c, slots := #[] } →
      (∀ v h' tk, ((∃ m t, v = Value.int m t ∧ m ∈ ns) ∨ (ns = [] ∧ v = dv)) → (∀ b o, b ∉ wr → b ≠ S → s.heap.get? b = some o → h'.get? b = some o) → R (.ok (.ret v)) { s with heap := h', toks := tk }) →
      codeAny (model P w) A (.builtin "max.loop" ⟨[.ref I, .none, .ref S], [(Str.ofString "default", dv)]⟩) R s := by
  have nS : S ∉ wr := fun z => hS (W.sub _ z)
  have nm : (toString "max" ++ toString ".loop" : String) = "max.loop" := by decide
  intro k
  induction k with
  | zero =>
    intro i s old c hk hi st ho hg hR
    have ei : i = n := by omega
    refine codeAny_builtin PySem.F.entry_max_loop ?_
    rw [Around.under_plainId PySem.F.plain_max_loop _]
    show wpAny _ A.in1 (seqItems? (.ref S) >>= _) _ _ s
    refine wpAny_bind (wpAny_seqItems hg rfl ?_)
    show wpAny _ A.in1 (tryCatch (pyNext (.ref I)) _ >>= _) _ _ s
    refine wpAny_bind (wpAny_tryCatch (W.done s _ _ (ei ▸ st) fun h' tk kk => ?_))
    have hg' := kk S _ nS hg
    rcases ho with ⟨z, rfl⟩ | ⟨m, t, hm, rfl⟩
    · have e0 : ns = [] := List.eq_nil_of_length_eq_zero (by omega)
      first
        | exact wpAny_bind (wpAny_rule (wpAny_pure (hR dv h' tk (.inr ⟨e0, rfl⟩) fun b o hb hs e => kk b o hb e)))
        | exact wpAny_rule (wpAny_pure (hR dv h' tk (.inr ⟨e0, rfl⟩) fun b o hb hs e => kk b o hb e))
    · show wpAny _ A.in1 (updateSeq S (fun _ => #[]) >>= _) _ _ _
      refine wpAny_bind (wpAny_updateSeq hg' rfl (wpAny_bind (wpAny_letGo (wpAny_pure ?_))))
      exact hR _ _ tk (.inl ⟨m, t, rfl, hm⟩) fun b o hb hs e => (Heap.get?_update_other _ _ (Ne.symm hs)).trans (kk b o hb e)
  | succ k ih =>
    intro i s old c hk hi st ho hg hR
    have hlt : i < n := by omega
    refine codeAny_builtin PySem.F.entry_max_loop ?_
    rw [Around.under_plainId PySem.F.plain_max_loop _]
    show wpAny _ A.in1 (seqItems? (.ref S) >>= _) _ _ s
    refine wpAny_bind (wpAny_seqItems hg rfl ?_)
    show wpAny _ A.in1 (tryCatch (pyNext (.ref I)) _ >>= _) _ _ s
    refine wpAny_bind (wpAny_tryCatch (W.item i s _ _ hlt st fun v h' tk hv st' kk => ?_))
    have hg' := kk S _ nS hg
    obtain ⟨t, rfl⟩ := hP i v hv
    have hm : ns.getD i 0 ∈ ns := getD_in (by omega)
    have stay : ∀ (h2 : Heap), (∀ b o, b ≠ S → h'.get? b = some o → h2.get? b = some o) → St (i + 1) h2 := fun h2 q => W.frame _ _ _ st' fun b hb o e => q b o (fun z => hS (by rw [← z]; exact hb)) e
    rcases ho with ⟨rfl, rfl⟩ | ⟨m, u, hm2, rfl⟩
    · show wpAny _ A.in1 (updateSeq S (fun _ => #[Value.int (ns.getD 0 0) t, Value.int (ns.getD 0 0) t]) >>= _) _ _ _
      refine wpAny_bind (wpAny_updateSeq hg' rfl ?_)
      rw [nm]
      refine wpAny_pure ⟨plainId_quiet PySem.F.plain_max_loop _, ih 1 _ [.int (ns.getD 0 0) t, .int (ns.getD 0 0) t] _ (by omega) hlt (stay _ fun b o hb e => (Heap.get?_update_other _ _ (Ne.symm hb)).trans e) (.inr ⟨_, t, hm, rfl⟩) (Heap.get?_update_self _ hg' rfl) fun v2 h2 tk2 hv2 k2 => ?_⟩
      exact hR v2 h2 tk2 hv2 fun b o hb hs e => k2 b o hb hs ((Heap.get?_update_other _ _ (Ne.symm hs)).trans (kk b o hb e))
    · show wpAny _ A.in1 (tryCatch (holding [Value.int (ns.getD i 0) t, Value.int (ns.getD i 0) t] (richCompare .Gt (Value.int (ns.getD i 0) t) (Value.int m u) >>= _)) _ >>= _) _ _ _
      refine wpAny_bind (wpAny_tryCatch (wpAny_holding (wpAny_bind (gt_two fun b => ?_))))
      refine wpAny_bind (wpAny_holding (wpAny_truthy_bool ?_))
      refine wpAny_bind (wpAny_letGo (wpAny_pure ?_))
      cases b with
      | true =>
        simp only [if_true]
        refine wpAny_bind (wpAny_updateSeq hg' rfl (wpAny_bind (wpAny_letGo ?_)))
        rw [nm]
        refine wpAny_pure ⟨plainId_quiet PySem.F.plain_max_loop _, ih (i + 1) _ [.int (ns.getD i 0) t, .int (ns.getD i 0) t] _ (by omega) hlt (stay _ fun b o hb e => (Heap.get?_update_other _ _ (Ne.symm hb)).trans e) (.inr ⟨_, t, hm, rfl⟩) (Heap.get?_update_self _ hg' rfl) fun v2 h2 tk2 hv2 k2 => ?_⟩
        exact hR v2 h2 tk2 hv2 fun b o hb hs e => k2 b o hb hs ((Heap.get?_update_other _ _ (Ne.symm hs)).trans (kk b o hb e))
      | false =>
        simp only [Bool.false_eq_true, if_false]
        refine wpAny_bind (wpAny_letGo ?_)
        rw [nm]
        refine wpAny_pure ⟨plainId_quiet PySem.F.plain_max_loop _, ih (i + 1) _ [.int m u, .int m u] c (by omega) hlt st' (.inr ⟨m, u, hm2, rfl⟩) hg' fun v2 h2 tk2 hv2 k2 => ?_⟩
        exact hR v2 h2 tk2 hv2 fun b o hb hs e => k2 b o hb hs (kk b o hb e)
theorem args_maxd (a v : Value) : argsOk "max" ⟨[a], [(Str.ofString "default", v)]⟩ := by unfold argsOk; kernel_rfl
end
def rMaxD (K : PySem.W.Frag) : List V → List V → Hp → VK → Prop := fun vs zs H Q => ∃ (a : Addr) (ns : List Int) (d : Int), vs = [V.ref a] ∧ zs = [V.int d] ∧ SqL K H a (ns.map V.int) ∧ ∀ m, (m ∈ ns ∨ (ns = [] ∧ m = d)) → Q (.int m) H
theorem cr_maxD {X : Cx} (hc : X.calm = true) : CallRK X (.builtin "max") ["default"] (rMaxD X.K) := by
  intro pins s σ H xs zs us ws Q I r rz h
  obtain ⟨a, ns, d, rfl, rfl, hs, q⟩ := h
  obtain ⟨its, rv, hl, _⟩ := I.list hs
  obtain ⟨u, rfl, ru⟩ := vals1 r
  obtain rfl : u = Value.ref a := ru
  obtain ⟨dv, rfl, td, rfl⟩ := vals1 rz
  have hL : s.heap.IsList a its.toArray := hl.isList
  have ha : a < s.heap.objs.size := by
    obtain ⟨o, e, _⟩ := hL
    exact Heap.lt_size e
  have len : ns.length = its.length := by
    have := rv.length
    rw [List.length_map] at this
    exact this
  refine PyProof.Rows.kmk_tree PySem.F.kind_max PySem.F.plain_max PySem.F.entry_max (args_maxd _ _) ?_
  show wpAny _ X.A.in1 (Builtin.Builtins.bindParams "max" ["key", "default"] 0 ⟨[], [(Str.ofString "default", .int d td)]⟩ >>= _) _ _ s
  refine wpAny_bind (wpAny_of_eq (show Builtin.Builtins.bindParams "max" ["key", "default"] 0 ⟨[], [(Str.ofString "default", .int d td)]⟩ = pure [none, some (.int d td)] from rfl) ?_)
  refine wpAny_bind (wpAny_pure ?_)
  refine wpAny_bind (wpAny_pyIter_list hL ?_)
  refine wpAny_bind (wpAny_newList ?_ (Nat.zero_le _))
  have nm : (toString "max" ++ toString ".loop" : String) = "max.loop" := by decide
  rw [nm]
  have z1 : (s.heap.push { cls := .type "list_iterator", data := .fields #[.ref a, .int 0 0] }).objs.size = s.heap.objs.size + 1 := Heap.size_push ..
  have hS : (s.heap.push { cls := .type "list_iterator", data := .fields #[.ref a, .int 0 0] }).objs.size ∉ [s.heap.objs.size, a] := by
    rw [z1]
    simp only [List.mem_cons, List.not_mem_nil, or_false, not_or]
    exact ⟨Nat.ne_of_gt (Nat.lt_succ_self _), Nat.ne_of_gt (Nat.lt_succ_of_lt ha)⟩
  refine wpAny_pure ⟨plainId_quiet PySem.F.plain_max_loop _, maxd_go (Walks.list (prog := X.prog) (w := X.w) (A := X.A.in1) (I.ok.hd hc) s.heap.objs.size a (Nat.ne_of_lt ha) its.toArray) ns (by rw [List.size_toArray, len]) (.int d td) (fun i v e => ints_of_vals rv i v (by simpa using e)) hS
    its.toArray.size 0 _ [] 0 (Nat.sub_zero _) (Nat.zero_le _) ⟨⟨_, Heap.get?_push_of_some _ (Heap.get?_push_size _ rfl), rfl, rfl⟩, (hL.push _).push _⟩ (.inl ⟨rfl, rfl⟩) (Heap.get?_push_size _ rfl) fun v h' tk hv kk => ?_⟩
  have keep : ∀ b o, s.heap.get? b = some o → h'.get? b = some o := fun b o e => by
    have hb : b < s.heap.objs.size := Heap.lt_size e
    refine kk b o (fun z => ?_) (fun z => ?_) (Heap.get?_push_of_some _ (Heap.get?_push_of_some _ e))
    · have e2 : b = s.heap.objs.size := by simpa using z
      rw [e2] at hb
      exact Nat.lt_irrefl _ hb
    · rw [z1] at z
      rw [z] at hb
      exact absurd hb (Nat.not_lt.mpr (Nat.le_succ _))
  rcases hv with ⟨m, t, rfl, hm⟩ | ⟨e, rfl⟩
  · exact ⟨.int m, H, I.kept (t' := tk) keep, ⟨t, rfl⟩, q m (.inl hm)⟩
  · exact ⟨.int d, H, I.kept (t' := tk) keep, ⟨td, rfl⟩, q d (.inr ⟨e, rfl⟩)⟩
end Sc

namespace Sc
open PySem PySem.Spec PyProof.Rows L2
/-! set(xs) of a list of ints -/
abbrev newSet (w : World) : Obj := { cls := .type "set", dict := none, data := .set #[] 0 (.fresh 0 0 (!w.params.followText "set-order")) }
section
variable {P : Program} {w : World} {A : Around} {E : Value → Shared → Prop} {s : Shared}
theorem set_of_list {l : Addr} {items : Array Value} (ns : List Int) {Q : Value → Shared → Prop} (hh : A.handled = none) (hl : s.heap.IsList l items) (hit : IntsAre items.toList ns) (hb : ns.length + 1 < scanBound)
    (h : ∀ (h' : Heap) (tk c : Nat), SetR w h' s.heap.objs.size (fun j => decide (j ∈ ns)) c → c ≤ ns.length → (∀ b o, s.heap.get? b = some o → h'.get? b = some o) → Q (.ref s.heap.objs.size) { s with heap := h', toks := tk }) :
    wpAny (model P w) A (call (.type "set") [.ref l]) Q E s := by
  have sz : items.size = ns.length := by
    have z := IntsAre.length hit
    rwa [Array.length_toList] at z
  have lS : l < s.heap.objs.size := by
    obtain ⟨o, e, _⟩ := hl
    exact Heap.lt_size e
  obtain ⟨c, tl, hmro⟩ := F.called_set.mro
  have a1 := F.called_set.made
  have a2 := F.called_set.sub
  have a3 := F.called_set.notType
  have a4 := F.called_set.canCreate
  have a5 := F.typeCall_set_1 (.ref l)
  refine wpAny_call (codeAny_of_tree ?_)
  show wpAny _ _ (callAny (.type "set") _) _ _ _
  refine wpAny_pure ⟨Code.quiet_builtin _ (by decide +kernel), codeAny_builtin F.entry_type_call ?_⟩
  rw [Around.under_plain (weight_type_call_type "set" [.ref l] []) rfl]
  repeat (any_goals (first | assumption | wp_step))
  refine codeAny_mono (code_set_led1 (w := w) (.ref l) (E := E) (Q₁ := fun u s1 => u = .ref s.heap.objs.size ∧ s1 = { s with heap := s.heap.push (newSet w) }) ⟨rfl, rfl⟩) fun r s1 hr => ?_
  cases r with
  | error e => exact hr
  | ok fl =>
    cases fl with
    | ret u =>
      obtain ⟨rfl, rfl⟩ := hr
      have gS : (s.heap.push (newSet w)).get? s.heap.objs.size = some (newSet w) := Heap.get?_push_size _ rfl
      have tS : Shared.TypeIs { s with heap := s.heap.push (newSet w) } (.ref s.heap.objs.size) "set" := ⟨_, gS, rfl⟩
      have b1 := F.called_set.init.lookup
      have b2 := F.called_set.init.bind (.ref s.heap.objs.size)
      repeat (any_goals (first | assumption | wp_step))
      refine codeAny_mono (codeAny_call_builtin (R := wants (fun r s2 => r = .none ∧ ∃ h' tk c, s2 = { s with heap := h', toks := tk } ∧ SetR w h' s.heap.objs.size (fun j => decide (j ∈ ns)) c ∧ c ≤ ns.length ∧
          (∀ b o, s.heap.get? b = some o → h'.get? b = some o)) E) F.called_set.init.plain F.entry_set_init (check_set_init_1 tS ?_)) fun r2 s2 hr2 => ?_
      · obtain ⟨⟨oc, od, odt, osl⟩, gl, e1, n, e2⟩ := hl
        simp only at e1 e2
        subst e1; subst e2
        have gl2 : (s.heap.push (newSet w)).get? l = some { cls := .type "list", dict := od, data := .seq items n, slots := osl } := Heap.get?_push_of_some _ gl
        have d1 := PySem.F.sub_list_set
        have d2 := PySem.F.sub_list_frozenset
        have d3 : (Value.type "list" == Value.type "dict") = false := by decide
        have li : (s.heap.push (newSet w)).IsList l items := ⟨_, gl2, rfl, n, rfl⟩
        unfold Builtin.«set.__init__» noKeywords Builtin.Frozenset.updateFrom
        generalize hPI : pyIter = PI
        wp_walk
        subst hPI
        refine wpAny_pyIter_list li ?_
        refine wpAny_bind (wpAny_runValue ?_)
        have h3 : A.in1.in1.in1.handled = none := by simp [hh]
        have z1 : (s.heap.push (newSet w)).objs.size = s.heap.objs.size + 1 := Heap.size_push ..
        have nI : l ≠ (s.heap.push (newSet w)).objs.size := by
          rw [z1]
          exact Nat.ne_of_lt (Nat.lt_succ_of_lt lS)
        have nS : s.heap.objs.size ∉ [(s.heap.push (newSet w)).objs.size, l] := by
          rw [z1]
          simp only [List.mem_cons, List.not_mem_nil, or_false, not_or]
          exact ⟨Nat.ne_of_lt (Nat.lt_succ_self _), Nat.ne_of_gt lS⟩
        have val : ∀ (i : Nat) (v : Value), items[i]? = some v → ∃ k t, ns[i]? = some k ∧ v = .int k t := fun i v hv => by
          have hi : i < ns.length := by
            rw [← sz]
            exact (Array.getElem?_eq_some_iff.mp hv).1
          obtain ⟨t, e⟩ := PyProof.Rows.IntsAre.int_at hit i v (by rw [Array.getElem?_toList]; exact hv)
          refine ⟨ns[i], t, List.getElem?_eq_getElem hi, ?_⟩
          rw [e, List.getD_eq_getElem?_getD, List.getElem?_eq_getElem hi] <;> rfl
        refine set_update_ints ((Walks.list h3 _ l nI items).toS) s.heap.objs.size nS ns sz hb val (items.size - 0) 0 _ (by omega) (Nat.zero_le _) ⟨⟨_, Heap.get?_push_size _ rfl, rfl, rfl⟩, (li.push _)⟩
          ⟨0, Nat.le_refl 0, setR_new_at (Heap.get?_push_of_some _ gS)⟩ fun s3 c3 hm hc3 hS3 => ?_
        obtain ⟨h4, g4, d4, t4, o4⟩ := s3
        have q1 : g4 = s.gens := hm.gens
        have q2 : d4 = s.drawn := hm.drawn
        have q3 : o4 = s.os := hm.os
        subst q1; subst q2; subst q3
        show wpAny _ _ _ _ _ _
        refine wpAny_pure ?_
        show wpAny _ _ (ret Value.none) _ _ _
        rw [sz] at hc3
        refine wpAny_pure ⟨rfl, h4, t4, c3, rfl, hS3, hc3, fun b o e => ?_⟩
        have y0 : b < s.heap.objs.size := Heap.lt_size e
        refine hm.heap b o ?_ (Heap.get?_push_of_some _ (Heap.get?_push_of_some _ e))
        rw [z1]
        simp only [List.mem_cons, List.not_mem_nil, or_false, not_or]
        exact ⟨Nat.ne_of_lt y0, Nat.ne_of_lt (Nat.lt_succ_of_lt y0)⟩
      · cases r2 with
        | error e => exact hr2
        | ok f2 =>
          cases f2 with
          | ret v =>
            obtain ⟨rfl, h', tk, c', rfl, x1, x2, x3⟩ := hr2
            repeat (any_goals (first | assumption | wp_step))
            exact h _ _ _ x1 x2 x3
          | _ => exact hr2.elim
    | _ => exact hr.elim
end
def rSetL (K : PySem.W.Frag) (w : World) : List V → Hp → VK → Prop := fun vs H Q => ∃ (a : Addr) (ns : List Int), vs = [V.ref a] ∧ SqL K H a (ns.map V.int) ∧ ns.length < 64 ∧ ∀ (p : Addr) (c : Nat), H p = none → c ≤ ns.length → Q (.ref p) (upd H p (SetO w p (fun j => decide (j ∈ ns)) c))
theorem cr_setL {X : Cx} (hc : X.calm = true) : CallR X (.type "set") (rSetL X.K X.w) := by
  intro pins s σ H vs us Q I r h
  obtain ⟨a, ns, rfl, hs, hn, q⟩ := h
  obtain ⟨its, rv, hl, _⟩ := I.list hs
  rw [Vals.ref1 r]
  refine set_of_list ns (I.ok.hd hc) hl.isList rv.ints (by show ns.length + 1 < scanBound; exact Nat.lt_of_le_of_lt (by omega : ns.length + 1 ≤ 64) (by decide)) fun h' tk c R hc' k => ?_
  have hf : H s.heap.objs.size = none := I.hok.fresh (Nat.le_refl _)
  exact ⟨.ref s.heap.objs.size, _, I.laid (t' := tk) k (Nat.le_refl _) (setO_new R), rfl, q _ c hf hc'⟩
end Sc

namespace Sc
open PySem PySem.Spec PyProof.Rows L2
/-! dict(pairs), the keys tuples, no two alike -/
structure TP where
  T : Addr
  B : Addr
  k : List Key
  v : V
section
variable {X : Cx} {pins : List (Addr × Obj)} {σ : L2.St} {H : Hp} {s : Shared}
/-- the values beside the pairs -/
inductive TPs (h : Heap) : List TP → List Value → Prop
  | nil : TPs h [] []
  | cons {x : TP} {l : List TP} {u : Value} {us : List Value} : RelV x.v u → IsTup h x.T #[.ref x.B, u] → TPs h l us → TPs h (x :: l) (u :: us)
theorem tps_of (I : Inv X pins σ H s) : ∀ l : List TP, (∀ x ∈ l, H x.T = some (.tup [.ref x.B, x.v])) → ∃ us, TPs s.heap l us
  | [], _ => ⟨[], .nil⟩
  | x :: l, h => by
    obtain ⟨us, q⟩ := tps_of I l fun y hy => h y (List.mem_cons_of_mem _ hy)
    obtain ⟨its, rv, ht, _⟩ := I.tuple (SqT.of (h x List.mem_cons_self))
    obtain ⟨a, b, rfl, ra, rb⟩ := vals2 rv
    obtain rfl : a = Value.ref x.B := ra
    exact ⟨b :: us, .cons rb ht q⟩
theorem TPs.len {h : Heap} : ∀ {l : List TP} {us : List Value}, TPs h l us → us.length = l.length
  | _, _, .nil => rfl
  | _, _, .cons _ _ t => congrArg Nat.succ t.len
def prs (l : List TP) (us : List Value) : List (Value × Value) := (l.zip us).map fun q => (.ref q.1.B, q.2)
def kas (l : List TP) (us : List Value) : List (List Key × Addr × Value) := (l.zip us).map fun q => (q.1.k, q.1.B, q.2)
theorem TPs.at {h : Heap} : ∀ {l : List TP} {us : List Value}, TPs h l us → ∀ (j : Nat) (a b : Value), (prs l us)[j]? = some (a, b) → ∃ x, l[j]? = some x ∧ us[j]? = some b ∧ a = .ref x.B ∧ IsTup h x.T #[a, b] ∧ (kas l us)[j]? = some (x.k, x.B, b)
  | _, _, .nil, j, a, b, e => by simp [prs] at e
  | x :: l, u :: us, .cons r ht t, 0, a, b, e => by
    have e2 : ((Value.ref x.B, u) : Value × Value) = (a, b) := Option.some.inj e
    injection e2 with e3 e4
    subst e3; subst e4
    exact ⟨x, rfl, rfl, rfl, ht, rfl⟩
  | x :: l, u :: us, .cons r ht t, j + 1, a, b, e => t.at j a b e
theorem TPs.kas_rel {h : Heap} : ∀ {l : List TP} {us : List Value}, TPs h l us → (∀ x ∈ l, H x.B = some (.tup (x.k.map kV))) →
    Paired (fun (p : List Key × V) (q : List Key × Addr × Value) => p.1 = q.1 ∧ H q.2.1 = some (.tup (p.1.map kV)) ∧ RelV p.2 q.2.2) (l.map fun x => (x.k, x.v)) (kas l us)
  | _, _, .nil, _ => .nil
  | x :: l, u :: us, .cons r _ t, hB => .cons ⟨rfl, hB x List.mem_cons_self, r⟩ (t.kas_rel fun y hy => hB y (List.mem_cons_of_mem _ hy))
theorem kas_keys {h : Heap} : ∀ {l : List TP} {us : List Value}, TPs h l us → (kas l us).map (·.1) = l.map TP.k
  | _, _, .nil => rfl
  | x :: l, u :: us, .cons _ _ t => congrArg (x.k :: ·) (kas_keys t)
/-- pairs with keys that are not there yet are put behind -/
theorem stored_all {κ : Type} [DecidableEq κ] : ∀ (ps xs : List (κ × Addr × Value)), ((xs ++ ps).map (·.1)).Nodup → storedAllH xs ps = xs ++ ps
  | [], xs, _ => by
    show xs = _
    rw [List.append_nil]
  | p :: ps, xs, nd => by
    show storedAllH (storedH xs p.1 p.2.1 p.2.2) ps = _
    have hn : atKey xs p.1 = none := by
      cases e : atKey xs p.1 with
      | none => rfl
      | some q =>
        exfalso
        have hm : ∀ {ys : List (κ × Addr × Value)}, atKey ys p.1 = some q → p.1 ∈ ys.map (·.1) := fun {ys} h => by
          induction ys with
          | nil => simp [atKey] at h
          | cons y ys ih =>
            by_cases c : y.1 = p.1
            · rw [← c]
              simp
            · have h2 : atKey ys p.1 = some q := by simpa [atKey, c] using h
              exact List.mem_cons_of_mem _ (ih h2)
        have m1 := hm e
        rw [List.map_append, List.map_cons] at nd
        exact (List.nodup_append.mp nd).2.2 _ m1 _ List.mem_cons_self rfl
    rw [storedH_new hn]
    have e2 : xs ++ [(p.1, p.2.1, p.2.2)] ++ ps = xs ++ p :: ps := by rw [List.append_assoc]; rfl
    rw [stored_all ps (xs ++ [(p.1, p.2.1, p.2.2)]) (by rw [e2]; exact nd), e2]
end
def rDictT (K : PySem.W.Frag) : List V → Hp → VK → Prop := fun vs H Q => ∃ (a : Addr) (l : List TP), vs = [V.ref a] ∧ SqL K H a (l.map fun x => V.ref x.T) ∧ (∀ x ∈ l, H x.T = some (.tup [.ref x.B, x.v]) ∧ H x.B = some (.tup (x.k.map kV))) ∧ (l.map TP.k).Nodup ∧
  ∀ p, H p = none → Q (.ref p) (upd H p (.dT (l.map fun x => (x.k, x.v))))
theorem cr_dictT {X : Cx} (hc : X.calm = true) (hu : X.A.units + 2 < cLine) : CallR X (.type "dict") (rDictT X.K) := by
  intro pins s σ H vs us Q I r h
  obtain ⟨a, l, rfl, hs, hl, nd, q⟩ := h
  obtain ⟨its, rv, pl, hz⟩ := I.list hs
  rw [Vals.ref1 r]
  obtain ⟨ws, tp⟩ := tps_of I l fun x hx => (hl x hx).1
  have wl := tp.len
  have lits : its = l.map fun x => Value.ref x.T := by
    have e1 : (l.map fun x => V.ref x.T) = (l.map TP.T).map V.ref := by rw [List.map_map]; rfl
    rw [e1] at rv
    rw [refs_at rv, List.map_map]
    rfl
  obtain ⟨o, n, ho, hcl, hd, hdat⟩ := pl
  have pl2 : PlainSeq "list" s.heap a its.toArray := ⟨o, n, ho, hcl, hd, hdat⟩
  have lp : (prs l ws).length = l.length := by
    unfold prs
    rw [List.length_map, List.length_zip, wl, Nat.min_self]
  have lk : (kas l ws).length = l.length := by
    unfold kas
    rw [List.length_map, List.length_zip, wl, Nat.min_self]
  have pi : PairItems s.heap its.toArray (fun j => match l[j]? with | some x => x.T | none => 0) (prs l ws) := by
    refine ⟨by rw [List.size_toArray, lits, List.length_map, lp], fun j k v e => ?_⟩
    obtain ⟨x, e1, e2, rfl, ht, _⟩ := tp.at j k v e
    refine ⟨?_, .inl ?_⟩
    · show its.toArray[j]? = some (.ref (match l[j]? with | some x => x.T | none => 0))
      rw [lits, e1, List.getElem?_toArray, List.getElem?_map, e1]
      rfl
    · show s.heap.IsTuple (match l[j]? with | some x => x.T | none => 0) _
      rw [e1]
      exact ht
  have key : ∀ h' : Heap, (∀ b o, s.heap.get? b = some o → h'.get? b = some o) → ∀ x ∈ kas l ws, (tupleKind (mixKind X.prog X.w)).is h' x.1 x.2.1 := fun h' k x hx => by
    obtain ⟨y, hy, rfl⟩ := List.mem_map.mp hx
    have hy1 : y.1 ∈ l := (List.of_mem_zip (a := y.1) (b := y.2) hy).1
    exact key_of (H := H) (I.hok.kept k) (hl y.1 hy1).2
  refine PySem.call_dict_pairsH (knd := tupleKind (mixKind X.prog X.w)) (ps := kas l ws) (PairArg.list a its.toArray _ (prs l ws)) (I.ok.hd hc) (by show X.A.in1.in1.units < cLine; exact hu) ⟨pl2, pi⟩ ⟨lk.trans lp.symm, fun i x v e => ?_⟩ (fun h' k x hx => key h' (fun b o e => k b o (Nat.ne_of_lt (Heap.lt_size e)) (by simp) e) x hx) ?_ fun h' tk dd k => ?_
  · obtain ⟨y, _, _, rfl, _, e2⟩ := tp.at i x v e
    exact ⟨_, _, e2, rfl⟩
  · rw [lp]
    rw [List.length_map] at hz
    exact hz
  · have e0 : storedAllH [] (kas l ws) = kas l ws := stored_all (kas l ws) [] (by rw [List.nil_append, kas_keys tp]; exact nd)
    rw [e0] at dd
    have k2 : ∀ b o, s.heap.get? b = some o → h'.get? b = some o := fun b o e => k b o (by simp) e
    have hf : H s.heap.objs.size = none := I.hok.fresh (Nat.le_refl _)
    have hm : (s.heap.objs.size == sysModules) = false := beq_eq_false_iff_ne.mpr (Nat.ne_of_gt I.big)
    obtain ⟨od, es, ep, g1, g2, g3, g4, g5, g6⟩ := dd
    refine ⟨.ref s.heap.objs.size, _, I.laid (t' := tk) k2 (Nat.le_refl _) (show ObjOk X.prog X.w _ _ _ (.dT (l.map fun x => (x.k, x.v))) from ⟨?_, hm, kas l ws, ?_, od, es, ep, g1, g2, g3, g4, g6⟩), rfl, q _ hf⟩
    · rw [List.length_map] at hz ⊢
      exact hz
    · exact Paired.mapP (tp.kas_rel fun x hx => (hl x hx).2) fun p z w => ⟨w.1, by rw [upd_ne (ne_of_none w.2.1 hf)]; exact w.2.1, w.2.2⟩
end Sc

namespace Sc
open PySem PySem.Spec PyProof.Rows L2
/-! try: body / except X as n: suite / except .., where the first clause takes what the body raises -/
def wFst (K : PySem.W.Frag) (c : Value) (i : Nat) (ts : Addr → Value → Option Addr → TS) (D : Ends) : WX := fun cls d σ H =>
  PySem.W.exmOne K cls c = some true ∧ ∀ a, H a = none → ts a cls d { nx := fun σ' H' => D.nx (σ'.set i none) H', rt := D.rt, bk := fun σ' H' => D.bk (σ'.set i none) H', ct := fun σ' H' => D.ct (σ'.set i none) H' } (σ.set i (some (.ref a))) H
section
variable {X : Cx} {x n : Str} {c : Value} {i : Nat} {body suite : List Stmt} {b0 : Stmt} {np pos pos' : Pos} {hds : List ExceptHandler} {tb : WX → TS} {ts : Addr → Value → Option Addr → TS}
theorem ps_try_fst (hs : X.stack = X.env :: X.outer) (hf : X.env.frame = some X.env.locals) (hN : X.N.Nodup) (hi : X.N[i]? = some n) (hln : X.env.kindOf n = some .local) (hc : Names X x c)
    (hb : ∀ (W : WX) (pn : List (Addr × Obj)) (xe : Value → Shared → Prop), Takes (X.tr pn xe) W → PassesOwn (model X.prog X.w) X.A X.env xe → PSs (X.tr pn xe) body (tb W))
    (hsu : ∀ (a : Addr) (oe : Obj) (cls : Value) (d : Option Addr) (pn : List (Addr × Obj)), Zc cls d oe → (∃ vs, oe.data = .fields vs) → PSs (X.suite a ((a, oe) :: pn)) (b0 :: suite) (ts a cls d)) :
    PS X (.Try body (.ExceptHandler (some (.Name x np)) (some n) (b0 :: suite) pos' :: hds) [] [] pos) (fun D σ H => tb (wFst X.K c i ts D) D σ H) := by
  refine ⟨fun pins s σ H D I hw => ?_⟩
  have ok := I.ok
  have fr : X.A.frames = some (X.env :: X.outer) := by rw [ok.frames, hs]
  have body' := (hb (wFst X.K c i ts D) (X.pn ++ pins) (fun e s1 => wpAny (model X.prog X.w) X.A (noteFrame e X.env) (fun _ s2 => wpAny (model X.prog X.w) X.A (setFlight e none) (fun _ s3 =>
    wpAny (model X.prog X.w) X.A (handleBy e X.env (.ExceptHandler (some (.Name x np)) (some n) (b0 :: suite) pos' :: hds)) (SP X pins D) X.xe s3) X.xe s2) X.xe s1) (fun u s' xx => ?_) PassesOwn.looking).run [] s σ H D (I.toTry _) hw
  · refine wpAny_Try_except (wpAny_mono body' (fun f s1 hsp => ?_) fun e s1 he => he)
    cases f with
    | next =>
      obtain ⟨σ1, H1, J1, q⟩ := hsp
      exact wpAny_execs_nil ⟨σ1, H1, J1.ofTry ok, q⟩
    | brk =>
      obtain ⟨σ1, H1, J1, q⟩ := hsp
      exact ⟨σ1, H1, J1.ofTry ok, q⟩
    | cont =>
      obtain ⟨σ1, H1, J1, q⟩ := hsp
      exact ⟨σ1, H1, J1.ofTry ok, q⟩
    | ret u =>
      obtain ⟨v, σ1, H1, J1, r, q⟩ := hsp
      exact ⟨v, σ1, H1, J1.ofTry ok, r, q⟩
  · obtain ⟨a, B, sI, pins', σ1, H1, cls, d, rfl, J0, nb, up, sky, na, os, ag, hm, yes⟩ := xx
    have J : Inv X pins σ1 H1 sI := J0.ofTry ok
    have sky1 : Sky B (X.env :: X.outer) a (Zc cls d) X.env.locals s'.heap := by rw [← hs]; exact sky
    show wpAny (model X.prog X.w) X.A (noteFrame (.ref a) X.env) _ _ _
    refine Sky.land Zc.steady fr hf sky1 fun h3 fl3 up3 => ?_
    have J3 : Inv X pins σ1 H1 { s' with heap := h3 } := J.landed nb fl3.1 (up.trans up3) os ag
    obtain ⟨oe3, vs3, he3, hz3, hd3⟩ := fl3.there
    have nfr : a ∉ frs (X.env :: X.outer) := fun m => by
      obtain ⟨_, o', e', no⟩ := fl3.2.2.1.mem m
      rw [he3] at e'
      cases e'
      exact no _ hd3
    have nL : a ≠ X.env.locals := fun z => nfr (List.mem_filterMap.mpr ⟨X.env, List.mem_cons_self, by rw [hf, z]⟩)
    have nF : a ∉ X.fs := fun m => by
      obtain ⟨e, he, q⟩ := List.mem_filterMap.mp m
      exact nfr (List.mem_filterMap.mpr ⟨e, List.mem_cons_of_mem _ he, q⟩)
    have S3 := J3.suite he3 hd3 na nL nF
    refine wpAny_handleBy_cons (codeAny_handlers_test ?_) (by intro q; cases q)
    have LT : PySem.W.Looks (model X.prog X.w) h3 (typeOf (.ref a)) cls := fun A Q E s k q => wpAny_typeOf_ref (k _ _ he3) (by rw [hz3.1]; exact q)
    have LM := PySem.W.exm_one (M := model X.prog X.w) J3.kIn LT hm
    have test : ∀ {Q : Value → Shared → Prop} {E : Value → Shared → Prop}, Q c { s' with heap := h3 } → wpAny (model X.prog X.w) (X.A.mark (some (.ref a))) (eval (.Name x np) X.env) Q E { s' with heap := h3 } := fun {Q E} q => by
      obtain ⟨hg, hdb, h1 | ⟨h1, h2, h3'⟩⟩ := hc
      · exact ld_glob (X := X.suite a ((a, oe3) :: (X.pn ++ pins))) S3 hg h1 q hdb
      · exact ld_blt (X := X.suite a ((a, oe3) :: (X.pn ++ pins))) S3 hg h1 h2 q h3' hdb
    refine test (LM.here (codeAny_handlers_suite_as (HandSPX.lands_againZ fl3 fun h4 fl4 up4 => ?_)))
    have J4 : Inv X pins σ1 H1 { s' with heap := h4 } := J.landed nb fl4.1 ((up.trans up3).trans up4) os ag
    obtain ⟨oe4, vs4, he4, hz4, hd4⟩ := fl4.there
    have S4 := J4.suite he4 hd4 na nL nF
    refine store_ok (X := X.suite a ((a, oe4) :: (X.pn ++ pins))) (v := .ref a) S4 hN hi (.inl hln) rfl (fun s5 S5 => ?_) (.inr hln)
    refine wpAny_mono ((hsu a oe4 cls d (X.pn ++ pins) hz4 ⟨_, hd4⟩).run [] s5 _ H1 _ S5 (yes a na)) (fun f s6 hsp => ?_) fun _ _ z => False.elim z
    have fin : ∀ {σ6 : L2.St} {H6 : Hp} {Q : Shared → Prop}, Inv (X.suite a ((a, oe4) :: (X.pn ++ pins))) [] σ6 H6 s6 → (∀ s7, Inv X pins (σ6.set i none) H6 s7 → Q s7) →
        wpAny (model X.prog X.w) X.A (do bindName X.env n .none; unbindBehindTheSuite X.env n pos') (fun _ s7 => Q s7) X.xe s6 := fun {σ6 H6 Q} S6 hq => gone_ok (S6.unsuite ok) hN hi hln hq
    cases f with
    | next =>
      obtain ⟨σ6, H6, S6, q⟩ := hsp
      exact fin S6 fun s7 J7 => ⟨_, _, J7, q⟩
    | brk =>
      obtain ⟨σ6, H6, S6, q⟩ := hsp
      exact fin S6 fun s7 J7 => ⟨_, _, J7, q⟩
    | cont =>
      obtain ⟨σ6, H6, S6, q⟩ := hsp
      exact fin S6 fun s7 J7 => ⟨_, _, J7, q⟩
    | ret u =>
      obtain ⟨v6, σ6, H6, S6, r, q⟩ := hsp
      exact fin S6 fun s7 J7 => ⟨_, _, _, J7, r, q⟩
/-- isinstance(e, (C1, C2)), e the exception that the suite holds -/
def rIsET (K : PySem.W.Frag) (D a : Addr) : List V → Hp → VK → Prop := fun xs H Q => ∃ (tp : Addr) (cs : List V) (us : List Value) (b : Bool), xs = [.ref a, .ref tp] ∧ H tp = some (.tup cs) ∧ Paired ClsV cs us ∧ PySem.W.kitAny K (.ref D) us = some b ∧ Q (.bl b) H
theorem call_isET {X : Cx} {a D : Addr} {oe : Obj} {pn : List (Addr × Obj)} (C : ExcC X.K D) (hz : Zc (.ref D) none oe) (hf : ∃ vs, oe.data = .fields vs) : CallR (X.suite a ((a, oe) :: pn)) (.builtin "isinstance") (rIsET X.K D a) := by
  intro pins s σ H xs us Q I r h
  obtain ⟨tp, cs, ws, b, rfl, hT, hc, e, q⟩ := h
  obtain ⟨u1, u2, rfl, r1, r2⟩ := vals2 r
  obtain rfl : u1 = Value.ref a := r1
  obtain rfl : u2 = Value.ref tp := r2
  obtain ⟨hget, _⟩ := I.pin (a, oe) (List.mem_append.mpr (.inl List.mem_cons_self))
  obtain ⟨vs, hv⟩ := hf
  have J : PySem.W.InstAt s.heap a oe D none := by
    obtain ⟨oc, od, oda, osl⟩ := oe
    obtain ⟨h1, h2⟩ := hz
    dsimp only at h1 h2 hv
    subst h1 h2 hv
    exact ⟨hget, rfl, rfl, trivial⟩
  obtain ⟨its, rv, ⟨o, ho, hcl, n, hd⟩, _⟩ := I.tuple (SqT.of hT)
  have e2 := ClsV.all hc rv
  subst e2
  obtain ⟨oc, od, odt, osl⟩ := o
  dsimp only at hcl hd
  subst hcl hd
  exact PySem.W.kia_tup (PySem.W.handS_kitx_exc C.hg C.hk C.hs C.hd C.ha C.hn C.ht C.hm) I.kIn J ho e (fun z => nomatch z) fun tk => ⟨.bl b, H, I.kept (t' := tk) fun _ _ z => z, rfl, q⟩
end
end Sc

namespace Sc
open PySem PySem.Spec PyProof.Rows L2
/-! a comprehension, turn by turn, with what stays -/
theorem lc_gwG {J : It} {n : Nat} {G : Hp → Prop} {Y : Nat → Hp → V → Hp → Prop} (w : Walk J n G Y) {g : TG} {te : TE} {vs : List Nat} {σ : L2.St} {F1 H1 : Hp} {D : Addr} {Qd : Hp → Prop} {M : List Addr} (I : Hp → Prop) (Res : Nat → Hp → V → Prop)
    (s1 : Same F1 H1) (hD : H1 D = none) (hM : D ∉ M) (hn : n ≤ 1000) (hI0 : I H1) (hI : ∀ H o, I H → I (upd H D o)) (up : ∀ i F F' v, Same F F' → Res i F v → Res i F' v) (hG : ∀ H, Same F1 H → I H → G H)
    (hs : ∀ i x F H H' (Q : VK), i < n → Gw M F1 H1 F H → Same F1 F → I H → Y i H x H' → (∀ y F4 H4, Gw M F H F4 H4 → I H4 → Res i F4 y → Q y H4) → g x (wipe σ vs) H' fun σ2 H2 => wipe σ2 vs = wipe σ vs ∧ te σ2 H2 Q)
    (hd : ∀ F H acc, Gw M F1 H1 F H → Same F1 F → I H → H D = some (.lst acc) → F D = none → acc.length = n → (∀ (j : Nat) (y : V), acc[j]? = some y → Res j F y) → Qd H) :
    ∃ W : Nat → Nat → Hp → Prop, (∃ m, W 0 m (upd H1 D (.lst []))) ∧ ∀ i m H, W i m H →
      (J.stop i H ∧ Qd H) ∨ (J.go i H ∧ ∃ Nx : Hp → Prop, (∀ H', Nx H' → ∃ m', m' < m ∧ W (i + 1) m' H') ∧ ∀ x H', J.yld i H x H' → g x (wipe σ vs) H' fun σ2 H2 => wipe σ2 vs = wipe σ vs ∧ tYes σ2 H2 fun b H3 =>
        if b = true then te σ2 H3 fun y H4 => ∃ acc, H4 D = some (.lst acc) ∧ acc.length < sizeLine ∧ Nx (upd H4 D (.lst (acc ++ [y]))) else Nx H3) := by
  refine lc_it w (fun i H => ∃ F acc, Gw M F1 H1 F H ∧ Same F1 F ∧ I H ∧ H D = some (.lst acc) ∧ F D = none ∧ acc.length = i ∧ ∀ j y, acc[j]? = some y → Res j F y) ?_ ?_ ?_ ?_
  · refine ⟨F1, [], (Gw.refl s1).pure (same_new hD), Same.refl _, hI _ _ hI0, upd_same .., s1.free hD, rfl, fun j y e => by simp at e⟩
  · rintro i H hi ⟨F, acc, g, s, hIH, _⟩
    exact hG H (s.trans g.sub) hIH
  · rintro i x H H' hi ⟨F, acc, gw, s, hIH, hDa, hFD, hl, hr⟩ hy
    refine hs i x F H H' _ hi gw s hIH hy fun y F4 H4 g4 hI4 r4 => ?_
    refine ⟨acc, g4.keep _ _ hDa hM, Nat.lt_of_le_of_lt (Nat.le_trans (by omega : acc.length ≤ 1000) (by decide : (1000 : Nat) ≤ 1000)) (by decide), F4, acc ++ [y], ?_, s.trans g4.fs, hI _ _ hI4, upd_same .., g4.out hDa hFD, by rw [List.length_append, hl]; rfl, fun j z e => ?_⟩
    · exact (gw.callM g4).put (.inl hD) (g4.out hDa hFD) (g4.keep _ _ hDa hM)
    · rcases Nat.lt_or_ge j acc.length with hj | hj
      · rw [List.getElem?_append_left hj] at e
        exact up _ _ _ _ g4.fs (hr j z e)
      · rw [List.getElem?_append_right hj] at e
        have hj2 : j - acc.length = 0 := by
          rcases Nat.eq_zero_or_pos (j - acc.length) with q | q
          · exact q
          · rw [List.getElem?_eq_none (by simp; omega)] at e
            cases e
        rw [hj2] at e
        have e2 : y = z := by simpa using e
        have e3 : j = i := by omega
        rw [← e2, e3]
        exact r4
  · rintro H ⟨F, acc, gw, s, hIH, hDa, hFD, hl, hr⟩
    exact hd F H acc gw s hIH hDa hFD hl hr
theorem lc_gwI {J : It} {n : Nat} {G : Hp → Prop} {Y : Nat → Hp → V → Hp → Prop} (w : Walk J n G Y) {g : TG} {te : TE} {vs : List Nat} {σ : L2.St} {F1 H1 : Hp} {D : Addr} {Qd : Hp → Prop} {M : List Addr} (I : Hp → Prop) (Res : Nat → Hp → V → Prop)
    (s1 : Same F1 H1) (hD : H1 D = none) (hM : D ∉ M) (hn : n ≤ 1000) (hI0 : I H1) (hI : ∀ H o, I H → I (upd H D o)) (up : ∀ i F F' v, Same F F' → Res i F v → Res i F' v) (hG : ∀ H, Same F1 H → I H → G H)
    (hs : ∀ i x F H H' (Q : VK), i < n → Same F H → Same F1 F → I H → Y i H x H' → (∀ y F4 H4, Gw M F H F4 H4 → I H4 → Res i F4 y → Q y H4) → g x (wipe σ vs) H' fun σ2 H2 => wipe σ2 vs = wipe σ vs ∧ te σ2 H2 Q)
    (hd : ∀ F H acc, Gw M F1 H1 F H → Same F1 F → I H → H D = some (.lst acc) → F D = none → acc.length = n → (∀ (j : Nat) (y : V), acc[j]? = some y → Res j F y) → Qd H) :
    ∃ W : Nat → Nat → Hp → Prop, (∃ m, W 0 m (upd H1 D (.lst []))) ∧ ∀ i m H, W i m H →
      (J.stop i H ∧ Qd H) ∨ (J.go i H ∧ ∃ Nx : Hp → Prop, (∀ H', Nx H' → ∃ m', m' < m ∧ W (i + 1) m' H') ∧ ∀ x H', J.yld i H x H' → g x (wipe σ vs) H' fun σ2 H2 => wipe σ2 vs = wipe σ vs ∧ tYes σ2 H2 fun b H3 =>
        if b = true then te σ2 H3 fun y H4 => ∃ acc, H4 D = some (.lst acc) ∧ acc.length < sizeLine ∧ Nx (upd H4 D (.lst (acc ++ [y]))) else Nx H3) :=
  lc_gwG w I Res s1 hD hM hn hI0 hI up hG (fun i x F H H' Q hi g => hs i x F H H' Q hi g.sub) hd
theorem lc_gw {J : It} {n : Nat} {G : Hp → Prop} {Y : Nat → Hp → V → Hp → Prop} (w : Walk J n G Y) {g : TG} {te : TE} {vs : List Nat} {σ : L2.St} {F1 H1 : Hp} {D : Addr} {Qd : Hp → Prop} {M : List Addr} (I : Hp → Prop) (Res : Nat → Hp → V → Prop)
    (s1 : Same F1 H1) (hD : H1 D = none) (hM : D ∉ M) (hn : n ≤ 1000) (hI0 : I H1) (hI : ∀ H o, I H → I (upd H D o)) (up : ∀ i F F' v, Same F F' → Res i F v → Res i F' v) (hG : ∀ H, Same F1 H → G H)
    (hs : ∀ i x F H H' (Q : VK), i < n → Same F H → Same F1 F → I H → Y i H x H' → (∀ y F4 H4, Gw M F H F4 H4 → I H4 → Res i F4 y → Q y H4) → g x (wipe σ vs) H' fun σ2 H2 => wipe σ2 vs = wipe σ vs ∧ te σ2 H2 Q)
    (hd : ∀ F H acc, Gw M F1 H1 F H → Same F1 F → I H → H D = some (.lst acc) → F D = none → acc.length = n → (∀ (j : Nat) (y : V), acc[j]? = some y → Res j F y) → Qd H) :
    ∃ W : Nat → Nat → Hp → Prop, (∃ m, W 0 m (upd H1 D (.lst []))) ∧ ∀ i m H, W i m H →
      (J.stop i H ∧ Qd H) ∨ (J.go i H ∧ ∃ Nx : Hp → Prop, (∀ H', Nx H' → ∃ m', m' < m ∧ W (i + 1) m' H') ∧ ∀ x H', J.yld i H x H' → g x (wipe σ vs) H' fun σ2 H2 => wipe σ2 vs = wipe σ vs ∧ tYes σ2 H2 fun b H3 =>
        if b = true then te σ2 H3 fun y H4 => ∃ acc, H4 D = some (.lst acc) ∧ acc.length < sizeLine ∧ Nx (upd H4 D (.lst (acc ++ [y]))) else Nx H3) :=
  lc_gwI w I Res s1 hD hM hn hI0 hI up (fun H s _ => hG H s) hs hd
/-- a tuple as a block's target: the code's own K -/
theorem pg_tupK {X : Cx} {K0 : PySem.W.Frag} {es : List Expr} {k : Nat} {pos : Pos} {t : TGs} {n : Nat} (hK : X.K = K0) (hc : X.calm = true) (h : PGs X es t) (hn : (assignEach es X.env).length = n := by rfl) (hs : (assignEach es X.env).findIdx? (·.1) = none := by rfl) :
    PG X (.Tuple es k pos) (gTup K0 n t) := by
  subst hK
  exact pg_tup hc h hn hs
theorem ix_tupK {X : Cx} {K0 : PySem.W.Frag} (h : X.K = K0) : IxR X (rIxT K0) := by
  subst h
  exact ix_tup
theorem ix_listK {X : Cx} {K0 : PySem.W.Frag} (h : X.K = K0) : IxR X (rIxL K0) := by
  subst h
  exact ix_list
theorem rv_ref (a : Addr) : L2.RelV (.ref a) (.ref a) := rfl
section
variable {K : PySem.W.Frag} {F : Hp}
theorem DpAll_of : ∀ {vs : List V} {ds : List PyData}, vs.length = ds.length → (∀ (j : Nat) (y : V) (d : PyData), vs[j]? = some y → ds[j]? = some d → Dp K F y d) → DpAll K F vs ds
  | [], [], _, _ => .nil
  | v :: vs, d :: ds, hl, h => .cons (h 0 v d rfl rfl) (DpAll_of (by simpa using hl) fun j y d e1 e2 => h (j + 1) y d (by simpa using e1) (by simpa using e2))
theorem all_true {vs : List V} (h : ∀ (j : Nat) (y : V), vs[j]? = some y → y = .bl true) : vs = (List.replicate vs.length true).map V.bl := by
  apply List.ext_getElem?
  intro j
  rcases Nat.lt_or_ge j vs.length with q | q
  · have e := List.getElem?_eq_getElem q
    rw [h j _ e] at e
    rw [e]
    simp [List.getElem?_map, List.getElem?_replicate, q]
  · rw [List.getElem?_eq_none q, List.getElem?_eq_none (by simpa using q)]
end
/-- one by one -/
structure Al {α β : Type} (R : α → β → Prop) (xs : List α) (ys : List β) : Prop where
  len : xs.length = ys.length
  rel : ∀ (i : Nat) (x : α) (y : β), xs[i]? = some x → ys[i]? = some y → R x y
namespace Al
variable {α β : Type} {R S : α → β → Prop} {xs : List α} {ys : List β}
theorem mono (h : Al R xs ys) (f : ∀ x y, R x y → S x y) : Al S xs ys := ⟨h.len, fun i x y e1 e2 => f x y (h.rel i x y e1 e2)⟩
theorem at1 (h : Al R xs ys) {i : Nat} {x : α} (e : xs[i]? = some x) : ∃ y, ys[i]? = some y ∧ R x y := by
  have hl := (List.getElem?_eq_some_iff.mp e).1
  rw [h.len] at hl
  exact ⟨ys[i], List.getElem?_eq_getElem hl, h.rel i x _ e (List.getElem?_eq_getElem hl)⟩
theorem at2 (h : Al R xs ys) {i : Nat} {y : β} (e : ys[i]? = some y) : ∃ x, xs[i]? = some x ∧ R x y := by
  have hl := (List.getElem?_eq_some_iff.mp e).1
  rw [← h.len] at hl
  exact ⟨xs[i], List.getElem?_eq_getElem hl, h.rel i _ y (List.getElem?_eq_getElem hl) e⟩
theorem nil : Al R [] [] := ⟨rfl, fun i x y e => by simp at e⟩
theorem snoc {x : α} {y : β} (h : Al R xs ys) (r : R x y) : Al R (xs ++ [x]) (ys ++ [y]) := by
  refine ⟨by simp [h.len], fun i a b e1 e2 => ?_⟩
  rcases Nat.lt_or_ge i xs.length with q | q
  · rw [List.getElem?_append_left q] at e1
    rw [List.getElem?_append_left (by rw [← h.len]; exact q)] at e2
    exact h.rel i a b e1 e2
  · rw [List.getElem?_append_right q] at e1
    rw [List.getElem?_append_right (by rw [← h.len]; exact q)] at e2
    rw [← h.len] at e2
    rcases Nat.eq_zero_or_pos (i - xs.length) with z | z
    · rw [z] at e1 e2
      have e1 : x = a := by simpa using e1
      have e2 : y = b := by simpa using e2
      rw [← e1, ← e2]
      exact r
    · rw [List.getElem?_eq_none (by simp; omega)] at e1
      cases e1
end Al
theorem DpAll_al {K : PySem.W.Frag} {F : Hp} {vs : List V} {ds : List PyData} (h : Al (Dp K F) vs ds) : DpAll K F vs ds := DpAll_of h.len h.rel
theorem Al_dp {K : PySem.W.Frag} {F : Hp} {vs : List V} {ds : List PyData} (h : DpAll K F vs ds) : Al (Dp K F) vs ds := ⟨h.len, fun i x y e1 e2 => by
  obtain ⟨d, e3, r⟩ := h.at e1
  rw [e2] at e3
  cases e3
  exact r⟩
end Sc

namespace Sc
open PySem PySem.Spec PyProof.Rows L2
def big : Int := 1000000000000000
structure OkFr (p : Int × Int) : Prop where
  t0 : 0 ≤ p.1
  t1 : p.1 ≤ big
  b0 : 1 ≤ p.2
  b1 : p.2 ≤ big
  g : Int.gcd p.1 p.2 = 1
theorem OkFr.mom {p : Int × Int} (h : OkFr p) : isMom (frD p) = true := by
  show (decide (1 ≤ p.2) && decide (Int.gcd p.1 p.2 = 1) && decide (0 ≤ p.1)) = true
  rw [decide_eq_true h.b0, decide_eq_true h.g, decide_eq_true h.t0]
  rfl
theorem OkFr.frac {p : Int × Int} (h : OkFr p) : isFrac (frD p) = true := by
  show (decide (1 ≤ p.2) && decide (Int.gcd p.1 p.2 = 1)) = true
  rw [decide_eq_true h.b0, decide_eq_true h.g]
  rfl
theorem OkFr.bnd {p : Int × Int} (h : OkFr p) : -(2 ^ 64) < p.2 ∧ p.2 < 2 ^ 64 := by
  have := h.b0
  have := h.b1
  unfold big at *
  omega
theorem fl_fr (p : Int × Int) : FracLike (frD p) := .inr (.inr (.inr (.inr ⟨[p.1, p.2], rfl⟩)))
structure OkEdit (e : EditD) : Prop where
  span : OkFr e.span
  pos : 0 < e.span.1
  rate : OkFr e.rate
  some : ∀ s, e.start = some s → OkFr s
  non : e.start = none → e.rate = (0, 1)
section
variable {P : Program} {w : World} {K : PySem.W.Frag} {mg : Str → Option Value} {base : Heap}
theorem dp_nought (T : Ts K mg) (H : Hp) : Dp K H (.ref (He.ga K "NOUGHT")) (frD (0, 1)) := .tup (T.e.ngt H) (.cons (.int 0) (.cons (.int 1) .nil))
theorem map_at {α β : Type} {f : α → β} {l : List α} {i : Nat} {d : β} (h : (l.map f)[i]? = some d) : ∃ e, l[i]? = some e ∧ f e = d := by
  rw [List.getElem?_map] at h
  cases e : l[i]? with
  | none => rw [e] at h; cases h
  | some x => rw [e] at h; exact ⟨x, rfl, Option.some.inj h⟩
def sp_is_whole : Sp := fun vs H Q _ => ∃ i lo hi : Int, vs = [.int i, .int lo, .int hi] ∧ lo ≤ i ∧ i ≤ hi ∧ Q (.bl true) H
def sp_is_edit (K : PySem.W.Frag) : Sp := fun vs H Q _ => ∃ (v : V) (e : EditD), vs = [v] ∧ Dp K H v e.dat ∧ OkEdit e ∧ Q (.bl true) H
def sp_is_edits (K : PySem.W.Frag) : Sp := fun vs H Q _ => ∃ (v : V) (es : List EditD) (F : Hp), vs = [v] ∧ Same F H ∧ Dp K F v (.list (es.map EditD.dat)) ∧ es.length ≤ 60 ∧ (∀ e, e ∈ es → OkEdit e) ∧ ∀ H', Same H H' → Q (.bl true) H'
def sp_is_small (K : PySem.W.Frag) : Sp := fun vs H Q _ => ∃ (v : V) (e : EditD), vs = [v] ∧ Dp K H v e.dat ∧ OkEdit e ∧ ∀ H', Same H H' → Q (.bl true) H'
abbrev sp_are_lane_edits : PySem.W.Frag → Sp := sp_is_edits
def sp_sure_moment (K : PySem.W.Frag) : Sp := fun vs H Q _ => ∃ (v : V) (p : Int × Int), vs = [v] ∧ Dp K H v (frD p) ∧ OkFr p ∧ Q .non H
abbrev N_is_whole : List Str := ["thing", "low", "high"]
theorem sc_is_whole : FnScope N_is_whole ["thing", "low", "high"] (defScope s_is_whole) := ⟨rfl, rfl, rfl, by decide +kernel, rfl, by decide +kernel, by decide +kernel⟩
theorem ok_is_whole (T : Ts K mg) : C8.Cal P w K mg base 1 "is_whole" sp_is_whole [] := by
  refine cal_of T.f_is_whole T.g_is_whole sc_is_whole (fun vs H Q E h => ?_) (fun _ _ _ _ _ _ us hl => match us, hl with | [_, _, _], _ => rfl) (fun cdv A outer s H vs Q E hr h => ⟨_, (pss_one (ps_ret (pe_and (pe_callB call_isi (by rfl) T.m_isinstance (by decide +kernel) (pa_cons (pv 0) (pa_cons (pe_bltn (v := .ty "int") (by rfl) T.m_int (by decide +kernel) rfl) pa_nil))) (pe_and (pe_not (pe_callB call_isi (by rfl) T.m_isinstance (by decide +kernel) (pa_cons (pv 0) (pa_cons (pe_bltn (v := .ty "bool") (by rfl) T.m_bool (by decide +kernel) rfl) pa_nil)))) (pe_one (pe_chain op_le op_le (pv 1) (pv 0) (pv 2))))))), ?_⟩)
  · obtain ⟨i, lo, hi, rfl, _⟩ := h
    rfl
  · obtain ⟨i, lo, hi, rfl, h1, h2, q⟩ := h
    refine ⟨_, rfl, _, _, _, _, true, rfl, .ty _, dp_ty (.int i), kb_int_int, true, rfl, iteT ⟨_, rfl, _, _, _, _, false, rfl, .ty _, dp_ty (.int i), kb_int_bool, false, rfl, true, rfl, iteT ?_⟩⟩
    refine ⟨_, rfl, _, rfl, _, _, rfl, rfl, _, rfl, ?_⟩
    rw [decide_eq_true h1]
    refine iteT ⟨_, rfl, _, _, rfl, rfl, ?_⟩
    show Q (.bl (decide (i ≤ hi))) H
    rw [decide_eq_true h2]
    exact q
abbrev N_is_edit : List Str := ["thing", "span", "start", "rate"]
theorem sc_is_edit : FnScope N_is_edit ["thing"] (defScope s_is_edit) := ⟨rfl, rfl, rfl, by decide +kernel, rfl, by decide +kernel, by decide +kernel⟩
theorem ok_is_edit (T : Ts K mg) (c_is_fraction : C8.Cal P w K mg base 2 "is_fraction" (sp_is_fraction K) []) (c_is_moment : C8.Cal P w K mg base 3 "is_moment" (sp_is_moment K) []) (c_less : C8.Cal P w K mg base 1 "less" (sp_less K) []) : C8.Cal P w K mg base 4 "is_edit" (sp_is_edit K) [] := by
  refine cal_of T.f_is_edit T.g_is_edit sc_is_edit (fun vs H Q E h => ?_) (fun _ _ _ _ _ _ us hl => match us, hl with | [_], _ => rfl) (fun cdv A outer s H vs Q E hr h => ⟨_, (pss_cons (ps_if (PW.pt (pw_or (pt_not (pt_val (pe_callB call_isi (by rfl) T.m_isinstance (by decide +kernel) (pa_cons (pv 0) (pa_cons (pe_bltn (v := .ty "tuple") (by rfl) T.m_tuple (by decide +kernel) rfl) pa_nil))))) (pw_or1 (pt_cmpR op_ne (pe_callB call_len (by rfl) T.m_len PySem.boot_len (pa_cons (pv 0) pa_nil)) pe_int (nomark _))))) (pss_one (ps_ret pe_bl)) pss_nil)
      (pss_cons (ps_asg (pv 0) (pg_tup rfl (pgs_cons (pg_name (i := 1) sc_is_edit.nd rfl (Or.inl rfl)) (pgs_cons (pg_name (i := 2) sc_is_edit.nd rfl (Or.inl rfl)) (pgs_cons (pg_name (i := 3) sc_is_edit.nd rfl (Or.inl rfl)) pgs_nil)))))
      (pss_cons (ps_if (PW.pt (pw_or (pt_not (pt_val (C8.pe_c c_is_fraction hr (by decide) (by rfl) (pa_cons (pv 1) pa_nil)))) (pw_or (pt_not (pt_val (C8.pe_c c_less hr (by decide) (by rfl) (pa_cons (pe_glob (by rfl) T.g_NOUGHT (rv_ref (He.ga K "NOUGHT"))) (pa_cons (pv 1) pa_nil))))) (pw_or1 (pt_not (pt_val (C8.pe_c c_is_moment hr (by decide) (by rfl) (pa_cons (pv 3) pa_nil)))))))) (pss_one (ps_ret pe_bl)) pss_nil)
      (pss_cons (ps_if (pt_cmpR op_isN (pv 2) pe_non (nomark _)) (pss_one (ps_ret (pe_cmpR (op_eqD hr.units) (pv 3) (pe_glob (by rfl) T.g_NOUGHT (rv_ref (He.ga K "NOUGHT"))) (nomark _)))) pss_nil)
      (pss_one (ps_ret (C8.pe_c c_is_moment hr (by decide) (by rfl) (pa_cons (pv 2) pa_nil)))))))), ?_⟩)
  · obtain ⟨v, e, rfl, _⟩ := h
    rfl
  · obtain ⟨v, e, rfl, hv, ok, q⟩ := h
    refine ⟨_, rfl, _, _, _, _, true, rfl, .ty _, dp_ty hv, kb_tuple_tuple, true, rfl, iteF ?_⟩
    obtain ⟨a, xs, rfl, h1, h2⟩ := hv.tupE
    obtain ⟨v1, _, rfl, e1, h2⟩ := h2.consE
    obtain ⟨v2, _, rfl, e2, h2⟩ := h2.consE
    obtain ⟨v3, _, rfl, e3, h2⟩ := h2.consE
    cases h2.nilE
    refine ⟨_, rfl, _, _, rfl, .inr ⟨_, h1, rfl⟩, rfl, false, rfl, iteF ?_⟩
    refine ⟨_, rfl, _, _, rfl, h1, rfl, _, _, rfl, _, _, rfl, _, _, rfl, rfl, ?_⟩
    refine ⟨_, rfl, _, _, rfl, e1, fl_fr _, _, rfl, ?_⟩
    rw [ok.span.frac]
    refine iteF ⟨_, rfl, _, _, _, _, rfl, dp_nought T H, e1, (by decide), ok.span.bnd, _, rfl, ?_⟩
    rw [show (decide ((0 : Int) * e.span.2 < e.span.1 * 1)) = true from decide_eq_true (by have := ok.pos; omega)]
    refine iteF ⟨_, rfl, _, _, rfl, e3, fl_fr _, _, rfl, ?_⟩
    rw [ok.rate.mom]
    refine iteF ?_
    obtain ⟨sp, st, rt⟩ := e
    cases st with
    | none =>
      cases e2.nonE
      refine ⟨_, rfl, rfl, _, rfl, iteT ⟨_, rfl, _, _, e3, dp_nought T H, rfl, rfl, ?_⟩⟩
      rw [show rt = (0, 1) from ok.non rfl]
      exact q
    | some p =>
      obtain ⟨b, rfl, _⟩ := e2.frE
      refine ⟨_, rfl, rfl, _, rfl, iteF ⟨_, rfl, _, _, rfl, e2, fl_fr _, ?_⟩⟩
      rw [show isMom (startD (some p)) = true from (ok.some p rfl).mom]
      exact q
abbrev N_is_edits : List Str := ["thing", "edit"]
theorem sc_is_edits : FnScope N_is_edits ["thing"] (defScope s_is_edits) := ⟨rfl, rfl, rfl, by decide +kernel, rfl, by decide +kernel, by decide +kernel⟩
theorem ok_is_edits (T : Ts K mg) (c_is_edit : C8.Cal P w K mg base 4 "is_edit" (sp_is_edit K) []) : C8.Cal P w K mg base 5 "is_edits" (sp_is_edits K) [] := by
  refine cal_of T.f_is_edits T.g_is_edits sc_is_edits (fun vs H Q E h => ?_) (fun _ _ _ _ _ _ us hl => match us, hl with | [_], _ => rfl) (fun cdv A outer s H vs Q E hr h => ⟨_, (pss_one (ps_ret (pe_and (pe_callB call_isi (by rfl) T.m_isinstance (by decide +kernel) (pa_cons (pv 0) (pa_cons (pe_bltn (v := .ty "list") (by rfl) T.m_list (by decide +kernel) rfl) pa_nil))) (pe_one (pe_callB (cr_all rfl) (by rfl) T.m_all (by decide +kernel) (pa_cons (pe_lc (own := [("edit", 1)]) rfl sc_is_edits.nd (pi_list (pv 0)) (blkOk_by (N := N_is_edits) (sc := defScope s_is_edits) (by decide +kernel)) (fun _ _ _ _ _ => (pg_name (i := 1) sc_is_edits.nd rfl (Or.inl rfl))) (fun _ _ _ _ _ => pts_nil) (fun _ _ _ _ _ => (C8.pe_c c_is_edit hr (by decide) (by rfl) (pa_cons (pv 1) pa_nil)))) pa_nil)))))), ?_⟩)
  · obtain ⟨v, e, F, rfl, _⟩ := h
    rfl
  · obtain ⟨v, es, F, rfl, sF, hv, hn, ok, q⟩ := h
    refine ⟨_, rfl, _, _, _, _, true, rfl, .ty _, dp_ty (hv.up sF), kb_list_list, true, rfl, iteT ?_⟩
    obtain ⟨a, xs, rfl, h1, h2⟩ := hv.lstE
    have hl := h2.len
    rw [List.length_map] at hl
    refine ⟨_, rfl, a, rfl, ⟨xs, sF.seq h1⟩, fun D hD => ?_⟩
    refine lc_gw (M := []) (F1 := F) walk_list (fun _ => True) (fun _ _ v => v = .bl true) sF hD (by simp) (by omega) trivial (fun _ _ _ => trivial) (fun _ _ _ _ _ h => h) (fun H s => s.seq h1) ?_ ?_
    · rintro i x F' H' _ Q' hi sub fs _ ⟨rfl, hx⟩ k
      obtain ⟨d, hd, dp⟩ := (h2.up (fs.trans sub)).at hx
      obtain ⟨e, he, rfl⟩ := map_at hd
      refine ⟨rfl, _, rfl, _, e, rfl, dp, ok e (List.mem_of_getElem? he), ?_⟩
      exact k _ F' _ (Gw.refl sub) trivial rfl
    · intro F' H' acc gw fs _ hDa hFD hlen hres
      refine ⟨D, _, rfl, .inl (.inl (all_true hres ▸ hDa)), ?_⟩
      rw [show (List.replicate acc.length true).all id = true by simp]
      exact q H' gw.same
theorem big_le {m : Int} (h : m ≤ big) : decide (m ≤ (10 : Int) ^ (30 : Int).toNat) = true := decide_eq_true (Int.le_trans h (by decide +kernel))
abbrev N_is_small : List Str := ["edit", "span", "start", "rate"]
theorem sc_is_small : FnScope N_is_small ["edit"] (defScope s_is_small) := ⟨rfl, rfl, rfl, by decide +kernel, rfl, by decide +kernel, by decide +kernel⟩
theorem ok_is_small (T : Ts K mg) : C8.Cal P w K mg base 1 "is_small" (sp_is_small K) [] := by
  refine cal_of T.f_is_small T.g_is_small sc_is_small (fun vs H Q E h => ?_) (fun _ _ _ _ _ _ us hl => match us, hl with | [_], _ => rfl) (fun cdv A outer s H vs Q E hr h => ⟨_, (pss_cons (ps_asg (pv 0) (pg_tup rfl (pgs_cons (pg_name (i := 1) sc_is_small.nd rfl (Or.inl rfl)) (pgs_cons (pg_name (i := 2) sc_is_small.nd rfl (Or.inl rfl)) (pgs_cons (pg_name (i := 3) sc_is_small.nd rfl (Or.inl rfl)) pgs_nil)))))
      (pss_cons (ps_if (pt_cmpR op_isN (pv 2) pe_non (nomark _)) (pss_one (ps_ret (pe_cmpR op_le (pe_callB (cr_maxT rfl) (by rfl) T.m_max (by decide +kernel) (pa_cons (pv 1) pa_nil)) (pe_op op_pow pe_int pe_int) (nomark _)))) pss_nil)
      (pss_one (ps_ret (pe_cmpR op_le (pe_callB (cr_maxT rfl) (by rfl) T.m_max (by decide +kernel) (pa_cons (pe_op op_catT (pe_op op_catT (pv 1) (pv 2)) (pv 3)) pa_nil)) (pe_op op_pow pe_int pe_int) (nomark _)))))), ?_⟩)
  · obtain ⟨v, e, rfl, _⟩ := h
    rfl
  · obtain ⟨v, e, rfl, hv, ok, q⟩ := h
    obtain ⟨a, xs, rfl, h1, h2⟩ := hv.tupE
    obtain ⟨v1, _, rfl, e1, h2⟩ := h2.consE
    obtain ⟨v2, _, rfl, e2, h2⟩ := h2.consE
    obtain ⟨v3, _, rfl, e3, h2⟩ := h2.consE
    cases h2.nilE
    obtain ⟨sp, st, rt⟩ := e
    obtain ⟨a1, rfl, t1⟩ := e1.frE
    obtain ⟨a3, rfl, t3⟩ := e3.frE
    refine ⟨_, rfl, _, _, rfl, h1, rfl, _, _, rfl, _, _, rfl, _, _, rfl, rfl, ?_⟩
    cases st with
    | none =>
      cases e2.nonE
      refine ⟨_, rfl, rfl, _, rfl, iteT ⟨_, rfl, a1, [sp.1, sp.2], rfl, t1, (by simp), fun m hm => ⟨_, _, rfl, rfl, ⟨by decide, by decide, by decide⟩, _, _, rfl, rfl, ?_⟩⟩⟩
      show Q (.bl (decide (m ≤ (10 : Int) ^ (30 : Int).toNat))) _
      rw [big_le (by
        have h1 := ok.span.t1
        have h2 := ok.span.b1
        simp only [List.mem_cons, List.not_mem_nil, or_false] at hm
        rcases hm with rfl | rfl
        · exact h1
        · exact h2)]
      exact q _ (Same.refl _)
    | some p =>
      obtain ⟨a2, rfl, t2⟩ := e2.frE
      refine ⟨_, rfl, rfl, _, rfl, iteF ⟨_, rfl, _, rfl, _, _, _, _, rfl, rfl, t1, t2, (by simp), (by show 4 ≤ sizeLine; decide), (fun z => by cases z), fun _ p1 hp1 => ⟨_, rfl, _, _, _, _, rfl, rfl, .of (upd_same ..), Same.tup (same_new hp1) t3, (by simp), (by show 6 ≤ sizeLine; decide), (fun z => by cases z), fun _ p2 hp2 => ⟨p2, [sp.1, sp.2, p.1, p.2, rt.1, rt.2], rfl, .of (upd_same ..), (by simp), fun m hm => ⟨_, _, rfl, rfl, ⟨by decide, by decide, by decide⟩, _, _, rfl, rfl, ?_⟩⟩⟩⟩⟩
      show Q (.bl (decide (m ≤ (10 : Int) ^ (30 : Int).toNat))) _
      rw [big_le (by
        have h1 := ok.span.t1
        have h2 := ok.span.b1
        have h3 := (ok.some p rfl).t1
        have h4 := (ok.some p rfl).b1
        have h5 := ok.rate.t1
        have h6 := ok.rate.b1
        simp only [List.mem_cons, List.not_mem_nil, or_false] at hm
        rcases hm with rfl | rfl | rfl | rfl | rfl | rfl <;> assumption)]
      exact q _ ((same_new hp1).trans (same_new hp2))
abbrev N_are_lane_edits : List Str := ["thing", "edit"]
theorem sc_are_lane_edits : FnScope N_are_lane_edits ["thing"] (defScope s_are_lane_edits) := ⟨rfl, rfl, rfl, by decide +kernel, rfl, by decide +kernel, by decide +kernel⟩
theorem ok_are_lane_edits (T : Ts K mg) (c_is_edits : C8.Cal P w K mg base 5 "is_edits" (sp_is_edits K) []) (c_is_small : C8.Cal P w K mg base 1 "is_small" (sp_is_small K) []) : C8.Cal P w K mg base 6 "are_lane_edits" (sp_are_lane_edits K) [] := by
  refine cal_of T.f_are_lane_edits T.g_are_lane_edits sc_are_lane_edits (fun vs H Q E h => ?_) (fun _ _ _ _ _ _ us hl => match us, hl with | [_], _ => rfl) (fun cdv A outer s H vs Q E hr h => ⟨_, (pss_cons (ps_if (PW.pt (pw_or (pt_not (pt_val (pe_callB call_isi (by rfl) T.m_isinstance (by decide +kernel) (pa_cons (pv 0) (pa_cons (pe_bltn (v := .ty "list") (by rfl) T.m_list (by decide +kernel) rfl) pa_nil))))) (pw_or (pt_cmpR op_gt (pe_callB call_len (by rfl) T.m_len PySem.boot_len (pa_cons (pv 0) pa_nil)) pe_int (nomark _)) (pw_or1 (pt_not (pt_val (C8.pe_c c_is_edits hr (by decide) (by rfl) (pa_cons (pv 0) pa_nil)))))))) (pss_one (ps_ret pe_bl)) pss_nil)
      (pss_one (ps_ret (pe_callB (cr_all rfl) (by rfl) T.m_all (by decide +kernel) (pa_cons (pe_lc (own := [("edit", 1)]) rfl sc_are_lane_edits.nd (pi_list (pv 0)) (blkOk_by (N := N_are_lane_edits) (sc := defScope s_are_lane_edits) (by decide +kernel)) (fun _ _ _ _ _ => (pg_name (i := 1) sc_are_lane_edits.nd rfl (Or.inl rfl))) (fun _ _ _ _ _ => pts_nil) (fun _ _ _ _ _ => (C8.pe_c c_is_small hr (by decide) (by rfl) (pa_cons (pv 1) pa_nil)))) pa_nil))))), ?_⟩)
  · obtain ⟨v, e, F, rfl, _⟩ := h
    rfl
  · obtain ⟨v, es, F, rfl, sF, hv, hn, ok, q⟩ := h
    refine ⟨_, rfl, _, _, _, _, true, rfl, .ty _, dp_ty (hv.up sF), kb_list_list, true, rfl, iteF ?_⟩
    obtain ⟨a, xs, rfl, h1, h2⟩ := id hv.lstE
    have hl := h2.len
    rw [List.length_map] at hl
    refine ⟨_, rfl, _, _, rfl, .inl ⟨_, sF.seq h1, rfl⟩, _, _, rfl, rfl, _, rfl, ?_⟩
    rw [decide_eq_false (show ¬ ((60 : Int) < (xs.length : Nat)) by omega)]
    refine iteF ⟨_, rfl, _, es, F, rfl, sF, hv, hn, ok, fun H1 s1 => ⟨_, rfl, iteF ?_⟩⟩
    have sF1 := sF.trans s1
    refine ⟨_, rfl, a, rfl, ⟨xs, sF1.seq h1⟩, fun D hD => ?_⟩
    refine lc_gw (M := []) (F1 := F) walk_list (fun _ => True) (fun _ _ v => v = .bl true) sF1 hD (by simp) (by omega) trivial (fun _ _ _ => trivial) (fun _ _ _ _ _ h => h) (fun H s => s.seq h1) ?_ ?_
    · rintro i x F' H' _ Q' hi sub fs _ ⟨rfl, hx⟩ k
      obtain ⟨d, hd, dp⟩ := (h2.up (fs.trans sub)).at hx
      obtain ⟨e, he, rfl⟩ := map_at hd
      refine ⟨rfl, _, rfl, _, e, rfl, dp, ok e (List.mem_of_getElem? he), fun H2 s2 => ?_⟩
      exact k _ F' _ ((Gw.refl sub).pure s2) trivial rfl
    · intro F' H' acc gw fs _ hDa hFD hlen hres
      refine ⟨D, _, rfl, .inl (.inl (all_true hres ▸ hDa)), ?_⟩
      rw [show (List.replicate acc.length true).all id = true by simp]
      exact q H' (s1.trans gw.same)
abbrev N_sure_moment : List Str := ["thing"]
theorem sc_sure_moment : FnScope N_sure_moment ["thing"] (defScope s_sure_moment) := ⟨rfl, rfl, rfl, by decide +kernel, rfl, by decide +kernel, by decide +kernel⟩
theorem ok_sure_moment (T : Ts K mg) (c_is_moment : C8.Cal P w K mg base 3 "is_moment" (sp_is_moment K) []) : C8.Cal P w K mg base 4 "sure_moment" (sp_sure_moment K) [] := by
  refine cal_of T.f_sure_moment T.g_sure_moment sc_sure_moment (fun vs H Q E h => ?_) (fun _ _ _ _ _ _ us hl => match us, hl with | [_], _ => rfl) (fun cdv A outer s H vs Q E hr h => ⟨_, (pss_one (ps_if (pt_not (pt_val (C8.pe_c c_is_moment hr (by decide) (by rfl) (pa_cons (pv 0) pa_nil)))) (pss_one ps_never) pss_nil)), ?_⟩)
  · obtain ⟨v, p, rfl, _⟩ := h
    rfl
  · obtain ⟨v, p, rfl, hv, ok, q⟩ := h
    refine ⟨_, rfl, _, _, rfl, hv, fl_fr _, _, rfl, ?_⟩
    rw [ok.mom]
    exact iteF q
end
end Sc

namespace Sc
open PySem PySem.Spec PyProof.Rows L2
/-! calls with keywords; methods of one of several classes -/
structure CalK (P : Program) (w : World) (K : PySem.W.Frag) (mg : Str → Option Value) (base : Heap) (k : Nat) (x : Str) (n : Nat) (ks : List Str) (sp : Sp) : Prop where
  ex : ∃ (f : Addr) (fd : FuncData) (ps : List Str) (g : List Value → List Value → List Value), FnOk P w K mg base C8.CX0 k f fd ps sp ∧ mg x = some (.ref f) ∧ PySem.W.keepIn K (.ref f) = true ∧ KBn K fd ps n ks g (fun vs zs => vs ++ zs)
structure MakK (P : Program) (w : World) (K : PySem.W.Frag) (mg : Str → Option Value) (base : Heap) (k : Nat) (x : Str) (C : Addr) (n : Nat) (ks : List Str) (sp : Sp) : Prop where
  ex : ∃ (f : Addr) (fd : FuncData) (ps : List Str) (g : List Value → List Value → List Value), Mk K C f ∧ FnOk P w K mg base C8.CX0 k f fd ps sp ∧ mg x = some (.ref C) ∧ KBn K fd ps (n + 1) ks g (fun vs zs => vs ++ zs)
section
variable {X : Cx} {k j n : Nat} {C : Addr} {x m : Str} {ks : List Str} {sp : Sp} {p pos apos : Pos} {e o : Expr} {es : List Expr} {kws : List Keyword} {ta : TE} {t tk : TA}
theorem pe_ck (c : CalK X.prog X.w X.K X.mg X.base k x n ks sp) (hr : Room j X.A) (hk : k ≤ j) (hg : Gl X x) (ha : PA X (e :: es) t) (hkw : PK X kws tk)
    (hall : (backToKw pos (keywordEach kws X.env)).all (·.1.isSome) = true := by rfl) (hks : (backToKw pos (keywordEach kws X.env)).filterMap (·.1) = ks := by rfl)
    (hdb : (x == ("__debug__" : Str)) = false := by decide) (he : starEach (e :: es) X.env = (false, eval e X.env) :: starEach es X.env := by rfl)
    (hpl : ((backTo pos (starEach (e :: es) X.env)).any (·.1) || (backToKw pos (keywordEach kws X.env)).any (·.1.isNone)) = false := by rfl) :
    PE X (.Call (.Name x p) (e :: es) kws pos) (tCallN n ks.length sp (fun vs zs => vs ++ zs) E0 t tk) := by
  obtain ⟨f, fd, ps, g, F, hm, kp, b⟩ := c.ex
  exact pe_callN F (hr.mono hk) hg hm kp b C8.pass0 ha hkw hall hks hdb he hpl
theorem pe_ck0 (c : CalK X.prog X.w X.K X.mg X.base k x 0 ks sp) (hr : Room j X.A) (hk : k ≤ j) (hg : Gl X x) (hkw : PK X kws tk)
    (hall : (backToKw pos (keywordEach kws X.env)).all (·.1.isSome) = true := by rfl) (hks : (backToKw pos (keywordEach kws X.env)).filterMap (·.1) = ks := by rfl)
    (hdb : (x == ("__debug__" : Str)) = false := by decide)
    (hpl : ((backTo pos (starEach [] X.env)).any (·.1) || (backToKw pos (keywordEach kws X.env)).any (·.1.isNone)) = false := by rfl) :
    PE X (.Call (.Name x p) [] kws pos) (tCallN 0 ks.length sp (fun vs zs => vs ++ zs) E0 tNil tk) := by
  obtain ⟨f, fd, ps, g, F, hm, kp, b⟩ := c.ex
  refine ⟨fun pins s σ H Q I h => ?_⟩
  refine wpAny_Call_Name_kw (ld_glob I hg hm ?_ hdb)
  refine PySem.W.callWith_KW0 (h₀ := X.base) I.ok.mod.kin kp hall ?_ hpl
  refine thn (hkw.run pos pins s σ H _ I h) fun ws s2 ⟨zs, H2, I2, rz, l1, l2, q2⟩ => ⟨I2.kIn, ?_⟩
  rw [hks]
  exact run_fnN F (hr.mono hk) b C8.pass0 I2 .nil rz l1 l2 q2
theorem pe_mkk (c : MakK X.prog X.w X.K X.mg X.base k x C n ks sp) (hr : Room j X.A) (hk : k + 1 ≤ j) (hg : Gl X x) (ha : PA X (e :: es) t) (hkw : PK X kws tk)
    (hall : (backToKw pos (keywordEach kws X.env)).all (·.1.isSome) = true := by rfl) (hks : (backToKw pos (keywordEach kws X.env)).filterMap (·.1) = ks := by rfl)
    (hdb : (x == ("__debug__" : Str)) = false := by decide) (he : starEach (e :: es) X.env = (false, eval e X.env) :: starEach es X.env := by rfl)
    (hpl : ((backTo pos (starEach (e :: es) X.env)).any (·.1) || (backToKw pos (keywordEach kws X.env)).any (·.1.isNone)) = false := by rfl) :
    PE X (.Call (.Name x p) (e :: es) kws pos) (tMakeN C n ks.length sp (fun vs zs => vs ++ zs) E0 t tk) := by
  obtain ⟨f, fd, ps, g, M, F, hm, b⟩ := c.ex
  exact pe_makeN M F (hr.mono hk) hg hm b C8.pass0 ha hkw hall hks hdb he hpl
/-- o.m(..): o of one of these classes; each with its promise -/
def tMethD (Cs : List (Addr × Sp)) (m : Str) (ta : TE) (t : TA) : TE := fun σ H Q => ta σ H fun x H1 => ∃ a C sp dx fs, (C, sp) ∈ Cs ∧ x = .ref a ∧ H1 a = some (.ins C dx fs) ∧ fs.lookup m = none ∧ t σ H1 fun vs H2 => sp (x :: vs) H2 Q E0
theorem pe_mtD {Cs : List (Addr × Sp)} {pl : Sem Bool} (c : ∀ C sp, (C, sp) ∈ Cs → C8.Met X.prog X.w X.K X.mg X.base k C m sp []) (hr : Room j X.A) (hk : k ≤ j) (he : PE X o ta) (ha : PA X (e :: es) t)
    (hst : starEach (e :: es) X.env = (false, eval e X.env) :: starEach es X.env := by rfl) (hpl : (backTo pos (starEach es X.env)).any (·.1) = false := by rfl)
    (ht : eval (.Call (.Attribute o m apos) (e :: es) [] pos) X.env = (do
      let ov ← eval o X.env
      standAt apos.atName
      let (f, first) ← holding [ov] (getMethod ov m pl)
      callWith pos f first (backTo pos (starEach (e :: es) X.env)) (backToKw pos (keywordEach [] X.env))) := by rfl) :
    PE X (.Call (.Attribute o m apos) (e :: es) [] pos) (tMethD Cs m ta t) := by
  refine ⟨fun pins s σ H Q I h => ?_⟩
  refine PySem.W.methodCall_KW (pl := pl) (thn (he.run pins s σ H _ I h) fun u s1 ⟨x, H1, I1, rx, a, C, sp, dx, fs, hC, ex, ea, l, q⟩ => ?_) ht
  subst ex
  obtain rfl : u = Value.ref a := rx
  obtain ⟨f, fd, ps, ds, c, hm, F, b, d⟩ := (c C sp hC).ex
  refine getmeth_ok I1 ea c hm l ?_
  refine PySem.W.callWith_K (first := [.ref a]) (h₀ := X.base) I.ok.mod.kin hm.kp (thn (ha.run pos pins s1 σ H1 _ I1 q) fun us s2 ⟨vs, H2, I2, r, q2⟩ => ⟨I2.kIn, ?_⟩) hst hpl
  exact run_fn (us := .ref a :: us) (vs := .ref a :: vs) F (hr.mono hk) b d C8.pass0 I2 (.cons rfl r) (by rw [List.append_nil]; exact q2)
theorem pe_mtD0 {Cs : List (Addr × Sp)} {pl : Sem Bool} (c : ∀ C sp, (C, sp) ∈ Cs → C8.Met X.prog X.w X.K X.mg X.base k C m sp []) (hr : Room j X.A) (hk : k ≤ j) (he : PE X o ta)
    (ht : eval (.Call (.Attribute o m apos) [] [] pos) X.env = (do
      let ov ← eval o X.env
      standAt apos.atName
      let (f, first) ← holding [ov] (getMethod ov m pl)
      callWith pos f first (backTo pos (starEach [] X.env)) (backToKw pos (keywordEach [] X.env))) := by rfl) :
    PE X (.Call (.Attribute o m apos) [] [] pos) (tMethD Cs m ta tNil) := by
  refine ⟨fun pins s σ H Q I h => ?_⟩
  refine PySem.W.methodCall_KW (pl := pl) (thn (he.run pins s σ H _ I h) fun u s1 ⟨x, H1, I1, rx, a, C, sp, dx, fs, hC, ex, ea, l, q⟩ => ?_) ht
  subst ex
  obtain rfl : u = Value.ref a := rx
  obtain ⟨f, fd, ps, ds, c, hm, F, b, d⟩ := (c C sp hC).ex
  refine getmeth_ok I1 ea c hm l ?_
  exact PySem.W.callWith_K0 (first := [.ref a]) I1.kIn hm.kp (run_fn (us := [.ref a]) (vs := [.ref a]) F (hr.mono hk) b d C8.pass0 I1 (.cons rfl .nil) q)
end
section
variable {P : Program} {w : World} {K : PySem.W.Frag} {mg : Str → Option Value} {base : Heap} {x qual m : Str} {params : Arguments} {body : List Stmt} {scope : Scope} {f C : Addr} {N ps : List Str} {k n : Nat} {sp : Sp} {ks : List Str}
theorem kbn_app (F : ∃ fd, FunD K x qual params body scope [] [] f fd) {fd : FuncData} (F1 : FunD K x qual params body scope [] [] f fd)
    (h : ∀ (kV doc pm : Value) (an : Option Addr) (cdv ct : Value) (us ws : List Value), us.length = n → ws.length = ks.length → bindArgs (PySem.W.fnOf x qual params body scope .none kV doc pm an cdv ct) ⟨us, ks.zip ws⟩ = pure (ps.zip (us ++ ws))) :
    KBn K fd ps n ks (fun us ws => us ++ ws) (fun vs zs => vs ++ zs) := kbn_of F1 h fun r1 r2 => r1.append r2
theorem calk_of (F : ∃ fd, FunD K x qual params body scope [] [] f fd) (hm : mg x = some (.ref f)) (S : FnScope N ps scope) (len : ∀ vs H Q E, sp vs H Q E → vs.length = ps.length)
    (hb : ∀ (kV doc pm : Value) (an : Option Addr) (cdv ct : Value) (us ws : List Value), us.length = n → ws.length = ks.length → bindArgs (PySem.W.fnOf x qual params body scope .none kV doc pm an cdv ct) ⟨us, ks.zip ws⟩ = pure (ps.zip (us ++ ws)))
    (h : BodyOk P w K mg base qual body scope f N k sp) : CalK P w K mg base (k + 1) x n ks sp := by
  obtain ⟨fd, F1⟩ := F
  refine ⟨f, fd, ps, _, F1.ok S len (fun cdv A outer s H vs Q E hr hsp => ?_), hm, F1.kp, kbn_app ⟨fd, F1⟩ F1 hb⟩
  obtain ⟨t, h1, h2⟩ := h cdv A outer s H vs Q E hr hsp
  exact ⟨t, h1.nox, h2⟩
theorem makk_of (M : Mk K C f) (hm : mg m = some (.ref C)) (F : ∃ fd, FunD K x qual params body scope [] [] f fd) (S : FnScope N ps scope) (len : ∀ vs H Q E, sp vs H Q E → vs.length = ps.length)
    (hb : ∀ (kV doc pm : Value) (an : Option Addr) (cdv ct : Value) (us ws : List Value), us.length = n + 1 → ws.length = ks.length → bindArgs (PySem.W.fnOf x qual params body scope .none kV doc pm an cdv ct) ⟨us, ks.zip ws⟩ = pure (ps.zip (us ++ ws)))
    (h : BodyOk P w K mg base qual body scope f N k sp) : MakK P w K mg base (k + 1) m C n ks sp := by
  obtain ⟨fd, F1⟩ := F
  refine ⟨f, fd, ps, _, M, F1.ok S len (fun cdv A outer s H vs Q E hr hsp => ?_), hm, kbn_app ⟨fd, F1⟩ F1 hb⟩
  obtain ⟨t, h1, h2⟩ := h cdv A outer s H vs Q E hr hsp
  exact ⟨t, h1.nox, h2⟩
end
end Sc

namespace Sc
open PySem PySem.Spec PyProof.Rows L2
/-! rules -/
theorem len_putF (f : Str) (v : V) : ∀ fs : List (Str × V), (putF f v fs).length ≤ fs.length + 1
  | [] => Nat.le_refl _
  | (g, x) :: r => by
    show (if g = f then (g, v) :: r else (g, x) :: putF f v r).length ≤ _
    split
    · simp
    · have := len_putF f v r
      simp
      omega
theorem fl_of {n m : Nat} (h : n ≤ m) (k : m < 1000) : n < 1000 := Nat.lt_of_le_of_lt h k
theorem Gw.obj {M : List Addr} {F0 H0 F H : Hp} {x dx : Addr} {o : HO} (g : Gw M F0 H0 F H) (hx : H x = none) (hd : H dx = none) (ne : dx ≠ x) : Gw M F0 H0 (upd F x o) (upd (upd H dx (.own x)) x o) :=
  (g.alloc hd).frz (by rw [upd_ne ne.symm]; exact hx)
theorem fl0 : ([] : List (Str × V)).length < 1000 := by decide
theorem fl1 {f : Str} {v : V} : (putF f v []).length < 1000 := fl_of (len_putF _ _ _) (by decide)
theorem fl2 {f g : Str} {v y : V} : (putF g y (putF f v [])).length < 1000 := fl_of (Nat.le_trans (len_putF _ _ _) (Nat.succ_le_succ (len_putF _ _ _))) (by decide)
theorem fl3 {f g h : Str} {v y z : V} : (putF h z (putF g y (putF f v []))).length < 1000 := fl_of (Nat.le_trans (len_putF _ _ _) (Nat.succ_le_succ (Nat.le_trans (len_putF _ _ _) (Nat.succ_le_succ (len_putF _ _ _))))) (by decide)
inductive RuleAt (K : PySem.W.Frag) (H : Hp) : V → RuleD → Prop
  | plain {p dx : Addr} {w : Int} : H p = some (.ins (He.ga K "Plain") dx [("worth", .int w)]) → RuleAt K H (.ref p) (.plain w)
  | moved {p dx : Addr} {b c : Nat} {a : Int} : H p = some (.ins (He.ga K "Moved") dx [("back", .int (b : Int)), ("cell", .int (c : Int)), ("add", .int a)]) → RuleAt K H (.ref p) (.moved b c a)
  | mixed {p dx : Addr} {b c ob oc : Nat} : H p = some (.ins (He.ga K "Mixed") dx [("back", .int (b : Int)), ("cell", .int (c : Int)), ("other_back", .int (ob : Int)), ("other_cell", .int (oc : Int))]) → RuleAt K H (.ref p) (.mixed b c ob oc)
theorem RuleAt.up {K : PySem.W.Frag} {H H' : Hp} {v : V} {r : RuleD} (h : RuleAt K H v r) (s : Same H H') : RuleAt K H' v r := by
  cases h with
  | plain h => exact .plain (s _ _ h)
  | moved h => exact .moved (s _ _ h)
  | mixed h => exact .mixed (s _ _ h)
/-- the pairs (back, cell) that a rule needs -/
def RuleD.needs : RuleD → List (Nat × Nat)
  | .plain _ => []
  | .moved b c _ => [(b, c)]
  | .mixed b c ob oc => [(b, c), (ob, oc)]
def prD (p : Nat × Nat) : PyData := .tuple [.int (p.1 : Int), .int (p.2 : Int)]
def OkR : RuleD → Prop
  | .plain w => 0 ≤ w ∧ w ≤ 255
  | .moved b c a => (1 ≤ b ∧ b ≤ 200 ∧ c ≤ 15) ∧ 0 ≤ a ∧ a ≤ 255
  | .mixed b c ob oc => (1 ≤ b ∧ b ≤ 200 ∧ c ≤ 15) ∧ 1 ≤ ob ∧ ob ≤ 200 ∧ oc ≤ 15
def RuleD.kind : RuleD → Nat
  | .plain _ => 0
  | .moved .. => 1
  | .mixed .. => 2
section
variable {P : Program} {w : World} {K : PySem.W.Frag} {mg : Str → Option Value} {base : Heap}
def sp_Plain_init (K : PySem.W.Frag) : Sp := fun vs H Q _ => ∃ (x dx : Addr) (v : V), vs = [.ref x, v] ∧ H x = some (.ins (He.ga K "Plain") dx []) ∧ Q .non (upd H x (.ins (He.ga K "Plain") dx [("worth", v)]))
def sp_Moved_init (K : PySem.W.Frag) : Sp := fun vs H Q _ => ∃ (x dx : Addr) (u v y : V), vs = [.ref x, u, v, y] ∧ H x = some (.ins (He.ga K "Moved") dx []) ∧ Q .non (upd H x (.ins (He.ga K "Moved") dx [("back", u), ("cell", v), ("add", y)]))
def sp_Mixed_init (K : PySem.W.Frag) : Sp := fun vs H Q _ => ∃ (x dx : Addr) (u v y z : V), vs = [.ref x, u, v, y, z] ∧ H x = some (.ins (He.ga K "Mixed") dx []) ∧ Q .non (upd H x (.ins (He.ga K "Mixed") dx [("back", u), ("cell", v), ("other_back", y), ("other_cell", z)]))
def sp_needs (K : PySem.W.Frag) (n : Nat) : Sp := fun vs H Q _ => ∃ (F : Hp) (v : V) (r : RuleD), vs = [v] ∧ Same F H ∧ RuleAt K F v r ∧ r.kind = n ∧ ∀ F' H' u, Gw [] F H F' H' → Dp K F' u (.list (r.needs.map prD)) → Q u H'
/-- the three classes with their promises -/
def needsL (K : PySem.W.Frag) : List (Addr × Sp) := [(He.ga K "Plain", sp_needs K 0), (He.ga K "Moved", sp_needs K 1), (He.ga K "Mixed", sp_needs K 2)]
def sp_is_need : Sp := fun vs H Q _ => ∃ b c : Nat, vs = [.int (b : Int), .int (c : Int)] ∧ (1 ≤ b ∧ b ≤ 200 ∧ c ≤ 15) ∧ Q (.bl true) H
def sp_rule_of (K : PySem.W.Frag) : Sp := fun vs H Q _ => ∃ (F : Hp) (v : V) (r : RuleD), vs = [v] ∧ Same F H ∧ Dp K F v r.dat ∧ OkR r ∧ ∀ F' H' u, Gw [] F H F' H' → RuleAt K F' u r → Q u H'
abbrev N_Plain_init : List Str := ["self", "value"]
theorem sc_Plain_init : FnScope N_Plain_init ["self", "value"] (defScope s_Plain_init) := ⟨rfl, rfl, rfl, by decide +kernel, rfl, by decide +kernel, by decide +kernel⟩
theorem ok_Plain_init (T : Ts K mg) : C8.Mak P w K mg base 1 "Plain" (He.ga K "Plain") (sp_Plain_init K) [] := by
  refine mak_of T.k_Plain T.g_Plain T.f_Plain_init sc_Plain_init (fun vs H Q E h => ?_) (fun _ _ _ _ _ _ us hl => match us, hl with | [_, _], _ => rfl) (fun cdv A outer s H vs Q E hr h => ⟨_, (pss_one (ps_fld (pv 0) (pv 1) rfl)), ?_⟩)
  · obtain ⟨x, dx, v, rfl, _⟩ := h
    rfl
  · obtain ⟨x, dx, v, rfl, hx, q⟩ := h
    refine ⟨_, rfl, _, rfl, x, _, dx, _, rfl, hx, T.c_Plain, T.n_Plain_worth, fl0, ?_⟩
    exact q
abbrev N_Moved_init : List Str := ["self", "back", "cell", "add"]
theorem sc_Moved_init : FnScope N_Moved_init ["self", "back", "cell", "add"] (defScope s_Moved_init) := ⟨rfl, rfl, rfl, by decide +kernel, rfl, by decide +kernel, by decide +kernel⟩
theorem ok_Moved_init (T : Ts K mg) : MakK P w K mg base 1 "Moved" (He.ga K "Moved") 2 ["add"] (sp_Moved_init K) := by
  refine makk_of T.k_Moved T.g_Moved T.f_Moved_init sc_Moved_init (fun vs H Q E h => ?_) (fun _ _ _ _ _ _ us ws h1 h2 => match us, ws, h1, h2 with | [_, _, _], [_], _, _ => rfl) (fun cdv A outer s H vs Q E hr h => ⟨_, (pss_cons (ps_fld (pv 0) (pv 1) rfl)
      (pss_cons (ps_fld (pv 0) (pv 2) rfl)
      (pss_one (ps_fld (pv 0) (pv 3) rfl)))), ?_⟩)
  · obtain ⟨x, dx, u, v, y, rfl, _⟩ := h
    rfl
  · obtain ⟨x, dx, u, v, y, rfl, hx, q⟩ := h
    refine ⟨_, rfl, _, rfl, x, _, dx, _, rfl, hx, T.c_Moved, T.n_Moved_back, fl0, ?_⟩
    refine ⟨_, rfl, _, rfl, x, _, dx, _, rfl, upd_same, T.c_Moved, T.n_Moved_cell, fl1, ?_⟩
    refine ⟨_, rfl, _, rfl, x, _, dx, _, rfl, upd_same, T.c_Moved, T.n_Moved_add, fl2, ?_⟩
    rw [upd_upd, upd_upd]
    exact q
abbrev N_Mixed_init : List Str := ["self", "back", "cell", "other_back", "other_cell"]
theorem sc_Mixed_init : FnScope N_Mixed_init ["self", "back", "cell", "other_back", "other_cell"] (defScope s_Mixed_init) := ⟨rfl, rfl, rfl, by decide +kernel, rfl, by decide +kernel, by decide +kernel⟩
theorem ok_Mixed_init (T : Ts K mg) : MakK P w K mg base 1 "Mixed" (He.ga K "Mixed") 2 ["other_back", "other_cell"] (sp_Mixed_init K) := by
  refine makk_of T.k_Mixed T.g_Mixed T.f_Mixed_init sc_Mixed_init (fun vs H Q E h => ?_) (fun _ _ _ _ _ _ us ws h1 h2 => match us, ws, h1, h2 with | [_, _, _], [_, _], _, _ => rfl) (fun cdv A outer s H vs Q E hr h => ⟨_, (pss_cons (ps_fld (pv 0) (pv 1) rfl)
      (pss_cons (ps_fld (pv 0) (pv 2) rfl)
      (pss_cons (ps_fld (pv 0) (pv 3) rfl)
      (pss_one (ps_fld (pv 0) (pv 4) rfl))))), ?_⟩)
  · obtain ⟨x, dx, u, v, y, z, rfl, _⟩ := h
    rfl
  · obtain ⟨x, dx, u, v, y, z, rfl, hx, q⟩ := h
    refine ⟨_, rfl, _, rfl, x, _, dx, _, rfl, hx, T.c_Mixed, T.n_Mixed_back, fl0, ?_⟩
    refine ⟨_, rfl, _, rfl, x, _, dx, _, rfl, upd_same, T.c_Mixed, T.n_Mixed_cell, fl1, ?_⟩
    refine ⟨_, rfl, _, rfl, x, _, dx, _, rfl, upd_same, T.c_Mixed, T.n_Mixed_other_back, fl2, ?_⟩
    refine ⟨_, rfl, _, rfl, x, _, dx, _, rfl, upd_same, T.c_Mixed, T.n_Mixed_other_cell, fl3, ?_⟩
    rw [upd_upd, upd_upd, upd_upd]
    exact q
theorem Dp.pr {K : PySem.W.Frag} {H : Hp} {p : Addr} {b c : Nat} (h : H p = some (.tup [.int (b : Int), .int (c : Int)])) : Dp K H (.ref p) (prD (b, c)) := .tup (SqT.of h) (.cons (.int _) (.cons (.int _) .nil))
abbrev N_Rule_needs : List Str := ["self"]
theorem sc_Rule_needs : FnScope N_Rule_needs ["self"] (defScope s_Rule_needs) := ⟨rfl, rfl, rfl, by decide +kernel, rfl, by decide +kernel, by decide +kernel⟩
theorem ok_Rule_needs (T : Ts K mg) : C8.Met P w K mg base 1 (He.ga K "Plain") "needs" (sp_needs K 0) [] := by
  refine met_of T.c_Plain T.t_Plain_needs T.f_Rule_needs sc_Rule_needs (fun vs H Q E h => ?_) (fun _ _ _ _ _ _ us hl => match us, hl with | [_], _ => rfl) (fun cdv A outer s H vs Q E hr h => ⟨_, (pss_one (ps_ret (pe_lst pa_nil))), ?_⟩)
  · obtain ⟨F, v, r, rfl, _⟩ := h
    rfl
  · obtain ⟨F, v, r, rfl, sF, hv, hk, q⟩ := h
    cases hv with
    | plain h => exact ⟨by decide, fun q1 hq1 => q _ _ _ ((Gw.refl sF).frz hq1) (.lst (.inl (.inl upd_same)) .nil)⟩
    | moved h => cases hk
    | mixed h => cases hk
abbrev N_Moved_needs : List Str := ["self"]
theorem sc_Moved_needs : FnScope N_Moved_needs ["self"] (defScope s_Moved_needs) := ⟨rfl, rfl, rfl, by decide +kernel, rfl, by decide +kernel, by decide +kernel⟩
theorem ok_Moved_needs (T : Ts K mg) : C8.Met P w K mg base 1 (He.ga K "Moved") "needs" (sp_needs K 1) [] := by
  refine met_of T.c_Moved T.t_Moved_needs T.f_Moved_needs sc_Moved_needs (fun vs H Q E h => ?_) (fun _ _ _ _ _ _ us hl => match us, hl with | [_], _ => rfl) (fun cdv A outer s H vs Q E hr h => ⟨_, (pss_one (ps_ret (pe_lst (pa_cons (pe_tup (pa_cons (pe_fld (pv 0) rfl) (pa_cons (pe_fld (pv 0) rfl) pa_nil))) pa_nil)))), ?_⟩)
  · obtain ⟨F, v, r, rfl, _⟩ := h
    rfl
  · obtain ⟨F, v, r, rfl, sF, hv, hk, q⟩ := h
    cases hv with
    | plain h => cases hk
    | mixed h => cases hk
    | moved h =>
      rename_i p dx b c a
      have h2 := sF _ _ h
      refine ⟨_, rfl, p, _, dx, _, _, rfl, h2, T.c_Moved, T.n_Moved_back, rfl, _, rfl, p, _, dx, _, _, rfl, h2, T.c_Moved, T.n_Moved_cell, rfl, by show 2 ≤ sizeLine; decide, fun p1 hp1 => ⟨by show 1 ≤ sizeLine; decide, fun p2 hp2 => ?_⟩⟩
      have g1 := (Gw.refl (M := []) sF).frz (o := .tup [.int (b : Int), .int (c : Int)]) hp1
      exact q _ _ _ (g1.frz hp2) (.lst (.inl (.inl upd_same)) (.cons (Dp.pr (by rw [upd_ne (ne_of_none upd_same (g1.ffresh hp2))]; exact upd_same)) .nil))
abbrev N_Mixed_needs : List Str := ["self"]
theorem sc_Mixed_needs : FnScope N_Mixed_needs ["self"] (defScope s_Mixed_needs) := ⟨rfl, rfl, rfl, by decide +kernel, rfl, by decide +kernel, by decide +kernel⟩
theorem ok_Mixed_needs (T : Ts K mg) : C8.Met P w K mg base 1 (He.ga K "Mixed") "needs" (sp_needs K 2) [] := by
  refine met_of T.c_Mixed T.t_Mixed_needs T.f_Mixed_needs sc_Mixed_needs (fun vs H Q E h => ?_) (fun _ _ _ _ _ _ us hl => match us, hl with | [_], _ => rfl) (fun cdv A outer s H vs Q E hr h => ⟨_, (pss_one (ps_ret (pe_lst (pa_cons (pe_tup (pa_cons (pe_fld (pv 0) rfl) (pa_cons (pe_fld (pv 0) rfl) pa_nil))) (pa_cons (pe_tup (pa_cons (pe_fld (pv 0) rfl) (pa_cons (pe_fld (pv 0) rfl) pa_nil))) pa_nil))))), ?_⟩)
  · obtain ⟨F, v, r, rfl, _⟩ := h
    rfl
  · obtain ⟨F, v, r, rfl, sF, hv, hk, q⟩ := h
    cases hv with
    | plain h => cases hk
    | moved h => cases hk
    | mixed h =>
      rename_i p dx b c ob oc
      have h2 := sF _ _ h
      refine ⟨_, rfl, p, _, dx, _, _, rfl, h2, T.c_Mixed, T.n_Mixed_back, rfl, _, rfl, p, _, dx, _, _, rfl, h2, T.c_Mixed, T.n_Mixed_cell, rfl, by show 2 ≤ sizeLine; decide, fun p1 hp1 => ?_⟩
      have g1 := (Gw.refl (M := []) sF).frz (o := .tup [.int (b : Int), .int (c : Int)]) hp1
      have h3 := same_new (o := .tup [.int (b : Int), .int (c : Int)]) hp1 _ _ h2
      refine ⟨_, rfl, p, _, dx, _, _, rfl, h3, T.c_Mixed, T.n_Mixed_other_back, rfl, _, rfl, p, _, dx, _, _, rfl, h3, T.c_Mixed, T.n_Mixed_other_cell, rfl, by show 2 ≤ sizeLine; decide, fun p2 hp2 => ⟨by show 2 ≤ sizeLine; decide, fun p3 hp3 => ?_⟩⟩
      have g2 := g1.frz (o := .tup [.int (ob : Int), .int (oc : Int)]) hp2
      have g3 := g2.frz (o := .lst [.ref p1, .ref p2]) hp3
      refine q _ _ _ g3 (.lst (.inl (.inl upd_same)) (.cons (Dp.pr ?_) (.cons (Dp.pr ?_) .nil)))
      · exact same_new (g2.ffresh hp3) _ _ (same_new (g1.ffresh hp2) _ _ upd_same)
      · exact same_new (g2.ffresh hp3) _ _ upd_same
theorem ok_needs (T : Ts K mg) : ∀ C sp, (C, sp) ∈ needsL K → C8.Met P w K mg base 1 C "needs" sp [] := by
  intro C sp h
  simp only [needsL, List.mem_cons, List.not_mem_nil, or_false, Prod.mk.injEq] at h
  rcases h with ⟨rfl, rfl⟩ | ⟨rfl, rfl⟩ | ⟨rfl, rfl⟩
  · exact ok_Rule_needs T
  · exact ok_Moved_needs T
  · exact ok_Mixed_needs T
/-- what the dynamic call asks: the rule's class with its promise -/
theorem RuleAt.cls {H : Hp} {v : V} {r : RuleD} (h : RuleAt K H v r) : ∃ a C dx fs, (C, sp_needs K r.kind) ∈ needsL K ∧ v = .ref a ∧ H a = some (.ins C dx fs) ∧ fs.lookup ("needs" : Str) = none := by
  cases h with
  | plain h => exact ⟨_, _, _, _, .head _, rfl, h, rfl⟩
  | moved h => exact ⟨_, _, _, _, .tail _ (.head _), rfl, h, rfl⟩
  | mixed h => exact ⟨_, _, _, _, .tail _ (.tail _ (.head _)), rfl, h, rfl⟩
abbrev N_is_need : List Str := ["back", "cell"]
theorem sc_is_need : FnScope N_is_need ["back", "cell"] (defScope s_is_need) := ⟨rfl, rfl, rfl, by decide +kernel, rfl, by decide +kernel, by decide +kernel⟩
theorem ok_is_need (T : Ts K mg) (c_is_whole : C8.Cal P w K mg base 1 "is_whole" sp_is_whole []) : C8.Cal P w K mg base 2 "is_need" sp_is_need [] := by
  refine cal_of T.f_is_need T.g_is_need sc_is_need (fun vs H Q E h => ?_) (fun _ _ _ _ _ _ us hl => match us, hl with | [_, _], _ => rfl) (fun cdv A outer s H vs Q E hr h => ⟨_, (pss_one (ps_ret (pe_and (C8.pe_c c_is_whole hr (by decide) (by rfl) (pa_cons (pv 0) (pa_cons pe_int (pa_cons pe_int pa_nil)))) (pe_one (C8.pe_c c_is_whole hr (by decide) (by rfl) (pa_cons (pv 1) (pa_cons pe_int (pa_cons pe_int pa_nil)))))))), ?_⟩)
  · obtain ⟨b, c, rfl, _⟩ := h
    rfl
  · obtain ⟨b, c, rfl, h, q⟩ := h
    exact ⟨_, rfl, _, _, _, rfl, (by omega), (by omega), _, rfl, iteT ⟨_, rfl, _, _, _, rfl, (by omega), (by omega), q⟩⟩
theorem ok_is_need_k (T : Ts K mg) (c_is_whole : C8.Cal P w K mg base 1 "is_whole" sp_is_whole []) : CalK P w K mg base 2 "is_need" 0 ["back", "cell"] sp_is_need := by
  refine calk_of T.f_is_need T.g_is_need sc_is_need (fun vs H Q E h => ?_) (fun _ _ _ _ _ _ us ws h1 h2 => match us, ws, h1, h2 with | [], [_, _], _, _ => rfl) (fun cdv A outer s H vs Q E hr h => ⟨_, (pss_one (ps_ret (pe_and (C8.pe_c c_is_whole hr (by decide) (by rfl) (pa_cons (pv 0) (pa_cons pe_int (pa_cons pe_int pa_nil)))) (pe_one (C8.pe_c c_is_whole hr (by decide) (by rfl) (pa_cons (pv 1) (pa_cons pe_int (pa_cons pe_int pa_nil)))))))), ?_⟩)
  · obtain ⟨b, c, rfl, _⟩ := h
    rfl
  · obtain ⟨b, c, rfl, h, q⟩ := h
    exact ⟨_, rfl, _, _, _, rfl, (by omega), (by omega), _, rfl, iteT ⟨_, rfl, _, _, _, rfl, (by omega), (by omega), q⟩⟩
abbrev N_rule_of : List Str := ["told"]
theorem sc_rule_of : FnScope N_rule_of ["told"] (defScope s_rule_of) := ⟨rfl, rfl, rfl, by decide +kernel, rfl, by decide +kernel, by decide +kernel⟩
theorem ok_rule_of (T : Ts K mg) (c_is_whole : C8.Cal P w K mg base 1 "is_whole" sp_is_whole []) (c_is_need : C8.Cal P w K mg base 2 "is_need" sp_is_need []) (c_is_need_k : CalK P w K mg base 2 "is_need" 0 ["back", "cell"] sp_is_need)
    (c_Plain : C8.Mak P w K mg base 1 "Plain" (He.ga K "Plain") (sp_Plain_init K) []) (c_Moved : MakK P w K mg base 1 "Moved" (He.ga K "Moved") 2 ["add"] (sp_Moved_init K)) (c_Mixed : MakK P w K mg base 1 "Mixed" (He.ga K "Mixed") 2 ["other_back", "other_cell"] (sp_Mixed_init K)) : C8.Cal P w K mg base 3 "rule_of" (sp_rule_of K) [] := by
  refine cal_of T.f_rule_of T.g_rule_of sc_rule_of (fun vs H Q E h => ?_) (fun _ _ _ _ _ _ us hl => match us, hl with | [_], _ => rfl) (fun cdv A outer s H vs Q E hr h => ⟨_, (pss_cons (ps_if (PW.pt (pw_or (pt_not (pt_val (pe_callB call_isi (by rfl) T.m_isinstance (by decide +kernel) (pa_cons (pv 0) (pa_cons (pe_bltn (v := .ty "tuple") (by rfl) T.m_tuple (by decide +kernel) rfl) pa_nil))))) (pw_or1 (pt_cmpR op_eq (pe_callB call_len (by rfl) T.m_len PySem.boot_len (pa_cons (pv 0) pa_nil)) pe_int (nomark _))))) (pss_one ps_never) pss_nil)
      (pss_cons (ps_if (PW.pt (pw_and (pt_cmpR op_eq (pe_ix ix_tup (pv 0) pe_int (fun _ _ => rfl)) pe_str (nomark _)) (pw_and (pt_cmpR op_eq (pe_callB call_len (by rfl) T.m_len PySem.boot_len (pa_cons (pv 0) pa_nil)) pe_int (nomark _)) (pw_and1 (pt_val (C8.pe_c c_is_whole hr (by decide) (by rfl) (pa_cons (pe_ix ix_tup (pv 0) pe_int (fun _ _ => rfl)) (pa_cons pe_int (pa_cons pe_int pa_nil))))))))) (pss_one (ps_ret (C8.pe_mk c_Plain hr (by decide) (by rfl) (pa_cons (pe_ix ix_tup (pv 0) pe_int (fun _ _ => rfl)) pa_nil)))) pss_nil)
      (pss_cons (ps_if (PW.pt (pw_and (pt_cmpR op_eq (pe_ix ix_tup (pv 0) pe_int (fun _ _ => rfl)) pe_str (nomark _)) (pw_and (pt_cmpR op_eq (pe_callB call_len (by rfl) T.m_len PySem.boot_len (pa_cons (pv 0) pa_nil)) pe_int (nomark _)) (pw_and1 (pt_val (C8.pe_c c_is_need hr (by decide) (by rfl) (pa_cons (pe_ix ix_tup (pv 0) pe_int (fun _ _ => rfl)) (pa_cons (pe_ix ix_tup (pv 0) pe_int (fun _ _ => rfl)) pa_nil)))))))) (pss_one (ps_if (pt_val (C8.pe_c c_is_whole hr (by decide) (by rfl) (pa_cons (pe_ix ix_tup (pv 0) pe_int (fun _ _ => rfl)) (pa_cons pe_int (pa_cons pe_int pa_nil))))) (pss_one (ps_ret (pe_mkk c_Moved hr (by decide) (by rfl) (pa_cons (pe_ix ix_tup (pv 0) pe_int (fun _ _ => rfl)) (pa_cons (pe_ix ix_tup (pv 0) pe_int (fun _ _ => rfl)) pa_nil)) (pk_cons (pe_ix ix_tup (pv 0) pe_int (fun _ _ => rfl)) pk_nil)))) pss_nil)) pss_nil)
      (pss_cons (ps_if (PW.pt (pw_and (pt_cmpR op_eq (pe_ix ix_tup (pv 0) pe_int (fun _ _ => rfl)) pe_str (nomark _)) (pw_and1 (pt_cmpR op_eq (pe_callB call_len (by rfl) T.m_len PySem.boot_len (pa_cons (pv 0) pa_nil)) pe_int (nomark _))))) (pss_one (ps_if (PW.pt (pw_and (pt_val (C8.pe_c c_is_need hr (by decide) (by rfl) (pa_cons (pe_ix ix_tup (pv 0) pe_int (fun _ _ => rfl)) (pa_cons (pe_ix ix_tup (pv 0) pe_int (fun _ _ => rfl)) pa_nil)))) (pw_and1 (pt_val (pe_ck0 c_is_need_k hr (by decide) (by rfl) (pk_cons (pe_ix ix_tup (pv 0) pe_int (fun _ _ => rfl)) (pk_cons (pe_ix ix_tup (pv 0) pe_int (fun _ _ => rfl)) pk_nil))))))) (pss_one (ps_ret (pe_mkk c_Mixed hr (by decide) (by rfl) (pa_cons (pe_ix ix_tup (pv 0) pe_int (fun _ _ => rfl)) (pa_cons (pe_ix ix_tup (pv 0) pe_int (fun _ _ => rfl)) pa_nil)) (pk_cons (pe_ix ix_tup (pv 0) pe_int (fun _ _ => rfl)) (pk_cons (pe_ix ix_tup (pv 0) pe_int (fun _ _ => rfl)) pk_nil))))) pss_nil)) pss_nil)
      (pss_one ps_never))))), ?_⟩)
  · obtain ⟨F, v, r, rfl, _⟩ := h
    rfl
  · obtain ⟨F, v, r, rfl, sF, hv, ok, q⟩ := h
    have g0 := Gw.refl (M := []) sF
    cases r with
    | plain x =>
      obtain ⟨a, xs, rfl, h1, h2⟩ := hv.tupE
      obtain ⟨v1, _, rfl, e1, h2⟩ := h2.consE
      obtain ⟨v2, _, rfl, e2, h2⟩ := h2.consE
      cases h2.nilE
      cases e1.strE
      cases e2.intE
      have sq := Same.tup sF h1
      refine ⟨_, rfl, _, _, _, _, true, rfl, .ty _, dp_ty (hv.up sF), kb_tuple_tuple, true, rfl, iteF ?_⟩
      refine ⟨_, rfl, _, _, rfl, .inr ⟨_, sq, rfl⟩, rfl, false, rfl, iteF ?_⟩
      refine ⟨_, rfl, _, _, _, _, rfl, rfl, sq, rfl, rfl, true, rfl, iteT ⟨_, rfl, _, _, rfl, .inr ⟨_, sq, rfl⟩, rfl, true, rfl, iteT ⟨_, rfl, _, _, _, _, rfl, rfl, sq, rfl, _, _, _, rfl, ok.1, ok.2, true, rfl, iteT ?_⟩⟩⟩
      refine ⟨_, rfl, _, _, _, _, rfl, rfl, sq, rfl, fun y dy hy hdy ne => ⟨y, dy, _, rfl, upd_same, rfl, ?_⟩⟩
      rw [upd_upd]
      exact q _ _ _ (g0.obj hy hdy ne) (.plain upd_same)
    | moved b c x =>
      obtain ⟨a, xs, rfl, h1, h2⟩ := hv.tupE
      obtain ⟨v1, _, rfl, e1, h2⟩ := h2.consE
      obtain ⟨v2, _, rfl, e2, h2⟩ := h2.consE
      obtain ⟨v3, _, rfl, e3, h2⟩ := h2.consE
      obtain ⟨v4, _, rfl, e4, h2⟩ := h2.consE
      cases h2.nilE
      cases e1.strE
      cases e2.intE
      cases e3.intE
      cases e4.intE
      have sq := Same.tup sF h1
      refine ⟨_, rfl, _, _, _, _, true, rfl, .ty _, dp_ty (hv.up sF), kb_tuple_tuple, true, rfl, iteF ?_⟩
      refine ⟨_, rfl, _, _, rfl, .inr ⟨_, sq, rfl⟩, rfl, false, rfl, iteF ?_⟩
      refine ⟨_, rfl, _, _, _, _, rfl, rfl, sq, rfl, rfl, false, rfl, iteF ?_⟩
      refine ⟨_, rfl, _, _, _, _, rfl, rfl, sq, rfl, rfl, true, rfl, iteT ⟨_, rfl, _, _, rfl, .inr ⟨_, sq, rfl⟩, rfl, true, rfl, iteT ⟨_, rfl, _, _, _, _, rfl, rfl, sq, rfl, _, rfl, _, _, _, _, rfl, rfl, sq, rfl, b, c, rfl, ok.1, true, rfl, iteT ?_⟩⟩⟩
      refine ⟨_, rfl, _, _, _, _, rfl, rfl, sq, rfl, _, _, _, rfl, ok.2.1, ok.2.2, true, rfl, iteT ?_⟩
      refine ⟨_, rfl, _, _, _, _, rfl, rfl, sq, rfl, _, rfl, _, _, _, _, rfl, rfl, sq, rfl, _, rfl, _, _, _, _, rfl, rfl, sq, rfl, rfl, rfl, fun y dy hy hdy ne => ⟨y, dy, _, _, _, rfl, upd_same, rfl, ?_⟩⟩
      rw [upd_upd]
      exact q _ _ _ (g0.obj hy hdy ne) (.moved upd_same)
    | mixed b c ob oc =>
      obtain ⟨a, xs, rfl, h1, h2⟩ := hv.tupE
      obtain ⟨v1, _, rfl, e1, h2⟩ := h2.consE
      obtain ⟨v2, _, rfl, e2, h2⟩ := h2.consE
      obtain ⟨v3, _, rfl, e3, h2⟩ := h2.consE
      obtain ⟨v4, _, rfl, e4, h2⟩ := h2.consE
      obtain ⟨v5, _, rfl, e5, h2⟩ := h2.consE
      cases h2.nilE
      cases e1.strE
      cases e2.intE
      cases e3.intE
      cases e4.intE
      cases e5.intE
      have sq := Same.tup sF h1
      refine ⟨_, rfl, _, _, _, _, true, rfl, .ty _, dp_ty (hv.up sF), kb_tuple_tuple, true, rfl, iteF ?_⟩
      refine ⟨_, rfl, _, _, rfl, .inr ⟨_, sq, rfl⟩, rfl, false, rfl, iteF ?_⟩
      refine ⟨_, rfl, _, _, _, _, rfl, rfl, sq, rfl, rfl, false, rfl, iteF ?_⟩
      refine ⟨_, rfl, _, _, _, _, rfl, rfl, sq, rfl, rfl, false, rfl, iteF ?_⟩
      refine ⟨_, rfl, _, _, _, _, rfl, rfl, sq, rfl, rfl, true, rfl, iteT ⟨_, rfl, _, _, rfl, .inr ⟨_, sq, rfl⟩, rfl, true, rfl, iteT ?_⟩⟩
      refine ⟨_, rfl, _, _, _, _, rfl, rfl, sq, rfl, _, rfl, _, _, _, _, rfl, rfl, sq, rfl, b, c, rfl, ok.1, true, rfl, iteT ?_⟩
      refine ⟨_, rfl, _, _, _, _, rfl, rfl, sq, rfl, _, rfl, _, _, _, _, rfl, rfl, sq, rfl, rfl, rfl, ob, oc, rfl, ok.2, true, rfl, iteT ?_⟩
      refine ⟨_, rfl, _, _, _, _, rfl, rfl, sq, rfl, _, rfl, _, _, _, _, rfl, rfl, sq, rfl, _, rfl, _, _, _, _, rfl, rfl, sq, rfl, _, rfl, _, _, _, _, rfl, rfl, sq, rfl, rfl, rfl, fun y dy hy hdy ne => ⟨y, dy, _, _, _, _, rfl, upd_same, rfl, ?_⟩⟩
      rw [upd_upd]
      exact q _ _ _ (g0.obj hy hdy ne) (.mixed upd_same)
end
end Sc

namespace Sc
open PySem PySem.Spec PyProof.Rows L2
/-! leaves -/
def BodyD.cls (K : PySem.W.Frag) : BodyD → Addr
  | .full _ => He.ga K "Full"
  | .still _ => He.ga K "Still"
  | .woven _ => He.ga K "Woven"
def BodyD.fld : BodyD → Str
  | .full _ => "worths"
  | .still _ => "back"
  | .woven _ => "rules"
def BodyD.kind : BodyD → Nat
  | .full _ => 0
  | .still _ => 1
  | .woven _ => 2
/-- the rule of a cell -/
def BodyD.rule : BodyD → Nat → Option RuleD
  | .full vs, c => (vs[c]?).map .plain
  | .still b, c => some (.moved b c 0)
  | .woven rs, c => rs[c]?
def LeafAt (K : PySem.W.Frag) (H : Hp) (v : V) (l : LeafD) : Prop :=
  ∃ (p dx : Addr) (u : V), v = .ref p ∧ H p = some (.ins (l.body.cls K) dx [("begin", .int l.bg), ("span", .int l.sp), (l.body.fld, u)]) ∧ Dp K H u l.body.dat
theorem LeafAt.up {K : PySem.W.Frag} {H H' : Hp} {v : V} {l : LeafD} (h : LeafAt K H v l) (s : Same H H') : LeafAt K H' v l := by
  obtain ⟨p, dx, u, e, h1, h2⟩ := h
  exact ⟨p, dx, u, e, s _ _ h1, h2.up s⟩
def OkB : BodyD → Prop
  | .full vs => (1 ≤ vs.length ∧ vs.length ≤ 16) ∧ ∀ x, x ∈ vs → 0 ≤ x ∧ x ≤ 255
  | .still b => 1 ≤ b ∧ b ≤ 200
  | .woven rs => (1 ≤ rs.length ∧ rs.length ≤ 16) ∧ ∀ r, r ∈ rs → OkR r
structure OkL (l : LeafD) : Prop where
  b0 : 0 ≤ l.bg
  b1 : l.bg ≤ 1000000000
  s0 : 1 ≤ l.sp
  s1 : l.sp ≤ 1000000000
  body : OkB l.body
/-- a leaf that may have this number where pictures have so many cells -/
def Fits (l : LeafD) (n w : Nat) : Prop := match l.body with
  | .full vs => vs.length = w
  | .still b => b ≤ n
  | .woven rs => rs.length = w ∧ ∀ r, r ∈ rs → ∀ p, p ∈ r.needs → p.1 ≤ n ∧ p.2 < w
section
variable {P : Program} {w : World} {K : PySem.W.Frag} {mg : Str → Option Value} {base : Heap}
def sp_Leaf_init (K : PySem.W.Frag) : Sp := fun vs H Q _ => ∃ (x C dx : Addr) (u v : V), vs = [.ref x, u, v] ∧ Cls K C ∧ NoAttr K C "begin" ∧ NoAttr K C "span" ∧ H x = some (.ins C dx []) ∧ Q .non (upd H x (.ins C dx [("begin", u), ("span", v)]))
def sp_leaf_mk (K : PySem.W.Frag) (C : Addr) (f : Str) : Sp := fun vs H Q _ => ∃ (x dx : Addr) (u v y : V), vs = [.ref x, u, v, y] ∧ H x = some (.ins C dx []) ∧ Q .non (upd H x (.ins C dx [("begin", u), ("span", v), (f, y)]))
/-- Leaf.__init__, called by its class -/
structure LIn (P : Program) (w : World) (K : PySem.W.Frag) (mg : Str → Option Value) (base : Heap) : Prop where
  ex : ∃ fd, FnOk P w K mg base C8.CX0 1 (He.ma K (He.ga K "Leaf") "__init__") fd ["self", "begin", "span"] (sp_Leaf_init K) ∧ PySem.W.keepIn K (.ref (He.ma K (He.ga K "Leaf") "__init__")) = true ∧ Binds K fd ["self", "begin", "span"] []
abbrev N_Leaf_init : List Str := ["self", "begin", "span"]
theorem sc_Leaf_init : FnScope N_Leaf_init ["self", "begin", "span"] (defScope s_Leaf_init) := ⟨rfl, rfl, rfl, by decide +kernel, rfl, by decide +kernel, by decide +kernel⟩
theorem ok_Leaf_init (T : Ts K mg) : LIn P w K mg base := by
  have := fnok_of (P := P) (w := w) (base := base) (mg := mg) (k := 0) (sp := sp_Leaf_init K) T.f_Leaf_init sc_Leaf_init (fun vs H Q E h => ?_) (fun _ _ _ _ _ _ us hl => match us, hl with | [_, _, _], _ => rfl) (fun cdv A outer s H vs Q E hr h => ⟨_, (pss_cons (ps_fld (pv 0) (pv 1) rfl)
      (pss_one (ps_fld (pv 0) (pv 2) rfl))), ?_⟩)
  · obtain ⟨fd, h1, h2, h3, _⟩ := this
    exact ⟨fd, h1, h2, h3⟩
  · obtain ⟨x, C, dx, u, v, rfl, _⟩ := h
    rfl
  · obtain ⟨x, C, dx, u, v, rfl, cl, n1, n2, hx, q⟩ := h
    refine ⟨_, rfl, _, rfl, x, _, dx, _, rfl, hx, cl, n1, fl0, ?_⟩
    refine ⟨_, rfl, _, rfl, x, _, dx, _, rfl, upd_same, cl, n2, fl1, ?_⟩
    rw [upd_upd]
    exact q
abbrev N_Full_init : List Str := ["self", "begin", "span", "values"]
theorem sc_Full_init : FnScope N_Full_init ["self", "begin", "span", "values"] (defScope s_Full_init) := ⟨rfl, rfl, rfl, by decide +kernel, rfl, by decide +kernel, by decide +kernel⟩
theorem ok_Full_init (T : Ts K mg) (c_Leaf_init : LIn P w K mg base) : MakK P w K mg base 2 "Full" (He.ga K "Full") 2 ["values"] (sp_leaf_mk K (He.ga K "Full") "worths") := by
  obtain ⟨fdL, FL, kpL, bL⟩ := c_Leaf_init.ex
  refine makk_of T.k_Full T.g_Full T.f_Full_init sc_Full_init (fun vs H Q E h => ?_) (fun _ _ _ _ _ _ us ws h1 h2 => match us, ws, h1, h2 with | [_, _, _], [_], _, _ => rfl) (fun cdv A outer s H vs Q E hr h => ⟨_, (pss_cons (ps_expr (pe_ucall (by rfl) T.g_Leaf T.e.lrd T.e.lin kpL FL (hr.mono (by decide)) bL (C8.pass0 (E := E0)) (pa_cons (pv 0) (pa_cons (pv 1) (pa_cons (pv 2) pa_nil)))))
      (pss_one (ps_fld (pv 0) (pv 3) rfl))), ?_⟩)
  · obtain ⟨x, dx, u, v, y, rfl, _⟩ := h
    rfl
  · obtain ⟨x, dx, u, v, y, rfl, hx, q⟩ := h
    refine ⟨_, rfl, _, rfl, _, rfl, x, _, dx, _, _, rfl, T.c_Full, T.n_Full_begin, T.n_Full_span, hx, ?_⟩
    refine ⟨_, rfl, _, rfl, x, _, dx, _, rfl, upd_same, T.c_Full, T.n_Full_worths, by simp, ?_⟩
    rw [upd_upd]
    exact q
abbrev N_Still_init : List Str := ["self", "begin", "span", "back"]
theorem sc_Still_init : FnScope N_Still_init ["self", "begin", "span", "back"] (defScope s_Still_init) := ⟨rfl, rfl, rfl, by decide +kernel, rfl, by decide +kernel, by decide +kernel⟩
theorem ok_Still_init (T : Ts K mg) (c_Leaf_init : LIn P w K mg base) : MakK P w K mg base 2 "Still" (He.ga K "Still") 2 ["back"] (sp_leaf_mk K (He.ga K "Still") "back") := by
  obtain ⟨fdL, FL, kpL, bL⟩ := c_Leaf_init.ex
  refine makk_of T.k_Still T.g_Still T.f_Still_init sc_Still_init (fun vs H Q E h => ?_) (fun _ _ _ _ _ _ us ws h1 h2 => match us, ws, h1, h2 with | [_, _, _], [_], _, _ => rfl) (fun cdv A outer s H vs Q E hr h => ⟨_, (pss_cons (ps_expr (pe_ucall (by rfl) T.g_Leaf T.e.lrd T.e.lin kpL FL (hr.mono (by decide)) bL (C8.pass0 (E := E0)) (pa_cons (pv 0) (pa_cons (pv 1) (pa_cons (pv 2) pa_nil)))))
      (pss_one (ps_fld (pv 0) (pv 3) rfl))), ?_⟩)
  · obtain ⟨x, dx, u, v, y, rfl, _⟩ := h
    rfl
  · obtain ⟨x, dx, u, v, y, rfl, hx, q⟩ := h
    refine ⟨_, rfl, _, rfl, _, rfl, x, _, dx, _, _, rfl, T.c_Still, T.n_Still_begin, T.n_Still_span, hx, ?_⟩
    refine ⟨_, rfl, _, rfl, x, _, dx, _, rfl, upd_same, T.c_Still, T.n_Still_back, by simp, ?_⟩
    rw [upd_upd]
    exact q
abbrev N_Woven_init : List Str := ["self", "begin", "span", "rules"]
theorem sc_Woven_init : FnScope N_Woven_init ["self", "begin", "span", "rules"] (defScope s_Woven_init) := ⟨rfl, rfl, rfl, by decide +kernel, rfl, by decide +kernel, by decide +kernel⟩
theorem ok_Woven_init (T : Ts K mg) (c_Leaf_init : LIn P w K mg base) : MakK P w K mg base 2 "Woven" (He.ga K "Woven") 2 ["rules"] (sp_leaf_mk K (He.ga K "Woven") "rules") := by
  obtain ⟨fdL, FL, kpL, bL⟩ := c_Leaf_init.ex
  refine makk_of T.k_Woven T.g_Woven T.f_Woven_init sc_Woven_init (fun vs H Q E h => ?_) (fun _ _ _ _ _ _ us ws h1 h2 => match us, ws, h1, h2 with | [_, _, _], [_], _, _ => rfl) (fun cdv A outer s H vs Q E hr h => ⟨_, (pss_cons (ps_expr (pe_ucall (by rfl) T.g_Leaf T.e.lrd T.e.lin kpL FL (hr.mono (by decide)) bL (C8.pass0 (E := E0)) (pa_cons (pv 0) (pa_cons (pv 1) (pa_cons (pv 2) pa_nil)))))
      (pss_one (ps_fld (pv 0) (pv 3) rfl))), ?_⟩)
  · obtain ⟨x, dx, u, v, y, rfl, _⟩ := h
    rfl
  · obtain ⟨x, dx, u, v, y, rfl, hx, q⟩ := h
    refine ⟨_, rfl, _, rfl, _, rfl, x, _, dx, _, _, rfl, T.c_Woven, T.n_Woven_begin, T.n_Woven_span, hx, ?_⟩
    refine ⟨_, rfl, _, rfl, x, _, dx, _, rfl, upd_same, T.c_Woven, T.n_Woven_rules, by simp, ?_⟩
    rw [upd_upd]
    exact q
def sp_told (K : PySem.W.Frag) (n : Nat) : Sp := fun vs H Q _ => ∃ (F : Hp) (v : V) (l : LeafD), vs = [v] ∧ Same F H ∧ LeafAt K F v l ∧ l.body.kind = n ∧ ∀ F' H' u, Gw [] F H F' H' → Dp K F' u l.dat → Q u H'
def toldL (K : PySem.W.Frag) : List (Addr × Sp) := [(He.ga K "Full", sp_told K 0), (He.ga K "Still", sp_told K 1), (He.ga K "Woven", sp_told K 2)]
abbrev N_Full_told : List Str := ["self"]
theorem sc_Full_told : FnScope N_Full_told ["self"] (defScope s_Full_told) := ⟨rfl, rfl, rfl, by decide +kernel, rfl, by decide +kernel, by decide +kernel⟩
theorem ok_Full_told (T : Ts K mg) : C8.Met P w K mg base 1 (He.ga K "Full") "told" (sp_told K 0) [] := by
  refine met_of T.c_Full T.t_Full_told T.f_Full_told sc_Full_told (fun vs H Q E h => ?_) (fun _ _ _ _ _ _ us hl => match us, hl with | [_], _ => rfl) (fun cdv A outer s H vs Q E hr h => ⟨_, (pss_one (ps_ret (pe_tup (pa_cons pe_str (pa_cons (pe_fld (pv 0) rfl) (pa_cons (pe_fld (pv 0) rfl) (pa_cons (pe_fld (pv 0) rfl) pa_nil))))))), ?_⟩)
  · obtain ⟨F, v, l, rfl, _⟩ := h
    rfl
  · obtain ⟨F, v, ⟨bg, sp, body⟩, rfl, sF, hv, hk, q⟩ := h
    cases body with
    | full z =>
      obtain ⟨p, dx, u, rfl, h1, h2⟩ := hv
      have h3 := sF _ _ h1
      refine ⟨_, rfl, p, _, dx, _, _, rfl, h3, T.c_Full, T.n_Full_begin, rfl, _, rfl, p, _, dx, _, _, rfl, h3, T.c_Full, T.n_Full_span, rfl, _, rfl, p, _, dx, _, _, rfl, h3, T.c_Full, T.n_Full_worths, rfl, by show 4 ≤ sizeLine; decide, fun p1 hp1 => ?_⟩
      exact q _ _ _ ((Gw.refl (M := []) sF).frz hp1) (.tup (SqT.of upd_same) (.cons (.str _) (.cons (.int _) (.cons (.int _) (.cons (h2.up (same_new (sF.free hp1))) .nil)))))
    | _ => cases hk
abbrev N_Still_told : List Str := ["self"]
theorem sc_Still_told : FnScope N_Still_told ["self"] (defScope s_Still_told) := ⟨rfl, rfl, rfl, by decide +kernel, rfl, by decide +kernel, by decide +kernel⟩
theorem ok_Still_told (T : Ts K mg) : C8.Met P w K mg base 1 (He.ga K "Still") "told" (sp_told K 1) [] := by
  refine met_of T.c_Still T.t_Still_told T.f_Still_told sc_Still_told (fun vs H Q E h => ?_) (fun _ _ _ _ _ _ us hl => match us, hl with | [_], _ => rfl) (fun cdv A outer s H vs Q E hr h => ⟨_, (pss_one (ps_ret (pe_tup (pa_cons pe_str (pa_cons (pe_fld (pv 0) rfl) (pa_cons (pe_fld (pv 0) rfl) (pa_cons (pe_fld (pv 0) rfl) pa_nil))))))), ?_⟩)
  · obtain ⟨F, v, l, rfl, _⟩ := h
    rfl
  · obtain ⟨F, v, ⟨bg, sp, body⟩, rfl, sF, hv, hk, q⟩ := h
    cases body with
    | still z =>
      obtain ⟨p, dx, u, rfl, h1, h2⟩ := hv
      have h3 := sF _ _ h1
      refine ⟨_, rfl, p, _, dx, _, _, rfl, h3, T.c_Still, T.n_Still_begin, rfl, _, rfl, p, _, dx, _, _, rfl, h3, T.c_Still, T.n_Still_span, rfl, _, rfl, p, _, dx, _, _, rfl, h3, T.c_Still, T.n_Still_back, rfl, by show 4 ≤ sizeLine; decide, fun p1 hp1 => ?_⟩
      exact q _ _ _ ((Gw.refl (M := []) sF).frz hp1) (.tup (SqT.of upd_same) (.cons (.str _) (.cons (.int _) (.cons (.int _) (.cons (h2.up (same_new (sF.free hp1))) .nil)))))
    | _ => cases hk
abbrev N_Woven_told : List Str := ["self"]
theorem sc_Woven_told : FnScope N_Woven_told ["self"] (defScope s_Woven_told) := ⟨rfl, rfl, rfl, by decide +kernel, rfl, by decide +kernel, by decide +kernel⟩
theorem ok_Woven_told (T : Ts K mg) : C8.Met P w K mg base 1 (He.ga K "Woven") "told" (sp_told K 2) [] := by
  refine met_of T.c_Woven T.t_Woven_told T.f_Woven_told sc_Woven_told (fun vs H Q E h => ?_) (fun _ _ _ _ _ _ us hl => match us, hl with | [_], _ => rfl) (fun cdv A outer s H vs Q E hr h => ⟨_, (pss_one (ps_ret (pe_tup (pa_cons pe_str (pa_cons (pe_fld (pv 0) rfl) (pa_cons (pe_fld (pv 0) rfl) (pa_cons (pe_fld (pv 0) rfl) pa_nil))))))), ?_⟩)
  · obtain ⟨F, v, l, rfl, _⟩ := h
    rfl
  · obtain ⟨F, v, ⟨bg, sp, body⟩, rfl, sF, hv, hk, q⟩ := h
    cases body with
    | woven z =>
      obtain ⟨p, dx, u, rfl, h1, h2⟩ := hv
      have h3 := sF _ _ h1
      refine ⟨_, rfl, p, _, dx, _, _, rfl, h3, T.c_Woven, T.n_Woven_begin, rfl, _, rfl, p, _, dx, _, _, rfl, h3, T.c_Woven, T.n_Woven_span, rfl, _, rfl, p, _, dx, _, _, rfl, h3, T.c_Woven, T.n_Woven_rules, rfl, by show 4 ≤ sizeLine; decide, fun p1 hp1 => ?_⟩
      exact q _ _ _ ((Gw.refl (M := []) sF).frz hp1) (.tup (SqT.of upd_same) (.cons (.str _) (.cons (.int _) (.cons (.int _) (.cons (h2.up (same_new (sF.free hp1))) .nil)))))
    | _ => cases hk
theorem ok_told (T : Ts K mg) : ∀ C sp, (C, sp) ∈ toldL K → C8.Met P w K mg base 1 C "told" sp [] := by
  intro C sp h
  simp only [toldL, List.mem_cons, List.not_mem_nil, or_false, Prod.mk.injEq] at h
  rcases h with ⟨rfl, rfl⟩ | ⟨rfl, rfl⟩ | ⟨rfl, rfl⟩
  · exact ok_Full_told T
  · exact ok_Still_told T
  · exact ok_Woven_told T
theorem LeafAt.told {F : Hp} {v : V} {l : LeafD} (h : LeafAt K F v l) : ∃ a C dx fs, (C, sp_told K l.body.kind) ∈ toldL K ∧ v = .ref a ∧ F a = some (.ins C dx fs) ∧ fs.lookup ("told" : Str) = none := by
  obtain ⟨bg, sp, body⟩ := l
  obtain ⟨p, dx, u, e, h1, h2⟩ := h
  cases body with
  | full _ => exact ⟨p, _, dx, _, .head _, e, h1, rfl⟩
  | still _ => exact ⟨p, _, dx, _, .tail _ (.head _), e, h1, rfl⟩
  | woven _ => exact ⟨p, _, dx, _, .tail _ (.tail _ (.head _)), e, h1, rfl⟩
end
end Sc

namespace Sc
open PySem PySem.Spec PyProof.Rows L2
section
variable {P : Program} {w : World} {K : PySem.W.Frag} {mg : Str → Option Value} {base : Heap}
/-- how many cells a body tells -/
def BodyD.len : BodyD → Nat
  | .full vs => vs.length
  | .still _ => 0
  | .woven rs => rs.length
def sp_cells (K : PySem.W.Frag) (n : Nat) : Sp := fun vs H Q _ => ∃ (v : V) (l : LeafD), vs = [v] ∧ LeafAt K H v l ∧ l.body.kind = n ∧ Q (.int (l.body.len : Nat)) H
def cellsL (K : PySem.W.Frag) : List (Addr × Sp) := [(He.ga K "Full", sp_cells K 0), (He.ga K "Woven", sp_cells K 2)]
def sp_rule (K : PySem.W.Frag) (n : Nat) : Sp := fun vs H Q _ => ∃ (F : Hp) (v : V) (l : LeafD) (c : Nat) (r : RuleD), vs = [v, .int (c : Int)] ∧ Same F H ∧ LeafAt K F v l ∧ l.body.kind = n ∧ OkB l.body ∧ l.body.rule c = some r ∧ c ≤ 15 ∧ ∀ F' H' u, Gw [] F H F' H' → RuleAt K F' u r → Q u H'
def ruleL (K : PySem.W.Frag) : List (Addr × Sp) := [(He.ga K "Full", sp_rule K 0), (He.ga K "Still", sp_rule K 1), (He.ga K "Woven", sp_rule K 2)]
abbrev N_Full_cells : List Str := ["self"]
theorem sc_Full_cells : FnScope N_Full_cells ["self"] (defScope s_Full_cells) := ⟨rfl, rfl, rfl, by decide +kernel, rfl, by decide +kernel, by decide +kernel⟩
theorem ok_Full_cells (T : Ts K mg) : C8.Met P w K mg base 1 (He.ga K "Full") "cells" (sp_cells K 0) [] := by
  refine met_of T.c_Full T.t_Full_cells T.f_Full_cells sc_Full_cells (fun vs H Q E h => ?_) (fun _ _ _ _ _ _ us hl => match us, hl with | [_], _ => rfl) (fun cdv A outer s H vs Q E hr h => ⟨_, (pss_one (ps_ret (pe_callB call_len (by rfl) T.m_len PySem.boot_len (pa_cons (pe_fld (pv 0) rfl) pa_nil)))), ?_⟩)
  · obtain ⟨v, l, rfl, _⟩ := h
    rfl
  · obtain ⟨v, ⟨bg, sp, body⟩, rfl, hv, hk, q⟩ := h
    cases body with
    | full vs =>
      obtain ⟨p, dx, u, rfl, h1, h2⟩ := hv
      obtain ⟨a, xs, rfl, t1, t2⟩ := h2.tupE
      refine ⟨_, rfl, p, _, dx, _, _, rfl, h1, T.c_Full, T.n_Full_worths, rfl, _, _, rfl, .inr ⟨_, t1, rfl⟩, ?_⟩
      rw [t2.len, List.length_map]
      exact q
    | _ => cases hk
abbrev N_Woven_cells : List Str := ["self"]
theorem sc_Woven_cells : FnScope N_Woven_cells ["self"] (defScope s_Woven_cells) := ⟨rfl, rfl, rfl, by decide +kernel, rfl, by decide +kernel, by decide +kernel⟩
theorem ok_Woven_cells (T : Ts K mg) : C8.Met P w K mg base 1 (He.ga K "Woven") "cells" (sp_cells K 2) [] := by
  refine met_of T.c_Woven T.t_Woven_cells T.f_Woven_cells sc_Woven_cells (fun vs H Q E h => ?_) (fun _ _ _ _ _ _ us hl => match us, hl with | [_], _ => rfl) (fun cdv A outer s H vs Q E hr h => ⟨_, (pss_one (ps_ret (pe_callB call_len (by rfl) T.m_len PySem.boot_len (pa_cons (pe_fld (pv 0) rfl) pa_nil)))), ?_⟩)
  · obtain ⟨v, l, rfl, _⟩ := h
    rfl
  · obtain ⟨v, ⟨bg, sp, body⟩, rfl, hv, hk, q⟩ := h
    cases body with
    | woven vs =>
      obtain ⟨p, dx, u, rfl, h1, h2⟩ := hv
      obtain ⟨a, xs, rfl, t1, t2⟩ := h2.tupE
      refine ⟨_, rfl, p, _, dx, _, _, rfl, h1, T.c_Woven, T.n_Woven_rules, rfl, _, _, rfl, .inr ⟨_, t1, rfl⟩, ?_⟩
      rw [t2.len, List.length_map]
      exact q
    | _ => cases hk
theorem ok_cells (T : Ts K mg) : ∀ C sp, (C, sp) ∈ cellsL K → C8.Met P w K mg base 1 C "cells" sp [] := by
  intro C sp h
  simp only [cellsL, List.mem_cons, List.not_mem_nil, or_false, Prod.mk.injEq] at h
  rcases h with ⟨rfl, rfl⟩ | ⟨rfl, rfl⟩
  · exact ok_Full_cells T
  · exact ok_Woven_cells T
abbrev N_Full_rule : List Str := ["self", "cell"]
theorem sc_Full_rule : FnScope N_Full_rule ["self", "cell"] (defScope s_Full_rule) := ⟨rfl, rfl, rfl, by decide +kernel, rfl, by decide +kernel, by decide +kernel⟩
theorem ok_Full_rule (T : Ts K mg) (c_is_whole : C8.Cal P w K mg base 1 "is_whole" sp_is_whole []) (c_Plain : C8.Mak P w K mg base 1 "Plain" (He.ga K "Plain") (sp_Plain_init K) []) : C8.Met P w K mg base 4 (He.ga K "Full") "rule" (sp_rule K 0) [] := by
  refine met_of T.c_Full T.t_Full_rule T.f_Full_rule sc_Full_rule (fun vs H Q E h => ?_) (fun _ _ _ _ _ _ us hl => match us, hl with | [_, _], _ => rfl) (fun cdv A outer s H vs Q E hr h => ⟨_, (pss_cons (ps_if (pt_not (pt_val (C8.pe_c c_is_whole hr (by decide) (by rfl) (pa_cons (pv 1) (pa_cons pe_int (pa_cons (pe_op op_sub (pe_callB call_len (by rfl) T.m_len PySem.boot_len (pa_cons (pe_fld (pv 0) rfl) pa_nil)) pe_int) pa_nil)))))) (pss_one ps_never) pss_nil)
      (pss_one (ps_ret (C8.pe_mk c_Plain hr (by decide) (by rfl) (pa_cons (pe_ix ix_tup (pe_fld (pv 0) rfl) (pv 1) (fun _ _ => rfl)) pa_nil))))), ?_⟩)
  · obtain ⟨F, v, l, c, r, rfl, _⟩ := h
    rfl
  · obtain ⟨F, v, ⟨bg, sp, body⟩, c, r, rfl, sF, hv, hk, ok, hr2, hc, q⟩ := h
    cases body with
    | full ns =>
      obtain ⟨p, dx, u, rfl, h1, h2⟩ := hv
      obtain ⟨a, xs, rfl, t1, t2⟩ := h2.tupE
      obtain rfl := t2.intsE
      have h3 := sF _ _ h1
      have t3 := Same.tup sF t1
      obtain ⟨n, hn, rfl⟩ : ∃ n, ns[c]? = some n ∧ r = .plain n := by
        cases e : ns[c]? with
        | none => rw [show BodyD.rule (.full ns) c = (ns[c]?).map .plain from rfl, e] at hr2; cases hr2
        | some n => rw [show BodyD.rule (.full ns) c = (ns[c]?).map .plain from rfl, e] at hr2; exact ⟨n, rfl, (Option.some.inj hr2).symm⟩
      have hl := (List.getElem?_eq_some_iff.mp hn).1
      have hx : atI (ns.map V.int) (c : Int) = some (.int n) := atI_nat (by rw [List.getElem?_map, hn]; rfl)
      refine ⟨_, rfl, _, rfl, p, _, dx, _, _, rfl, h3, T.c_Full, T.n_Full_worths, rfl, _, _, rfl, .inr ⟨_, t3, rfl⟩, _, _, rfl, rfl, _, _, _, rfl, by omega, by rw [List.length_map]; omega, true, rfl, iteF ?_⟩
      refine ⟨_, rfl, p, _, dx, _, _, rfl, h3, T.c_Full, T.n_Full_worths, rfl, _, rfl, _, _, _, _, rfl, rfl, t3, hx, fun y dy hy hdy ne => ⟨y, dy, _, rfl, upd_same, rfl, ?_⟩⟩
      rw [upd_upd]
      exact q _ _ _ ((Gw.refl (M := []) sF).obj hy hdy ne) (.plain upd_same)
    | _ => cases hk
abbrev N_Still_rule : List Str := ["self", "cell"]
theorem sc_Still_rule : FnScope N_Still_rule ["self", "cell"] (defScope s_Still_rule) := ⟨rfl, rfl, rfl, by decide +kernel, rfl, by decide +kernel, by decide +kernel⟩
theorem ok_Still_rule (T : Ts K mg) (c_is_whole : C8.Cal P w K mg base 1 "is_whole" sp_is_whole []) (c_Moved : MakK P w K mg base 1 "Moved" (He.ga K "Moved") 2 ["add"] (sp_Moved_init K)) : C8.Met P w K mg base 4 (He.ga K "Still") "rule" (sp_rule K 1) [] := by
  refine met_of T.c_Still T.t_Still_rule T.f_Still_rule sc_Still_rule (fun vs H Q E h => ?_) (fun _ _ _ _ _ _ us hl => match us, hl with | [_, _], _ => rfl) (fun cdv A outer s H vs Q E hr h => ⟨_, (pss_cons (ps_if (pt_not (pt_val (C8.pe_c c_is_whole hr (by decide) (by rfl) (pa_cons (pv 1) (pa_cons pe_int (pa_cons pe_int pa_nil)))))) (pss_one ps_never) pss_nil)
      (pss_one (ps_ret (pe_mkk c_Moved hr (by decide) (by rfl) (pa_cons (pe_fld (pv 0) rfl) (pa_cons (pv 1) pa_nil)) (pk_cons pe_int pk_nil))))), ?_⟩)
  · obtain ⟨F, v, l, c, r, rfl, _⟩ := h
    rfl
  · obtain ⟨F, v, ⟨bg, sp, body⟩, c, r, rfl, sF, hv, hk, ok, hr2, hc, q⟩ := h
    cases body with
    | still b =>
      obtain ⟨p, dx, u, rfl, h1, h2⟩ := hv
      cases h2.intE
      have h3 := sF _ _ h1
      cases hr2
      refine ⟨_, rfl, _, _, _, rfl, by omega, by omega, true, rfl, iteF ?_⟩
      refine ⟨_, rfl, p, _, dx, _, _, rfl, h3, T.c_Still, T.n_Still_back, rfl, _, rfl, rfl, rfl, fun y dy hy hdy ne => ⟨y, dy, _, _, _, rfl, upd_same, rfl, ?_⟩⟩
      rw [upd_upd]
      exact q _ _ _ ((Gw.refl (M := []) sF).obj hy hdy ne) (.moved upd_same)
    | _ => cases hk
abbrev N_Woven_rule : List Str := ["self", "cell"]
theorem sc_Woven_rule : FnScope N_Woven_rule ["self", "cell"] (defScope s_Woven_rule) := ⟨rfl, rfl, rfl, by decide +kernel, rfl, by decide +kernel, by decide +kernel⟩
theorem ok_Woven_rule (T : Ts K mg) (c_is_whole : C8.Cal P w K mg base 1 "is_whole" sp_is_whole []) (c_rule_of : C8.Cal P w K mg base 3 "rule_of" (sp_rule_of K) []) : C8.Met P w K mg base 4 (He.ga K "Woven") "rule" (sp_rule K 2) [] := by
  refine met_of T.c_Woven T.t_Woven_rule T.f_Woven_rule sc_Woven_rule (fun vs H Q E h => ?_) (fun _ _ _ _ _ _ us hl => match us, hl with | [_, _], _ => rfl) (fun cdv A outer s H vs Q E hr h => ⟨_, (pss_cons (ps_if (pt_not (pt_val (C8.pe_c c_is_whole hr (by decide) (by rfl) (pa_cons (pv 1) (pa_cons pe_int (pa_cons (pe_op op_sub (pe_callB call_len (by rfl) T.m_len PySem.boot_len (pa_cons (pe_fld (pv 0) rfl) pa_nil)) pe_int) pa_nil)))))) (pss_one ps_never) pss_nil)
      (pss_one (ps_ret (C8.pe_c c_rule_of hr (by decide) (by rfl) (pa_cons (pe_ix ix_tup (pe_fld (pv 0) rfl) (pv 1) (fun _ _ => rfl)) pa_nil))))), ?_⟩)
  · obtain ⟨F, v, l, c, r, rfl, _⟩ := h
    rfl
  · obtain ⟨F, v, ⟨bg, sp, body⟩, c, r, rfl, sF, hv, hk, ok, hr2, hc, q⟩ := h
    cases body with
    | woven rs =>
      obtain ⟨p, dx, u, rfl, h1, h2⟩ := hv
      obtain ⟨a, xs, rfl, t1, t2⟩ := h2.tupE
      have h3 := sF _ _ h1
      have t3 := Same.tup sF t1
      have hl := (List.getElem?_eq_some_iff.mp (show rs[c]? = some r from hr2)).1
      obtain ⟨v, hv, dv⟩ := t2.get (i := c) (d := r.dat) (by rw [List.getElem?_map, show rs[c]? = some r from hr2]; rfl)
      have hlen := t2.len
      rw [List.length_map] at hlen
      refine ⟨_, rfl, _, rfl, p, _, dx, _, _, rfl, h3, T.c_Woven, T.n_Woven_rules, rfl, _, _, rfl, .inr ⟨_, t3, rfl⟩, _, _, rfl, rfl, _, _, _, rfl, by omega, by omega, true, rfl, iteF ?_⟩
      refine ⟨_, rfl, p, _, dx, _, _, rfl, h3, T.c_Woven, T.n_Woven_rules, rfl, _, rfl, _, _, _, _, rfl, rfl, t3, atI_nat hv, F, _, r, rfl, sF, dv, ok.2 r (List.mem_of_getElem? hr2), q⟩
    | _ => cases hk
theorem ok_rule (T : Ts K mg) (c0 : C8.Met P w K mg base 4 (He.ga K "Full") "rule" (sp_rule K 0) []) (c1 : C8.Met P w K mg base 4 (He.ga K "Still") "rule" (sp_rule K 1) []) (c2 : C8.Met P w K mg base 4 (He.ga K "Woven") "rule" (sp_rule K 2) []) :
    ∀ C sp, (C, sp) ∈ ruleL K → C8.Met P w K mg base 4 C "rule" sp [] := by
  intro C sp h
  simp only [ruleL, List.mem_cons, List.not_mem_nil, or_false, Prod.mk.injEq] at h
  rcases h with ⟨rfl, rfl⟩ | ⟨rfl, rfl⟩ | ⟨rfl, rfl⟩
  · exact c0
  · exact c1
  · exact c2
theorem LeafAt.rule {F : Hp} {v : V} {l : LeafD} (h : LeafAt K F v l) : ∃ a C dx fs, (C, sp_rule K l.body.kind) ∈ ruleL K ∧ v = .ref a ∧ F a = some (.ins C dx fs) ∧ fs.lookup ("rule" : Str) = none := by
  obtain ⟨bg, sp, body⟩ := l
  obtain ⟨p, dx, u, e, h1, h2⟩ := h
  cases body with
  | full _ => exact ⟨p, _, dx, _, .head _, e, h1, rfl⟩
  | still _ => exact ⟨p, _, dx, _, .tail _ (.head _), e, h1, rfl⟩
  | woven _ => exact ⟨p, _, dx, _, .tail _ (.tail _ (.head _)), e, h1, rfl⟩
theorem LeafAt.cells {F : Hp} {v : V} {l : LeafD} (h : LeafAt K F v l) (n : ∀ b, l.body ≠ .still b) : ∃ a C dx fs, (C, sp_cells K l.body.kind) ∈ cellsL K ∧ v = .ref a ∧ F a = some (.ins C dx fs) ∧ fs.lookup ("cells" : Str) = none := by
  obtain ⟨bg, sp, body⟩ := l
  obtain ⟨p, dx, u, e, h1, h2⟩ := h
  cases body with
  | full _ => exact ⟨p, _, dx, _, .head _, e, h1, rfl⟩
  | still b => exact absurd rfl (n b)
  | woven _ => exact ⟨p, _, dx, _, .tail _ (.head _), e, h1, rfl⟩
end
end Sc

namespace Sc
open PySem PySem.Spec PyProof.Rows L2
section
variable {P : Program} {w : World} {K : PySem.W.Frag} {mg : Str → Option Value} {base : Heap}
theorem calat_of {k : Nat} {x : Str} {f : Addr} {sp : Sp} (c : C8.Cal P w K mg base k x sp []) (hm : mg x = some (.ref f)) : C8.CalAt P w K mg base k f sp := by
  obtain ⟨g, fd, ps, ds, F, h, kp, b, d⟩ := c.ex
  rw [hm] at h
  cases h
  cases d
  exact ⟨fd, ps, F, kp, b⟩
def sp_is_value : Sp := fun vs H Q _ => ∃ n : Int, vs = [.int n] ∧ (0 ≤ n ∧ n ≤ 255) ∧ Q (.bl true) H
def sp_is_rule (K : PySem.W.Frag) : Sp := fun vs H Q _ => ∃ (F : Hp) (v : V) (r : RuleD), vs = [v] ∧ Same F H ∧ Dp K F v r.dat ∧ OkR r ∧ ∀ F' H', Gw [] F H F' H' → Q (.bl true) H'
def sp_is_row_of (K : PySem.W.Frag) : Sp := fun vs H Q _ => ∃ (F : Hp) (v : V) (f : Addr) (ds : List PyData), vs = [v, .ref f] ∧ Same F H ∧ Dp K F v (.tuple ds) ∧ (1 ≤ ds.length ∧ ds.length ≤ 16) ∧
  ((f = He.ga K "is_value" ∧ ∀ d, d ∈ ds → ∃ n : Int, d = .int n ∧ 0 ≤ n ∧ n ≤ 255) ∨ (f = He.ga K "is_rule" ∧ ∀ d, d ∈ ds → ∃ r : RuleD, d = r.dat ∧ OkR r)) ∧ ∀ F' H', Gw [] F H F' H' → Q (.bl true) H'
def sp_leaf_of (K : PySem.W.Frag) : Sp := fun vs H Q _ => ∃ (F : Hp) (v : V) (l : LeafD), vs = [v] ∧ Same F H ∧ Dp K F v l.dat ∧ OkL l ∧ ∀ F' H' u, Gw [] F H F' H' → LeafAt K F' u l → Q u H'
abbrev N_is_value : List Str := ["thing"]
theorem sc_is_value : FnScope N_is_value ["thing"] (defScope s_is_value) := ⟨rfl, rfl, rfl, by decide +kernel, rfl, by decide +kernel, by decide +kernel⟩
theorem ok_is_value (T : Ts K mg) (c_is_whole : C8.Cal P w K mg base 1 "is_whole" sp_is_whole []) : C8.Cal P w K mg base 2 "is_value" sp_is_value [] := by
  refine cal_of T.f_is_value T.g_is_value sc_is_value (fun vs H Q E h => ?_) (fun _ _ _ _ _ _ us hl => match us, hl with | [_], _ => rfl) (fun cdv A outer s H vs Q E hr h => ⟨_, (pss_one (ps_ret (C8.pe_c c_is_whole hr (by decide) (by rfl) (pa_cons (pv 0) (pa_cons pe_int (pa_cons pe_int pa_nil)))))), ?_⟩)
  · obtain ⟨n, rfl, _⟩ := h
    rfl
  · obtain ⟨n, rfl, hn, q⟩ := h
    exact ⟨_, rfl, _, _, _, rfl, hn.1, hn.2, q⟩
abbrev N_is_rule : List Str := ["thing"]
theorem sc_is_rule : FnScope N_is_rule ["thing"] (defScope s_is_rule) := ⟨rfl, rfl, rfl, by decide +kernel, rfl, by decide +kernel, by decide +kernel⟩
theorem ok_is_rule (T : Ts K mg) (c_rule_of : C8.Cal P w K mg base 3 "rule_of" (sp_rule_of K) []) : C8.Cal P w K mg base 4 "is_rule" (sp_is_rule K) [] := by
  refine cal_of T.f_is_rule T.g_is_rule sc_is_rule (fun vs H Q E h => ?_) (fun _ _ _ _ _ _ us hl => match us, hl with | [_], _ => rfl) (fun cdv A outer s H vs Q E hr h => ⟨_, (pss_cons (ps_try_thru0 (pss_one (ps_expr (C8.pe_c c_rule_of hr (by decide) (by rfl) (pa_cons (pv 0) pa_nil)))))
      (pss_one (ps_ret pe_bl))), ?_⟩)
  · obtain ⟨F, v, r, rfl, _⟩ := h
    rfl
  · obtain ⟨F, v, r, rfl, sF, hv, ok, q⟩ := h
    exact ⟨_, rfl, F, v, r, rfl, sF, hv, ok, fun F' H' u g _ => q F' H' g⟩
abbrev N_is_row_of : List Str := ["thing", "good", "one"]
theorem sc_is_row_of : FnScope N_is_row_of ["thing", "good"] (defScope s_is_row_of) := ⟨rfl, rfl, rfl, by decide +kernel, rfl, by decide +kernel, by decide +kernel⟩
theorem ok_is_row_of (T : Ts K mg) (c_is_value : C8.CalAt P w K mg base 2 (He.ga K "is_value") sp_is_value) (c_is_rule : C8.CalAt P w K mg base 4 (He.ga K "is_rule") (sp_is_rule K)) : C8.Cal P w K mg base 5 "is_row_of" (sp_is_row_of K) [] := by
  refine cal_of T.f_is_row_of T.g_is_row_of sc_is_row_of (fun vs H Q E h => ?_) (fun _ _ _ _ _ _ us hl => match us, hl with | [_, _], _ => rfl) (fun cdv A outer s H vs Q E hr h => ⟨_, (pss_cons (ps_if (PW.pt (pw_or (pt_not (pt_val (pe_callB call_isi (by rfl) T.m_isinstance (by decide +kernel) (pa_cons (pv 0) (pa_cons (pe_bltn (v := .ty "tuple") (by rfl) T.m_tuple (by decide +kernel) rfl) pa_nil))))) (pw_or1 (pt_not (pt_chain op_le op_le pe_int (pe_callB call_len (by rfl) T.m_len PySem.boot_len (pa_cons (pv 0) pa_nil)) pe_int))))) (pss_one (ps_ret pe_bl)) pss_nil)
      (pss_one (ps_ret (pe_callB (cr_all rfl) (by rfl) T.m_all (by decide +kernel) (pa_cons (pe_lc (own := [("one", 2)]) rfl sc_is_row_of.nd (pi_tup (pv 0)) (blkOk_by (N := N_is_row_of) (sc := defScope s_is_row_of) (by decide +kernel)) (fun _ _ _ _ _ => (pg_name (i := 2) sc_is_row_of.nd rfl (Or.inl rfl))) (fun _ _ _ _ _ => pts_nil) (fun _ _ _ _ _ => (C8.pe_cv c_is_value c_is_rule hr (by decide) (by decide) (i := 1) rfl (by first | exact .inl rfl | exact .inr (.inl rfl) | exact .inr (.inr rfl)) (pa_cons (pv 2) pa_nil)))) pa_nil))))), ?_⟩)
  · obtain ⟨F, v, f, ds, rfl, _⟩ := h
    rfl
  · obtain ⟨F, v, f, ds, rfl, sF, hv, hn, hf, q⟩ := h
    obtain ⟨a, xs, rfl, h1, h2⟩ := id hv.tupE
    have hl := h2.len
    have t1 := Same.tup sF h1
    refine ⟨_, rfl, _, _, _, _, true, rfl, .ty _, dp_ty (hv.up sF), kb_tuple_tuple, true, rfl, iteF ?_⟩
    refine ⟨_, rfl, _, _, rfl, .inr ⟨_, t1, rfl⟩, _, _, rfl, rfl, _, rfl, ?_⟩
    rw [decide_eq_true (show (1 : Int) ≤ (xs.length : Nat) by omega)]
    refine iteT ⟨_, _, rfl, rfl, _, rfl, ?_⟩
    rw [decide_eq_true (show ((xs.length : Nat) : Int) ≤ 16 by omega)]
    refine iteF ?_
    refine ⟨_, rfl, a, rfl, ⟨xs, t1⟩, fun D hD => ?_⟩
    refine lc_gw (M := []) (F1 := F) walk_tup (fun _ => True) (fun _ _ v => v = .bl true) sF hD (by simp) (by omega) trivial (fun _ _ _ => trivial) (fun _ _ _ _ _ h => h) (fun H s => Same.tup s h1) ?_ ?_
    · rintro i x F' H' _ Q' hi sub fs _ ⟨rfl, hx⟩ k
      obtain ⟨d, hd, dp⟩ := (h2.up fs).at hx
      have hm := List.mem_of_getElem? hd
      rcases hf with ⟨rfl, hf⟩ | ⟨rfl, hf⟩
      · obtain ⟨n, rfl, hn⟩ := hf d hm
        cases dp.intE
        exact ⟨rfl, .inl ⟨rfl, _, rfl, n, rfl, hn, k _ F' _ (Gw.refl sub) trivial rfl⟩⟩
      · obtain ⟨r, rfl, hr2⟩ := hf d hm
        exact ⟨rfl, .inr ⟨rfl, _, rfl, F', _, r, rfl, sub, dp, hr2, fun F2 H2 g => k _ F2 _ g trivial rfl⟩⟩
    · intro F' H' acc gw fs _ hDa hFD hlen hres
      refine ⟨D, _, rfl, .inl (.inl (all_true hres ▸ hDa)), ?_⟩
      rw [show (List.replicate acc.length true).all id = true by simp]
      exact q F' H' gw
abbrev N_leaf_of : List Str := ["told", "word", "begin", "span", "rest"]
theorem sc_leaf_of : FnScope N_leaf_of ["told"] (defScope s_leaf_of) := ⟨rfl, rfl, rfl, by decide +kernel, rfl, by decide +kernel, by decide +kernel⟩
theorem ok_leaf_of (T : Ts K mg) (c_is_whole : C8.Cal P w K mg base 1 "is_whole" sp_is_whole []) (c_is_row_of : C8.Cal P w K mg base 5 "is_row_of" (sp_is_row_of K) [])
    (c_Full : MakK P w K mg base 2 "Full" (He.ga K "Full") 2 ["values"] (sp_leaf_mk K (He.ga K "Full") "worths")) (c_Still : MakK P w K mg base 2 "Still" (He.ga K "Still") 2 ["back"] (sp_leaf_mk K (He.ga K "Still") "back"))
    (c_Woven : MakK P w K mg base 2 "Woven" (He.ga K "Woven") 2 ["rules"] (sp_leaf_mk K (He.ga K "Woven") "rules")) : C8.Cal P w K mg base 6 "leaf_of" (sp_leaf_of K) [] := by
  refine cal_of T.f_leaf_of T.g_leaf_of sc_leaf_of (fun vs H Q E h => ?_) (fun _ _ _ _ _ _ us hl => match us, hl with | [_], _ => rfl) (fun cdv A outer s H vs Q E hr h => ⟨_, (pss_cons (ps_if (PW.pt (pw_or (pt_not (pt_val (pe_callB call_isi (by rfl) T.m_isinstance (by decide +kernel) (pa_cons (pv 0) (pa_cons (pe_bltn (v := .ty "tuple") (by rfl) T.m_tuple (by decide +kernel) rfl) pa_nil))))) (pw_or1 (pt_cmpR op_ne (pe_callB call_len (by rfl) T.m_len PySem.boot_len (pa_cons (pv 0) pa_nil)) pe_int (nomark _))))) (pss_one ps_never) pss_nil)
      (pss_cons (ps_asg (pv 0) (pg_tup rfl (pgs_cons (pg_name (i := 1) sc_leaf_of.nd rfl (Or.inl rfl)) (pgs_cons (pg_name (i := 2) sc_leaf_of.nd rfl (Or.inl rfl)) (pgs_cons (pg_name (i := 3) sc_leaf_of.nd rfl (Or.inl rfl)) (pgs_cons (pg_name (i := 4) sc_leaf_of.nd rfl (Or.inl rfl)) pgs_nil))))))
      (pss_cons (ps_if (PW.pt (pw_or (pt_not (pt_val (C8.pe_c c_is_whole hr (by decide) (by rfl) (pa_cons (pv 2) (pa_cons pe_int (pa_cons (pe_op op_pow pe_int pe_int) pa_nil)))))) (pw_or1 (pt_not (pt_val (C8.pe_c c_is_whole hr (by decide) (by rfl) (pa_cons (pv 3) (pa_cons pe_int (pa_cons (pe_op op_pow pe_int pe_int) pa_nil))))))))) (pss_one ps_never) pss_nil)
      (pss_cons (ps_if (PW.pt (pw_and (pt_cmpR op_eq (pv 1) pe_str (nomark _)) (pw_and1 (pt_val (C8.pe_c c_is_row_of hr (by decide) (by rfl) (pa_cons (pv 4) (pa_cons (pe_glob (by rfl) T.g_is_value (rv_ref (He.ga K "is_value"))) pa_nil))))))) (pss_one (ps_ret (pe_mkk c_Full hr (by decide) (by rfl) (pa_cons (pv 2) (pa_cons (pv 3) pa_nil)) (pk_cons (pv 4) pk_nil)))) pss_nil)
      (pss_cons (ps_if (PW.pt (pw_and (pt_cmpR op_eq (pv 1) pe_str (nomark _)) (pw_and1 (pt_val (C8.pe_c c_is_whole hr (by decide) (by rfl) (pa_cons (pv 4) (pa_cons pe_int (pa_cons pe_int pa_nil)))))))) (pss_one (ps_ret (pe_mkk c_Still hr (by decide) (by rfl) (pa_cons (pv 2) (pa_cons (pv 3) pa_nil)) (pk_cons (pv 4) pk_nil)))) pss_nil)
      (pss_cons (ps_if (PW.pt (pw_and (pt_cmpR op_eq (pv 1) pe_str (nomark _)) (pw_and1 (pt_val (C8.pe_c c_is_row_of hr (by decide) (by rfl) (pa_cons (pv 4) (pa_cons (pe_glob (by rfl) T.g_is_rule (rv_ref (He.ga K "is_rule"))) pa_nil))))))) (pss_one (ps_ret (pe_mkk c_Woven hr (by decide) (by rfl) (pa_cons (pv 2) (pa_cons (pv 3) pa_nil)) (pk_cons (pv 4) pk_nil)))) pss_nil)
      (pss_one ps_never))))))), ?_⟩)
  · obtain ⟨F, v, l, rfl, _⟩ := h
    rfl
  · obtain ⟨F, v, ⟨bg, sp, body⟩, rfl, sF, hv, ok, q⟩ := h
    obtain ⟨a, xs, rfl, h1, h2⟩ := id hv.tupE
    obtain ⟨v1, _, rfl, e1, h2⟩ := h2.consE
    obtain ⟨v2, _, rfl, e2, h2⟩ := h2.consE
    obtain ⟨v3, _, rfl, e3, h2⟩ := h2.consE
    obtain ⟨v4, _, rfl, e4, h2⟩ := h2.consE
    cases h2.nilE
    cases e1.strE
    cases e2.intE
    cases e3.intE
    have sq := Same.tup sF h1
    obtain ⟨b0, b1, s0, s1, okb⟩ := ok
    have pw : ((10 : Int) ^ (9 : Int).toNat) = 1000000000 := by decide
    refine ⟨_, rfl, _, _, _, _, true, rfl, .ty _, dp_ty (hv.up sF), kb_tuple_tuple, true, rfl, iteF ?_⟩
    refine ⟨_, rfl, _, _, rfl, .inr ⟨_, sq, rfl⟩, rfl, false, rfl, iteF ?_⟩
    refine ⟨_, rfl, _, _, rfl, sq, rfl, _, _, rfl, _, _, rfl, _, _, rfl, _, _, rfl, rfl, ?_⟩
    refine ⟨_, rfl, _, _, rfl, rfl, ⟨by decide, by decide, by decide⟩, _, _, _, rfl, b0, by rw [pw]; exact b1, true, rfl, iteF ?_⟩
    refine ⟨_, rfl, _, _, rfl, rfl, ⟨by decide, by decide, by decide⟩, _, _, _, rfl, s0, by rw [pw]; exact s1, true, rfl, iteF ?_⟩
    cases body with
    | full ns =>
      obtain ⟨b, ys, rfl, t1, t2⟩ := id e4.tupE
      refine ⟨_, rfl, rfl, true, rfl, iteT ⟨_, rfl, F, _, _, _, rfl, sF, e4, by rw [List.length_map]; exact okb.1, .inl ⟨rfl, fun d hd => ?_⟩, fun F1 H1 g1 => ⟨true, rfl, iteT ?_⟩⟩⟩
      · obtain ⟨n, hn, rfl⟩ := List.mem_map.mp hd
        exact ⟨n, rfl, okb.2 n hn⟩
      · refine ⟨_, rfl, _, rfl, _, rfl, rfl, rfl, fun y dy hy hdy ne => ⟨y, dy, _, _, _, rfl, upd_same, rfl, ?_⟩⟩
        rw [upd_upd]
        exact q _ _ _ (g1.obj hy hdy ne) ⟨y, dy, _, rfl, upd_same, (e4.up g1.fs).up (same_new (g1.ffresh hy))⟩
    | still b =>
      cases e4.intE
      refine ⟨_, rfl, rfl, false, rfl, iteF ?_⟩
      refine ⟨_, rfl, rfl, true, rfl, iteT ⟨_, rfl, _, _, _, rfl, by have := okb.1; omega, by have := okb.2; omega, true, rfl, iteT ?_⟩⟩
      refine ⟨_, rfl, _, rfl, _, rfl, rfl, rfl, fun y dy hy hdy ne => ⟨y, dy, _, _, _, rfl, upd_same, rfl, ?_⟩⟩
      rw [upd_upd]
      exact q _ _ _ ((Gw.refl (M := []) sF).obj hy hdy ne) ⟨y, dy, _, rfl, upd_same, .int _⟩
    | woven rs =>
      obtain ⟨b, ys, rfl, t1, t2⟩ := id e4.tupE
      refine ⟨_, rfl, rfl, false, rfl, iteF ?_⟩
      refine ⟨_, rfl, rfl, false, rfl, iteF ?_⟩
      refine ⟨_, rfl, rfl, true, rfl, iteT ⟨_, rfl, F, _, _, _, rfl, sF, e4, by rw [List.length_map]; exact okb.1, .inr ⟨rfl, fun d hd => ?_⟩, fun F1 H1 g1 => ⟨true, rfl, iteT ?_⟩⟩⟩
      · obtain ⟨n, hn, rfl⟩ := List.mem_map.mp hd
        exact ⟨n, rfl, okb.2 n hn⟩
      · refine ⟨_, rfl, _, rfl, _, rfl, rfl, rfl, fun y dy hy hdy ne => ⟨y, dy, _, _, _, rfl, upd_same, rfl, ?_⟩⟩
        rw [upd_upd]
        exact q _ _ _ (g1.obj hy hdy ne) ⟨y, dy, _, rfl, upd_same, (e4.up g1.fs).up (same_new (g1.ffresh hy))⟩
end
end Sc

namespace Sc
open PySem PySem.Spec PyProof.Rows L2
section
variable {P : Program} {w : World} {K : PySem.W.Frag} {mg : Str → Option Value} {base : Heap}
def sp_fits (K : PySem.W.Frag) : Sp := fun vs H Q _ => ∃ (F : Hp) (v : V) (l : LeafD) (n wd : Nat), vs = [v, .int (n : Int), .int (wd : Int)] ∧ Same F H ∧ LeafAt K F v l ∧ OkL l ∧ (1 ≤ wd ∧ wd ≤ 4) ∧ Fits l n wd ∧ ∀ F' H', Gw [] F H F' H' → Q (.bl true) H'
theorem LeafAt.ty (T : Ts K mg) {H : Hp} {v : V} {l : LeafD} (h : LeafAt K H v l) : TyX K H v (.ref (l.body.cls K)) := by
  obtain ⟨bg, sp, body⟩ := l
  obtain ⟨p, dx, u, rfl, h1, h2⟩ := h
  cases body with
  | full _ => exact .base (.ins h1 T.c_Full T.e.cF T.e.get T.e.tak T.e.mF)
  | still _ => exact .base (.ins h1 T.c_Still T.e.cS T.e.get T.e.tak T.e.mS)
  | woven _ => exact .base (.ins h1 T.c_Woven T.e.cW T.e.get T.e.tak T.e.mW)
/-- every cell's rule, and what it needs -/
theorem Fits.rule {l : LeafD} {n wd c : Nat} (h : Fits l n wd) (ns : ∀ b, l.body ≠ .still b) (hc : c < wd) : ∃ r, l.body.rule c = some r ∧ ∀ p, p ∈ r.needs → p.1 ≤ n ∧ p.2 < wd := by
  obtain ⟨bg, sp, body⟩ := l
  cases body with
  | full vs =>
    have h : vs.length = wd := h
    refine ⟨.plain vs[c], ?_, fun p hp => by cases hp⟩
    show (vs[c]?).map _ = _
    rw [List.getElem?_eq_getElem (by omega)]
    rfl
  | still b => exact absurd rfl (ns b)
  | woven rs =>
    have h : rs.length = wd ∧ _ := h
    exact ⟨rs[c], List.getElem?_eq_getElem (by omega), h.2 _ (List.getElem_mem _)⟩
theorem Fits.len {l : LeafD} {n wd : Nat} (h : Fits l n wd) (ns : ∀ b, l.body ≠ .still b) : l.body.len = wd := by
  obtain ⟨bg, sp, body⟩ := l
  cases body with
  | full vs => exact h
  | still b => exact absurd rfl (ns b)
  | woven rs => exact h.1
abbrev N_fits : List Str := ["leaf", "number", "wide", "cell", "back", "there"]
theorem sc_fits : FnScope N_fits ["leaf", "number", "wide"] (defScope s_fits) := ⟨rfl, rfl, rfl, by decide +kernel, rfl, by decide +kernel, by decide +kernel⟩
theorem ok_fits (T : Ts K mg) (c_cells : ∀ C sp, (C, sp) ∈ cellsL K → C8.Met P w K mg base 1 C "cells" sp []) (c_rule : ∀ C sp, (C, sp) ∈ ruleL K → C8.Met P w K mg base 4 C "rule" sp []) (c_needs : ∀ C sp, (C, sp) ∈ needsL K → C8.Met P w K mg base 1 C "needs" sp []) :
    C8.Cal P w K mg base 5 "fits" (sp_fits K) [] := by
  refine cal_of T.f_fits T.g_fits sc_fits (fun vs H Q E h => ?_) (fun _ _ _ _ _ _ us hl => match us, hl with | [_, _, _], _ => rfl) (fun cdv A outer s H vs Q E hr h => ⟨_, (pss_cons (ps_if (pt_val (pe_callB call_isi (by rfl) T.m_isinstance (by decide +kernel) (pa_cons (pv 0) (pa_cons (pe_glob (by rfl) T.g_Still (rv_ref (He.ga K "Still"))) pa_nil)))) (pss_one (ps_ret (pe_cmpR op_le (pe_fld (pv 0) rfl) (pv 1) (nomark _)))) pss_nil)
      (pss_cons (ps_if (pt_cmpR op_ne (pe_mtD0 c_cells hr (by decide) (pv 0)) (pv 2) (nomark _)) (pss_one (ps_ret pe_bl)) pss_nil)
      (pss_cons (ps_for PassesOwn.never rfl (pi_range1 (by rfl) T.m_range (pa_cons (pv 2) pa_nil)) (pg_name (i := 3) sc_fits.nd rfl (Or.inl rfl)) (pss_one (ps_for PassesOwn.never rfl (pi_list (pe_mtD0 c_needs hr (by decide) (pe_mtD c_rule hr (by decide) (pv 0) (pa_cons (pv 3) pa_nil)))) (pg_tup rfl (pgs_cons (pg_name (i := 4) sc_fits.nd rfl (Or.inl rfl)) (pgs_cons (pg_name (i := 5) sc_fits.nd rfl (Or.inl rfl)) pgs_nil))) (pss_one (ps_if (PW.pt (pw_or (pt_cmpR op_gt (pv 4) (pv 1) (nomark _)) (pw_or1 (pt_cmpR op_ge (pv 5) (pv 2) (nomark _))))) (pss_one (ps_ret pe_bl)) pss_nil)))))
      (pss_one (ps_ret pe_bl))))), ?_⟩)
  · obtain ⟨F, v, l, n, wd, rfl, _⟩ := h
    rfl
  · obtain ⟨F, v, l, n, wd, rfl, sF, hv, ok, hw, ft, q⟩ := h
    have hv1 := hv.up sF
    have ty := hv1.ty T
    by_cases hs : ∃ b, l.body = .still b
    · obtain ⟨b, hb⟩ := hs
      rw [hb] at ty
      refine ⟨_, rfl, _, _, _, _, true, rfl, .own _, ty, T.e.kS, true, rfl, iteT ?_⟩
      obtain ⟨bg, sp, body⟩ := l
      cases hb
      obtain ⟨p, dx, u, rfl, h1, h2⟩ := hv1
      cases h2.intE
      refine ⟨_, rfl, p, _, dx, _, _, rfl, h1, T.c_Still, T.n_Still_back, rfl, _, rfl, _, _, rfl, rfl, ?_⟩
      show Q (.bl (decide ((b : Int) ≤ (n : Int)))) H
      rw [decide_eq_true (show (b : Int) ≤ (n : Int) from Int.ofNat_le.mpr ft)]
      exact q F H (Gw.refl sF)
    · have ns : ∀ b, l.body ≠ .still b := fun b e => hs ⟨b, e⟩
      have kit : PySem.W.kitOne K (.ref (l.body.cls K)) (.ref (He.ga K "Still")) = some false := by
        cases e : l.body with
        | full _ => exact T.e.kF
        | still b => exact absurd e (ns b)
        | woven _ => exact T.e.kW
      refine ⟨_, rfl, _, _, _, _, false, rfl, .own _, ty, kit, false, rfl, iteF ?_⟩
      obtain ⟨a, C, dx, fs, hC, e, ha, hl⟩ := hv1.cells ns
      refine ⟨_, rfl, a, C, _, dx, fs, hC, e, ha, hl, v, l, rfl, hv1, rfl, _, rfl, rfl, ?_⟩
      rw [ft.len ns]
      refine ⟨_, rfl, ?_⟩
      rw [decide_eq_true (rfl : V.int (wd : Int) = V.int (wd : Int))]
      refine iteF ?_
      refine ⟨_, rfl, (wd : Int), rfl, by omega, by omega, ?_⟩
      refine for_range (fun i σ H' => ∃ x y z F', σ = [some v, some (.int (n : Int)), some (.int (wd : Int)), x, y, z] ∧ Gw [] F H F' H') ⟨_, _, _, F, rfl, Gw.refl sF⟩ ?_ ?_
      · rintro i σ H1 hi ⟨x, y, z, F1, rfl, g1⟩
        obtain ⟨r, hr2, hn⟩ := ft.rule ns (c := i) (by omega)
        have hv2 := hv.up g1.fs
        obtain ⟨a, C, dx, fs, hC, e, ha, hl⟩ := (hv2.up g1.sub).rule
        refine ⟨_, rfl, a, C, _, dx, fs, hC, e, ha, hl, _, rfl, F1, v, l, i, r, (by rw [Int.zero_add]), g1.sub, hv2, rfl, ok.body, hr2, by omega, fun F2 H2 u2 g2 ru => ?_⟩
        obtain ⟨a, C, dx, fs, hC, e, ha, hl⟩ := (ru.up g2.sub).cls
        refine ⟨a, C, _, dx, fs, hC, e, ha, hl, F2, u2, r, rfl, g2.sub, ru, rfl, fun F3 H3 u3 g3 hd => ?_⟩
        obtain ⟨b, xs, rfl, t1, t2⟩ := hd.lstE
        have g13 := (g1.call g2).call g3
        refine ⟨b, rfl, ⟨xs, g3.sub.seq t1⟩, ?_⟩
        refine for_list (xs := xs) (fun j σ H' => ∃ x y z F', σ = [some v, some (.int (n : Int)), some (.int (wd : Int)), x, y, z] ∧ Gw [] F H F' H' ∧ Same F3 F') ⟨_, _, _, F3, rfl, g13, Same.refl _⟩ ?_ ?_ ?_
        · rintro j σ H4 hj ⟨x, y, z, F4, rfl, g4, s4⟩
          exact (s4.trans g4.sub).seq t1
        · rintro j x5 σ H4 hj ⟨x, y, z, F4, rfl, g4, s4⟩
          obtain ⟨d, hd5, dp⟩ := t2.at hj
          obtain ⟨p, hp, rfl⟩ := map_at hd5
          obtain ⟨c, ys, rfl, k1, k2⟩ := (dp.up (s4.trans g4.sub)).tupE
          obtain ⟨w1, _, rfl, f1, k2⟩ := k2.consE
          obtain ⟨w2, _, rfl, f2, k2⟩ := k2.consE
          cases k2.nilE
          cases f1.intE
          cases f2.intE
          obtain ⟨b1, b2⟩ := hn p (List.mem_of_getElem? hp)
          refine ⟨_, _, rfl, k1, rfl, _, _, rfl, _, _, rfl, rfl, ?_⟩
          refine ⟨_, rfl, _, rfl, _, _, rfl, rfl, _, rfl, ?_⟩
          rw [decide_eq_false (show ¬ ((n : Int) < (p.1 : Int)) by omega)]
          refine iteF ⟨_, rfl, _, rfl, _, _, rfl, rfl, _, rfl, ?_⟩
          rw [decide_eq_false (show ¬ ((wd : Int) ≤ (p.2 : Int)) by omega)]
          exact iteF ⟨_, _, _, F4, rfl, g4, s4⟩
        · rintro σ H4 ⟨x, y, z, F4, rfl, g4, s4⟩
          exact ⟨_, _, _, F4, rfl, g4⟩
      · rintro σ H1 ⟨x, y, z, F1, rfl, g1⟩
        exact q F1 H1 g1
end
end Sc

namespace Sc
open PySem PySem.Spec PyProof.Rows L2
/-! films -/
def LaneAt (K : PySem.W.Frag) (H : Hp) (v : V) (l : LaneD) : Prop :=
  ∃ (t lv : Addr) (xs : List V) (ed : V), v = .ref t ∧ SqT K H t [.int l.units, .ref lv, ed] ∧ SqL K H lv xs ∧ Al (LeafAt K H) xs l.leaves ∧ Dp K H ed (.list (l.edits.map EditD.dat))
def FilmAt (K : PySem.W.Frag) (H : Hp) (v : V) (f : FilmD) : Prop :=
  ∃ (p dx lv : Addr) (xs : List V), v = .ref p ∧ H p = some (.ins (He.ga K "Film") dx [("seal", .int f.sg), ("wide", .int (f.wide : Int)), ("lanes", .ref lv)]) ∧ SqL K H lv xs ∧ Al (LaneAt K H) xs f.lanes
theorem LaneAt.up {K : PySem.W.Frag} {H H' : Hp} {v : V} {l : LaneD} (h : LaneAt K H v l) (s : Same H H') : LaneAt K H' v l := by
  obtain ⟨t, lv, xs, ed, e, h1, h2, h3, h4⟩ := h
  exact ⟨t, lv, xs, ed, e, Same.tup s h1, s.seq h2, h3.mono fun _ _ h => h.up s, h4.up s⟩
theorem FilmAt.up {K : PySem.W.Frag} {H H' : Hp} {v : V} {f : FilmD} (h : FilmAt K H v f) (s : Same H H') : FilmAt K H' v f := by
  obtain ⟨p, dx, lv, xs, e, h1, h2, h3⟩ := h
  exact ⟨p, dx, lv, xs, e, s _ _ h1, s.seq h2, h3.mono fun _ _ h => h.up s⟩
def Apart (a b : LeafD) : Prop := a.bg + a.sp ≤ b.bg ∨ b.bg + b.sp ≤ a.bg
structure OkLane (l : LaneD) (wd : Nat) : Prop where
  u0 : 1 ≤ l.units
  u1 : l.units ≤ 1000000
  few : l.leaves.length ≤ 5
  leaf : ∀ (i : Nat) (x : LeafD), l.leaves[i]? = some x → OkL x ∧ Fits x i wd
  apart : ∀ (i j : Nat) (x y : LeafD), l.leaves[i]? = some x → l.leaves[j]? = some y → j < i → Apart x y
  efew : l.edits.length ≤ 60
  edit : ∀ e, e ∈ l.edits → OkEdit e
structure OkFilm (f : FilmD) : Prop where
  g0 : 0 ≤ f.sg
  g1 : f.sg ≤ 1000000000
  w0 : 1 ≤ f.wide
  w1 : f.wide ≤ 4
  n0 : 1 ≤ f.lanes.length
  n1 : f.lanes.length ≤ 3
  lane : ∀ l, l ∈ f.lanes → OkLane l f.wide
section
variable {P : Program} {w : World} {K : PySem.W.Frag} {mg : Str → Option Value} {base : Heap}
def sp_Film_init (K : PySem.W.Frag) : Sp := fun vs H Q _ => ∃ (x dx : Addr) (u v y : V), vs = [.ref x, u, v, y] ∧ H x = some (.ins (He.ga K "Film") dx []) ∧ Q .non (upd H x (.ins (He.ga K "Film") dx [("seal", u), ("wide", v), ("lanes", y)]))
def sp_Film_len (K : PySem.W.Frag) : Sp := fun vs H Q _ => ∃ (v : V) (f : FilmD), vs = [v] ∧ FilmAt K H v f ∧ Q (.int (f.lanes.length : Nat)) H
def sp_Film_told (K : PySem.W.Frag) : Sp := fun vs H Q _ => ∃ (F : Hp) (v : V) (f : FilmD), vs = [v] ∧ Same F H ∧ FilmAt K F v f ∧ OkFilm f ∧ ∀ F' H' u, Gw [] F H F' H' → Dp K F' u f.dat → Q u H'
def sp_Film_lane_at (K : PySem.W.Frag) : Sp := fun vs H Q _ => ∃ (F : Hp) (v : V) (f : FilmD) (i : Nat) (l : LaneD), vs = [v, .int (i : Int)] ∧ Same F H ∧ FilmAt K F v f ∧ f.lanes[i]? = some l ∧ ∀ u, LaneAt K F u l → Q u H
def sp_Film_leaf_there (K : PySem.W.Frag) : Sp := fun vs H Q _ => ∃ (F : Hp) (v : V) (f : FilmD) (i j : Nat) (l : LaneD) (x : LeafD), vs = [v, .int (i : Int), .int (j : Int)] ∧ Same F H ∧ FilmAt K F v f ∧ f.lanes[i]? = some l ∧ l.leaves[j]? = some x ∧ ∀ u, LeafAt K F u x → Q u H
def sp_Film_units (K : PySem.W.Frag) : Sp := fun vs H Q _ => ∃ (v : V) (f : FilmD) (i : Nat) (l : LaneD), vs = [v, .int (i : Int)] ∧ FilmAt K H v f ∧ f.lanes[i]? = some l ∧ Q (.int l.units) H
def sp_Film_many (K : PySem.W.Frag) : Sp := fun vs H Q _ => ∃ (v : V) (f : FilmD) (i : Nat) (l : LaneD), vs = [v, .int (i : Int)] ∧ FilmAt K H v f ∧ f.lanes[i]? = some l ∧ Q (.int (l.leaves.length : Nat)) H
def sp_Film_told_leaf (K : PySem.W.Frag) : Sp := fun vs H Q _ => ∃ (F : Hp) (v : V) (f : FilmD) (i j : Nat) (l : LaneD) (x : LeafD), vs = [v, .int (i : Int), .int (j : Int)] ∧ Same F H ∧ FilmAt K F v f ∧ f.lanes[i]? = some l ∧ l.leaves[j]? = some x ∧ ∀ F' H' u, Gw [] F H F' H' → Dp K F' u x.dat → Q u H'
abbrev N_Film_init : List Str := ["self", "seal", "wide", "lanes"]
theorem sc_Film_init : FnScope N_Film_init ["self", "seal", "wide", "lanes"] (defScope s_Film_init) := ⟨rfl, rfl, rfl, by decide +kernel, rfl, by decide +kernel, by decide +kernel⟩
theorem ok_Film_init (T : Ts K mg) : C8.Mak P w K mg base 1 "Film" (He.ga K "Film") (sp_Film_init K) [] := by
  refine mak_of T.k_Film T.g_Film T.f_Film_init sc_Film_init (fun vs H Q E h => ?_) (fun _ _ _ _ _ _ us hl => match us, hl with | [_, _, _, _], _ => rfl) (fun cdv A outer s H vs Q E hr h => ⟨_, (pss_cons (ps_fld (pv 0) (pv 1) rfl)
      (pss_cons (ps_fld (pv 0) (pv 2) rfl)
      (pss_one (ps_fld (pv 0) (pv 3) rfl)))), ?_⟩)
  · obtain ⟨x, dx, u, v, y, rfl, _⟩ := h
    rfl
  · obtain ⟨x, dx, u, v, y, rfl, hx, q⟩ := h
    refine ⟨_, rfl, _, rfl, x, _, dx, _, rfl, hx, T.c_Film, T.n_Film_seal, fl0, ?_⟩
    refine ⟨_, rfl, _, rfl, x, _, dx, _, rfl, upd_same, T.c_Film, T.n_Film_wide, fl1, ?_⟩
    refine ⟨_, rfl, _, rfl, x, _, dx, _, rfl, upd_same, T.c_Film, T.n_Film_lanes, fl2, ?_⟩
    rw [upd_upd, upd_upd]
    exact q
abbrev N_Film_len : List Str := ["self"]
theorem sc_Film_len : FnScope N_Film_len ["self"] (defScope s_Film_len) := ⟨rfl, rfl, rfl, by decide +kernel, rfl, by decide +kernel, by decide +kernel⟩
theorem ok_Film_len (T : Ts K mg) : C8.Met P w K mg base 1 (He.ga K "Film") "__len__" (sp_Film_len K) [] := by
  refine met_of T.c_Film T.t_Film_len T.f_Film_len sc_Film_len (fun vs H Q E h => ?_) (fun _ _ _ _ _ _ us hl => match us, hl with | [_], _ => rfl) (fun cdv A outer s H vs Q E hr h => ⟨_, (pss_one (ps_ret (pe_callB call_len (by rfl) T.m_len PySem.boot_len (pa_cons (pe_fld (pv 0) rfl) pa_nil)))), ?_⟩)
  · obtain ⟨v, f, rfl, _⟩ := h
    rfl
  · obtain ⟨v, f, rfl, hf, q⟩ := h
    obtain ⟨p, dx, lv, xs, rfl, h1, h2, h3⟩ := hf
    refine ⟨_, rfl, p, _, dx, _, _, rfl, h1, T.c_Film, T.n_Film_lanes, rfl, _, _, rfl, .inl ⟨_, h2, rfl⟩, ?_⟩
    rw [h3.len]
    exact q
abbrev N_Film_lane_at : List Str := ["self", "lane"]
theorem sc_Film_lane_at : FnScope N_Film_lane_at ["self", "lane"] (defScope s_Film_lane_at) := ⟨rfl, rfl, rfl, by decide +kernel, rfl, by decide +kernel, by decide +kernel⟩
theorem ok_Film_lane_at (T : Ts K mg) (c_is_whole : C8.Cal P w K mg base 1 "is_whole" sp_is_whole []) : C8.Met P w K mg base 2 (He.ga K "Film") "lane_at" (sp_Film_lane_at K) [] := by
  refine met_of T.c_Film T.t_Film_lane_at T.f_Film_lane_at sc_Film_lane_at (fun vs H Q E h => ?_) (fun _ _ _ _ _ _ us hl => match us, hl with | [_, _], _ => rfl) (fun cdv A outer s H vs Q E hr h => ⟨_, (pss_cons (ps_if (pt_not (pt_val (C8.pe_c c_is_whole hr (by decide) (by rfl) (pa_cons (pv 1) (pa_cons pe_int (pa_cons (pe_op op_sub (pe_callB call_len (by rfl) T.m_len PySem.boot_len (pa_cons (pe_fld (pv 0) rfl) pa_nil)) pe_int) pa_nil)))))) (pss_one ps_never) pss_nil)
      (pss_one (ps_ret (pe_ix ix_list (pe_fld (pv 0) rfl) (pv 1) (fun _ _ => rfl))))), ?_⟩)
  · obtain ⟨F, v, f, i, l, rfl, _⟩ := h
    rfl
  · obtain ⟨F, v, f, i, l, rfl, sF, hf, hi, q⟩ := h
    obtain ⟨p, dx, lv, xs, rfl, h1, h2, h3⟩ := hf
    have h1' := sF _ _ h1
    have h2' := sF.seq h2
    have hl := (List.getElem?_eq_some_iff.mp hi).1
    have hlen := h3.len
    obtain ⟨x, hx, hl2⟩ := h3.at2 hi
    refine ⟨_, rfl, _, rfl, p, _, dx, _, _, rfl, h1', T.c_Film, T.n_Film_lanes, rfl, _, _, rfl, .inl ⟨_, h2', rfl⟩, _, _, rfl, rfl, _, _, _, rfl, by omega, by omega, true, rfl, iteF ?_⟩
    exact ⟨_, rfl, p, _, dx, _, _, rfl, h1', T.c_Film, T.n_Film_lanes, rfl, _, rfl, _, _, _, _, rfl, rfl, h2', atI_nat hx, q _ hl2⟩
abbrev N_Film_leaf_there : List Str := ["self", "lane", "number", "leaves"]
theorem sc_Film_leaf_there : FnScope N_Film_leaf_there ["self", "lane", "number"] (defScope s_Film_leaf_there) := ⟨rfl, rfl, rfl, by decide +kernel, rfl, by decide +kernel, by decide +kernel⟩
theorem ok_Film_leaf_there (T : Ts K mg) (c_is_whole : C8.Cal P w K mg base 1 "is_whole" sp_is_whole []) (c_lane_at : C8.Met P w K mg base 2 (He.ga K "Film") "lane_at" (sp_Film_lane_at K) []) : C8.Met P w K mg base 3 (He.ga K "Film") "leaf_there" (sp_Film_leaf_there K) [] := by
  refine met_of T.c_Film T.t_Film_leaf_there T.f_Film_leaf_there sc_Film_leaf_there (fun vs H Q E h => ?_) (fun _ _ _ _ _ _ us hl => match us, hl with | [_, _, _], _ => rfl) (fun cdv A outer s H vs Q E hr h => ⟨_, (pss_cons (ps_set (i := 3) sc_Film_leaf_there.nd rfl (Or.inl rfl) (pe_ix ix_tup (C8.pe_mt c_lane_at hr (by decide) (pv 0) (pa_cons (pv 1) pa_nil)) pe_int (fun _ _ => rfl)))
      (pss_cons (ps_if (pt_not (pt_val (C8.pe_c c_is_whole hr (by decide) (by rfl) (pa_cons (pv 2) (pa_cons pe_int (pa_cons (pe_op op_sub (pe_callB call_len (by rfl) T.m_len PySem.boot_len (pa_cons (pv 3) pa_nil)) pe_int) pa_nil)))))) (pss_one ps_never) pss_nil)
      (pss_one (ps_ret (pe_ix ix_list (pv 3) (pv 2) (fun _ _ => rfl)))))), ?_⟩)
  · obtain ⟨F, v, f, i, j, l, x, rfl, _⟩ := h
    rfl
  · obtain ⟨F, v, f, i, j, l, x, rfl, sF, hf, hi, hj, q⟩ := h
    obtain ⟨p, dx, lv, xs, rfl, h1, h2, h3⟩ := id hf
    refine ⟨_, rfl, p, dx, _, rfl, sF _ _ h1, rfl, _, rfl, F, _, f, i, l, rfl, sF, hf, hi, fun u hu => ?_⟩
    obtain ⟨t, lv2, ys, ed, rfl, t1, t2, t3, t4⟩ := hu
    have hl := (List.getElem?_eq_some_iff.mp hj).1
    have hlen := t3.len
    obtain ⟨y, hy, hl2⟩ := t3.at2 hj
    have t2' := sF.seq t2
    refine ⟨_, _, _, _, rfl, rfl, Same.tup sF t1, rfl, ?_⟩
    refine ⟨_, rfl, _, rfl, _, _, rfl, .inl ⟨_, t2', rfl⟩, _, _, rfl, rfl, _, _, _, rfl, by omega, by omega, true, rfl, iteF ?_⟩
    exact ⟨_, rfl, _, rfl, _, _, _, _, rfl, rfl, t2', atI_nat hy, q _ hl2⟩
abbrev N_Film_units : List Str := ["self", "lane"]
theorem sc_Film_units : FnScope N_Film_units ["self", "lane"] (defScope s_Film_units) := ⟨rfl, rfl, rfl, by decide +kernel, rfl, by decide +kernel, by decide +kernel⟩
theorem ok_Film_units (T : Ts K mg) (c_lane_at : C8.Met P w K mg base 2 (He.ga K "Film") "lane_at" (sp_Film_lane_at K) []) : C8.Met P w K mg base 3 (He.ga K "Film") "units" (sp_Film_units K) [] := by
  refine met_of T.c_Film T.t_Film_units T.f_Film_units sc_Film_units (fun vs H Q E h => ?_) (fun _ _ _ _ _ _ us hl => match us, hl with | [_, _], _ => rfl) (fun cdv A outer s H vs Q E hr h => ⟨_, (pss_one (ps_ret (pe_ix ix_tup (C8.pe_mt c_lane_at hr (by decide) (pv 0) (pa_cons (pv 1) pa_nil)) pe_int (fun _ _ => rfl)))), ?_⟩)
  · obtain ⟨v, f, i, l, rfl, _⟩ := h
    rfl
  · obtain ⟨v, f, i, l, rfl, hf, hi, q⟩ := h
    obtain ⟨p, dx, lv, xs, rfl, h1, h2, h3⟩ := id hf
    refine ⟨_, rfl, p, dx, _, rfl, h1, rfl, _, rfl, H, _, f, i, l, rfl, Same.refl _, hf, hi, fun u hu => ?_⟩
    obtain ⟨t, lv2, ys, ed, rfl, t1, t2, t3, t4⟩ := hu
    exact ⟨_, _, _, _, rfl, rfl, t1, rfl, q⟩
abbrev N_Film_many : List Str := ["self", "lane"]
theorem sc_Film_many : FnScope N_Film_many ["self", "lane"] (defScope s_Film_many) := ⟨rfl, rfl, rfl, by decide +kernel, rfl, by decide +kernel, by decide +kernel⟩
theorem ok_Film_many (T : Ts K mg) (c_lane_at : C8.Met P w K mg base 2 (He.ga K "Film") "lane_at" (sp_Film_lane_at K) []) : C8.Met P w K mg base 3 (He.ga K "Film") "many" (sp_Film_many K) [] := by
  refine met_of T.c_Film T.t_Film_many T.f_Film_many sc_Film_many (fun vs H Q E h => ?_) (fun _ _ _ _ _ _ us hl => match us, hl with | [_, _], _ => rfl) (fun cdv A outer s H vs Q E hr h => ⟨_, (pss_one (ps_ret (pe_callB call_len (by rfl) T.m_len PySem.boot_len (pa_cons (pe_ix ix_tup (C8.pe_mt c_lane_at hr (by decide) (pv 0) (pa_cons (pv 1) pa_nil)) pe_int (fun _ _ => rfl)) pa_nil)))), ?_⟩)
  · obtain ⟨v, f, i, l, rfl, _⟩ := h
    rfl
  · obtain ⟨v, f, i, l, rfl, hf, hi, q⟩ := h
    obtain ⟨p, dx, lv, xs, rfl, h1, h2, h3⟩ := id hf
    refine ⟨_, rfl, p, dx, _, rfl, h1, rfl, _, rfl, H, _, f, i, l, rfl, Same.refl _, hf, hi, fun u hu => ?_⟩
    obtain ⟨t, lv2, ys, ed, rfl, t1, t2, t3, t4⟩ := hu
    refine ⟨_, _, _, _, rfl, rfl, t1, rfl, _, _, rfl, .inl ⟨_, t2, rfl⟩, ?_⟩
    rw [t3.len]
    exact q
abbrev N_Film_told_leaf : List Str := ["self", "lane", "number"]
theorem sc_Film_told_leaf : FnScope N_Film_told_leaf ["self", "lane", "number"] (defScope s_Film_told_leaf) := ⟨rfl, rfl, rfl, by decide +kernel, rfl, by decide +kernel, by decide +kernel⟩
theorem ok_Film_told_leaf (T : Ts K mg) (c_leaf_there : C8.Met P w K mg base 3 (He.ga K "Film") "leaf_there" (sp_Film_leaf_there K) []) (c_told : ∀ C sp, (C, sp) ∈ toldL K → C8.Met P w K mg base 1 C "told" sp []) : C8.Met P w K mg base 4 (He.ga K "Film") "told_leaf" (sp_Film_told_leaf K) [] := by
  refine met_of T.c_Film T.t_Film_told_leaf T.f_Film_told_leaf sc_Film_told_leaf (fun vs H Q E h => ?_) (fun _ _ _ _ _ _ us hl => match us, hl with | [_, _, _], _ => rfl) (fun cdv A outer s H vs Q E hr h => ⟨_, (pss_one (ps_ret (pe_mtD0 c_told hr (by decide) (C8.pe_mt c_leaf_there hr (by decide) (pv 0) (pa_cons (pv 1) (pa_cons (pv 2) pa_nil)))))), ?_⟩)
  · obtain ⟨F, v, f, i, j, l, x, rfl, _⟩ := h
    rfl
  · obtain ⟨F, v, f, i, j, l, x, rfl, sF, hf, hi, hj, q⟩ := h
    obtain ⟨p, dx, lv, xs, rfl, h1, h2, h3⟩ := id hf
    refine ⟨_, rfl, p, dx, _, rfl, sF _ _ h1, rfl, _, rfl, _, rfl, F, _, f, i, j, l, x, rfl, sF, hf, hi, hj, fun u hu => ?_⟩
    obtain ⟨a, C, dx, fs, hC, e, ha, hl⟩ := (hu.up sF).told
    exact ⟨a, C, _, dx, fs, hC, e, ha, hl, F, u, x, rfl, sF, hu, rfl, q⟩
end
end Sc

namespace Sc
open PySem PySem.Spec PyProof.Rows L2
section
variable {P : Program} {w : World} {K : PySem.W.Frag} {mg : Str → Option Value} {base : Heap}
theorem seqUp {K : PySem.W.Frag} {F H : Hp} {a : Addr} {xs : List V} (s : Same F H) (h : SqL K F a xs) : SqL K H a xs := s.seq h
theorem tyL {K : PySem.W.Frag} {H : Hp} {p : Addr} {xs : List V} (h : H p = some (.lst xs)) : tyV K "list" (.ref p) H := .inl ⟨rfl, xs, .inl (.inl h)⟩
theorem lt_line {n : Nat} (h : n ≤ 1000) : n < sizeLine := Nat.lt_of_le_of_lt (Nat.le_trans h (by decide : (1000 : Nat) ≤ 1000)) (by decide)
theorem take_succ_map {α β : Type} {f : α → β} {l : List α} {i : Nat} {x : α} (h : l[i]? = some x) : (l.take (i + 1)).map f = (l.take i).map f ++ [f x] := by
  rw [List.take_add_one, h, List.map_append]
  rfl
abbrev N_Film_told : List Str := ["self", "lanes", "units", "leaves", "edits", "leaf"]
theorem sc_Film_told : FnScope N_Film_told ["self"] (defScope s_Film_told) := ⟨rfl, rfl, rfl, by decide +kernel, rfl, by decide +kernel, by decide +kernel⟩
theorem ok_Film_told (T : Ts K mg) (c_told : ∀ C sp, (C, sp) ∈ toldL K → C8.Met P w K mg base 1 C "told" sp []) : C8.Met P w K mg base 2 (He.ga K "Film") "told" (sp_Film_told K) [] := by
  refine met_of T.c_Film T.t_Film_told T.f_Film_told sc_Film_told (fun vs H Q E h => ?_) (fun _ _ _ _ _ _ us hl => match us, hl with | [_], _ => rfl) (fun cdv A outer s H vs Q E hr h => ⟨_, (pss_cons (ps_set (i := 1) sc_Film_told.nd rfl (Or.inl rfl) (pe_lst pa_nil))
      (pss_cons (ps_for PassesOwn.never rfl (pi_list (pe_fld (pv 0) rfl)) (pg_tup rfl (pgs_cons (pg_name (i := 2) sc_Film_told.nd rfl (Or.inl rfl)) (pgs_cons (pg_name (i := 3) sc_Film_told.nd rfl (Or.inl rfl)) (pgs_cons (pg_name (i := 4) sc_Film_told.nd rfl (Or.inl rfl)) pgs_nil)))) (pss_one (ps_expr (pe_bm PySem.F.plainAttrs_list PySem.F.slot_list_append PySem.F.type_list_append mt_append (pv 1) (pa_cons (pe_tup (pa_cons (pv 2) (pa_cons (pe_lc (own := [("leaf", 5)]) rfl sc_Film_told.nd (pi_list (pv 3)) (blkOk_by (N := N_Film_told) (sc := defScope s_Film_told) (by decide +kernel)) (fun _ _ _ _ _ => (pg_name (i := 5) sc_Film_told.nd rfl (Or.inl rfl))) (fun _ _ _ _ _ => pts_nil) (fun _ _ _ _ _ => (pe_mtD0 c_told hr (by decide) (pv 5)))) (pa_cons (pe_callTy call_list_of (by rfl) T.m_list (by decide +kernel) (pa_cons (pv 4) pa_nil)) pa_nil)))) pa_nil)))))
      (pss_one (ps_ret (pe_tup (pa_cons (pe_fld (pv 0) rfl) (pa_cons (pe_fld (pv 0) rfl) (pa_cons (pv 1) pa_nil)))))))), ?_⟩)
  · obtain ⟨F, v, f, rfl, _⟩ := h
    rfl
  · obtain ⟨F, v, f, rfl, sF, hf, ok, q⟩ := h
    obtain ⟨p, dx, lv, xs, rfl, h1, h2, h3⟩ := id hf
    refine ⟨by decide, fun L0 hL0 => ?_⟩
    have g0 := (Gw.refl (M := []) sF).alloc (o := .lst []) hL0
    refine ⟨_, rfl, p, _, dx, _, _, rfl, g0.sub _ _ h1, T.c_Film, T.n_Film_lanes, rfl, lv, rfl, ⟨xs, g0.sub.seq h2⟩, ?_⟩
    refine for_list (xs := xs) (fun i σ H' => ∃ x2 x3 x4 x5 F' acc, σ = [some (.ref p), some (.ref L0), x2, x3, x4, x5] ∧ Gw [] F H F' H' ∧ H' L0 = some (.lst acc) ∧ F' L0 = none ∧ Al (Dp K F') acc ((f.lanes.take i).map LaneD.dat)) ⟨_, _, _, _, F, [], rfl, g0, upd_same, sF.free hL0, .nil⟩ ?_ ?_ ?_
    · rintro i σ H1 hi ⟨x2, x3, x4, x5, F1, acc, rfl, g1, _⟩
      exact (g1.fs.trans g1.sub).seq h2
    · rintro i x σ H1 hx ⟨x2, x3, x4, x5, F1, acc, rfl, g1, hL, hF, hal⟩
      obtain ⟨l, hl, hlane⟩ := h3.at1 hx
      have okl := ok.lane l (List.mem_of_getElem? hl)
      obtain ⟨t, lv2, ys, ed, rfl, t1, t2, t3, t4⟩ := hlane.up g1.fs
      refine ⟨_, _, rfl, Same.tup g1.sub t1, rfl, _, _, rfl, _, _, rfl, _, _, rfl, rfl, ?_⟩
      refine ⟨_, rfl, tyL hL, _, rfl, _, rfl, lv2, rfl, ⟨ys, g1.sub.seq t2⟩, fun D hD => ?_⟩
      have hylen := t3.len
      have hfew := okl.few
      refine lc_gw (M := []) (F1 := F1) walk_list (fun _ => True) (fun i F' y => ∃ d, l.leaves[i]? = some d ∧ Dp K F' y d.dat) g1.sub hD (by simp) (by omega) trivial (fun _ _ _ => trivial) (fun _ _ _ _ s h => let ⟨d, e, r⟩ := h; ⟨d, e, r.up s⟩) (fun H s => s.seq t2) ?_ ?_
      · rintro j y F2 H2 _ Q' hj sub fs _ ⟨rfl, hy⟩ k
        obtain ⟨d, hd, hleaf⟩ := t3.at1 hy
        obtain ⟨a, C, dx', fs', hC, e, ha, hlk⟩ := ((hleaf.up fs).up sub).told
        exact ⟨rfl, _, rfl, a, C, _, dx', fs', hC, e, ha, hlk, F2, y, d, rfl, sub, hleaf.up fs, rfl, fun F3 H3 u g hd3 => k u F3 H3 g trivial ⟨d, hd, hd3⟩⟩
      · intro F2 H2 acc2 g2 fs2 _ hDa hFD hlen hres
        have ne : L0 ≠ D := fun z => by rw [z, hD] at hL; cases hL
        have hL2 := g2.same _ _ hL
        have hF2 : F2 L0 = none := g2.out hL hF
        have g3 := (g1.call g2).hold hDa (g1.dom _ hD) hFD
        have dL : DpAll K F2 acc2 (l.leaves.map LeafD.dat) := DpAll_of (by rw [hlen, hylen, List.length_map]) fun j y d e1 e2 => by
          obtain ⟨d', e3, r⟩ := hres j y e1
          rw [List.getElem?_map, e3] at e2
          cases e2
          exact r
        obtain ⟨eb, es, rfl, u1, u2⟩ := (t4.up fs2).lstE
        refine ⟨_, rfl, eb, es, rfl, .inl (g2.sub.seq u1), fun l1 hl1 => ?_⟩
        refine ⟨by show 3 ≤ sizeLine; decide, fun tp htp => ?_⟩
        have g4 := g3.frz (o := .lst es) hl1
        have g5 := g4.frz (o := .tup [.int l.units, .ref D, .ref l1]) htp
        have nL1 : L0 ≠ l1 := fun z => by rw [z, hl1] at hL2; cases hL2
        have hLt : upd H2 l1 (.lst es) L0 = some (.lst acc) := by rw [upd_ne nL1]; exact hL2
        have nTp : L0 ≠ tp := fun z => by rw [z, htp] at hLt; cases hLt
        have hL5 : upd (upd H2 l1 (.lst es)) tp (.tup [.int l.units, .ref D, .ref l1]) L0 = some (.lst acc) := by rw [upd_ne nTp]; exact hLt
        have hF5 : upd (upd (upd F2 D (.lst acc2)) l1 (.lst es)) tp (.tup [.int l.units, .ref D, .ref l1]) L0 = none := by
          rw [upd_ne nTp, upd_ne nL1, upd_ne ne]
          exact hF2
        have s34 : Same (upd F2 D (.lst acc2)) (upd (upd F2 D (.lst acc2)) l1 (.lst es)) := same_new (g3.ffresh hl1)
        have s45 : Same (upd (upd F2 D (.lst acc2)) l1 (.lst es)) (upd (upd (upd F2 D (.lst acc2)) l1 (.lst es)) tp (.tup [.int l.units, .ref D, .ref l1])) := same_new (g4.ffresh htp)
        have s23 : Same F2 (upd F2 D (.lst acc2)) := same_new hFD
        have hacc := hal.len
        rw [List.length_map, List.length_take] at hacc
        have hn1 := ok.n1
        refine ⟨L0, acc, _, rfl, rfl, hL5, lt_line (by omega), ?_⟩
        refine ⟨_, _, _, _, _, acc ++ [.ref tp], rfl, g5.put (.inl hL0) hF5 hL5, upd_same, hF5, ?_⟩
        rw [take_succ_map hl]
        refine (hal.mono fun _ _ h => (((h.up fs2).up s23).up s34).up s45).snoc ?_
        exact .tup (SqT.of upd_same) (.cons (.int _) (.cons (.lst (.inl (.inl (s45 _ _ (s34 _ _ upd_same)))) (((dL.up s23).up s34).up s45)) (.cons (.lst (.inl (.inl (s45 _ _ upd_same))) (((u2.up s23).up s34).up s45)) .nil)))
    · rintro σ H1 ⟨x2, x3, x4, x5, F1, acc, rfl, g1, hL, hF, hal⟩
      have h1' := g1.sub _ _ (g1.fs _ _ h1)
      refine ⟨_, rfl, p, _, dx, _, _, rfl, h1', T.c_Film, T.n_Film_seal, rfl, _, rfl, p, _, dx, _, _, rfl, h1', T.c_Film, T.n_Film_wide, rfl, _, rfl, by show 3 ≤ sizeLine; decide, fun tp htp => ?_⟩
      have g2 := (g1.hold hL hL0 hF).frz (o := .tup [.int f.sg, .int (f.wide : Int), .ref L0]) htp
      refine q _ _ _ g2 ?_
      have e : f.lanes.take xs.length = f.lanes := by rw [h3.len, List.take_length]
      rw [e] at hal
      have s12 : Same F1 (upd F1 L0 (.lst acc)) := same_new hF
      have s23 : Same (upd F1 L0 (.lst acc)) (upd (upd F1 L0 (.lst acc)) tp (.tup [.int f.sg, .int (f.wide : Int), .ref L0])) := same_new ((g1.hold hL hL0 hF).ffresh htp)
      exact .tup (SqT.of upd_same) (.cons (.int _) (.cons (.int _) (.cons (.lst (.inl (.inl (s23 _ _ upd_same))) ((DpAll_al hal).up (s12.trans s23))) .nil)))
end
end Sc

namespace Sc
open PySem PySem.Spec PyProof.Rows L2
section
variable {P : Program} {w : World} {K : PySem.W.Frag} {mg : Str → Option Value} {base : Heap}
def sp_are_apart (K : PySem.W.Frag) : Sp := fun vs H Q _ => ∃ (u v : V) (a b : LeafD), vs = [u, v] ∧ LeafAt K H u a ∧ LeafAt K H v b ∧ Apart a b ∧ Q (.bl true) H
def sp_good_leaf (K : PySem.W.Frag) : Sp := fun vs H Q _ => ∃ (F : Hp) (v : V) (l : LeafD) (wd : Nat) (ah : Addr) (xs : List V) (ls : List LeafD), vs = [v, .int (wd : Int), .ref ah] ∧ Same F H ∧ Dp K F v l.dat ∧ OkL l ∧ H ah = some (.lst xs) ∧ Al (LeafAt K F) xs ls ∧ Fits l ls.length wd ∧
  (∀ o, o ∈ ls → Apart l o) ∧ (1 ≤ wd ∧ wd ≤ 4) ∧ xs.length ≤ 5 ∧ ∀ F' H' u, Gw [] F H F' H' → LeafAt K F' u l → Q u H'
def sp_lane_of (K : PySem.W.Frag) : Sp := fun vs H Q _ => ∃ (F : Hp) (v : V) (l : LaneD) (i : Int) (wd : Nat), vs = [v, .int i, .int (wd : Int)] ∧ Same F H ∧ Dp K F v l.dat ∧ OkLane l wd ∧ (1 ≤ wd ∧ wd ≤ 4) ∧ ∀ F' H' u, Gw [] F H F' H' → LaneAt K F' u l → Q u H'
def sp_film_of (K : PySem.W.Frag) : Sp := fun vs H Q _ => ∃ (F : Hp) (v : V) (f : FilmD), vs = [v] ∧ Same F H ∧ Dp K F v f.dat ∧ OkFilm f ∧ ∀ F' H' u, Gw [] F H F' H' → FilmAt K F' u f → Q u H'
/-- begin and span of any leaf -/
theorem LeafAt.flds (T : Ts K mg) {H : Hp} {v : V} {l : LeafD} (h : LeafAt K H v l) : ∃ a C dx fs, v = .ref a ∧ H a = some (.ins C dx fs) ∧ Cls K C ∧ NoAttr K C "begin" ∧ NoAttr K C "span" ∧ fs.lookup ("begin" : Str) = some (.int l.bg) ∧ fs.lookup ("span" : Str) = some (.int l.sp) := by
  obtain ⟨bg, sp, body⟩ := l
  obtain ⟨p, dx, u, rfl, h1, h2⟩ := h
  cases body with
  | full _ => exact ⟨p, _, dx, _, rfl, h1, T.c_Full, T.n_Full_begin, T.n_Full_span, rfl, rfl⟩
  | still _ => exact ⟨p, _, dx, _, rfl, h1, T.c_Still, T.n_Still_begin, T.n_Still_span, rfl, rfl⟩
  | woven _ => exact ⟨p, _, dx, _, rfl, h1, T.c_Woven, T.n_Woven_begin, T.n_Woven_span, rfl, rfl⟩
abbrev N_are_apart : List Str := ["one", "other"]
theorem sc_are_apart : FnScope N_are_apart ["one", "other"] (defScope s_are_apart) := ⟨rfl, rfl, rfl, by decide +kernel, rfl, by decide +kernel, by decide +kernel⟩
theorem ok_are_apart (T : Ts K mg) : C8.Cal P w K mg base 1 "are_apart" (sp_are_apart K) [] := by
  refine cal_of T.f_are_apart T.g_are_apart sc_are_apart (fun vs H Q E h => ?_) (fun _ _ _ _ _ _ us hl => match us, hl with | [_, _], _ => rfl) (fun cdv A outer s H vs Q E hr h => ⟨_, (pss_one (ps_ret (pe_or (pe_cmpR op_le (pe_op op_add (pe_fld (pv 0) rfl) (pe_fld (pv 0) rfl)) (pe_fld (pv 1) rfl) (nomark _)) (pe_one (pe_cmpR op_le (pe_op op_add (pe_fld (pv 1) rfl) (pe_fld (pv 1) rfl)) (pe_fld (pv 0) rfl) (nomark _)))))), ?_⟩)
  · obtain ⟨u, v, a, b, rfl, _⟩ := h
    rfl
  · obtain ⟨u, v, a, b, rfl, ha, hb, hap, q⟩ := h
    obtain ⟨x, C, dx, fs, rfl, h1, c1, nb, ns, l1, l2⟩ := ha.flds T
    obtain ⟨y, D, dy, gs, rfl, k1, c2, mb, ms, m1, m2⟩ := hb.flds T
    refine ⟨_, rfl, x, C, dx, fs, _, rfl, h1, c1, nb, l1, _, rfl, x, C, dx, fs, _, rfl, h1, c1, ns, l2, _, _, rfl, rfl, _, rfl, y, D, dy, gs, _, rfl, k1, c2, mb, m1, _, _, rfl, rfl, _, rfl, ?_⟩
    by_cases z : a.bg + a.sp ≤ b.bg
    · rw [decide_eq_true z]
      exact iteT q
    · rw [decide_eq_false z]
      refine iteF ⟨_, rfl, y, D, dy, gs, _, rfl, k1, c2, mb, m1, _, rfl, y, D, dy, gs, _, rfl, k1, c2, ms, m2, _, _, rfl, rfl, _, rfl, x, C, dx, fs, _, rfl, h1, c1, nb, l1, _, _, rfl, rfl, ?_⟩
      show Q (.bl (decide (b.bg + b.sp ≤ a.bg))) H
      rw [decide_eq_true (hap.resolve_left z)]
      exact q
abbrev N_good_leaf : List Str := ["told", "wide", "ahead", "leaf", "other"]
theorem sc_good_leaf : FnScope N_good_leaf ["told", "wide", "ahead"] (defScope s_good_leaf) := ⟨rfl, rfl, rfl, by decide +kernel, rfl, by decide +kernel, by decide +kernel⟩
theorem ok_good_leaf (T : Ts K mg) (c_leaf_of : C8.Cal P w K mg base 6 "leaf_of" (sp_leaf_of K) []) (c_fits : C8.Cal P w K mg base 5 "fits" (sp_fits K) []) (c_are_apart : C8.Cal P w K mg base 1 "are_apart" (sp_are_apart K) []) : C8.Cal P w K mg base 7 "good_leaf" (sp_good_leaf K) [] := by
  refine cal_of T.f_good_leaf T.g_good_leaf sc_good_leaf (fun vs H Q E h => ?_) (fun _ _ _ _ _ _ us hl => match us, hl with | [_, _, _], _ => rfl) (fun cdv A outer s H vs Q E hr h => ⟨_, (pss_cons (ps_try_thru0 (pss_one (ps_set (i := 3) sc_good_leaf.nd rfl (Or.inr rfl) (C8.pe_c c_leaf_of hr (by decide) (by rfl) (pa_cons (pv 0) pa_nil)))))
      (pss_cons (ps_if (PW.pt (pw_and (pt_val (C8.pe_c c_fits hr (by decide) (by rfl) (pa_cons (pv 3) (pa_cons (pe_callB call_len (by rfl) T.m_len PySem.boot_len (pa_cons (pv 2) pa_nil)) (pa_cons (pv 1) pa_nil))))) (pw_and1 (pt_val (pe_callB (cr_all rfl) (by rfl) T.m_all (by decide +kernel) (pa_cons (pe_lc (own := [("other", 4)]) rfl sc_good_leaf.nd (pi_list (pv 2)) (blkOk_by (N := N_good_leaf) (sc := defScope s_good_leaf) (by decide +kernel)) (fun _ _ _ _ _ => (pg_name (i := 4) sc_good_leaf.nd rfl (Or.inl rfl))) (fun _ _ _ _ _ => pts_nil) (fun _ _ _ _ _ => (C8.pe_c c_are_apart hr (by decide) (by rfl) (pa_cons (pv 3) (pa_cons (pv 4) pa_nil))))) pa_nil)))))) (pss_one (ps_ret (pv 3))) pss_nil)
      (pss_one (ps_ret pe_non)))), ?_⟩)
  · obtain ⟨F, v, l, wd, ah, xs, ls, rfl, _⟩ := h
    rfl
  · obtain ⟨F, v, l, wd, ah, xs, ls, rfl, sF, hv, ok, hah, hal, ft, hap, hw, hn, q⟩ := h
    refine ⟨_, rfl, F, v, l, rfl, sF, hv, ok, fun F1 H1 u g1 hl => ?_⟩
    have hah1 := g1.same _ _ hah
    refine ⟨_, rfl, _, rfl, _, _, rfl, .inl ⟨_, .inl (.inl hah1), rfl⟩, _, rfl, F1, u, l, xs.length, wd, rfl, g1.sub, hl, ok, hw, (by rw [hal.len]; exact ft), fun F2 H2 g2 => ?_⟩
    refine ⟨true, rfl, iteT ?_⟩
    have hah2 := g2.same _ _ hah1
    refine ⟨_, rfl, ah, rfl, ⟨xs, .inl (.inl hah2)⟩, fun D hD => ?_⟩
    have g12 := g1.call g2
    have hl2 := hl.up g2.fs
    refine lc_gwI (M := []) (F1 := F2) walk_list (fun H => H ah = some (.lst xs)) (fun _ _ v => v = .bl true) g2.sub hD (by simp) (by omega) hah2 (fun H o h => ?_) (fun _ _ _ _ _ h => h) (fun H s h => .inl (.inl h)) ?_ ?_
    · by_cases e : ah = D
      · rw [e, hD] at hah2
        cases hah2
      · rw [upd_ne e]
        exact h
    · rintro i x F3 H3 _ Q' hi sub fs hI ⟨rfl, hx⟩ k
      obtain ⟨o, ho, hlo⟩ := hal.at1 hx
      refine ⟨rfl, _, rfl, _, rfl, u, x, l, o, rfl, (hl2.up fs).up sub, ((hlo.up g12.fs).up fs).up sub, hap o (List.mem_of_getElem? ho), ?_⟩
      exact k _ F3 _ (Gw.refl sub) hI rfl
    · intro F3 H3 acc g3 fs3 hI hDa hFD hlen hres
      refine ⟨D, _, rfl, .inl (.inl (all_true hres ▸ hDa)), ?_⟩
      rw [show (List.replicate acc.length true).all id = true by simp]
      exact ⟨true, rfl, iteT ⟨_, rfl, q F3 H3 u (g12.call g3) (hl2.up fs3)⟩⟩
end
end Sc

namespace Sc
open PySem PySem.Spec PyProof.Rows L2
section
variable {P : Program} {w : World} {K : PySem.W.Frag} {mg : Str → Option Value} {base : Heap}
theorem ne_of_some {H : Hp} {a b : Addr} {o : HO} (h : H a = some o) (g : H b = none) : a ≠ b := fun z => by rw [z, g] at h; cases h
abbrev N_lane_of : List Str := ["told", "lane", "wide", "units", "leaves", "edits", "found", "number", "one", "leaf"]
theorem sc_lane_of : FnScope N_lane_of ["told", "lane", "wide"] (defScope s_lane_of) := ⟨rfl, rfl, rfl, by decide +kernel, rfl, by decide +kernel, by decide +kernel⟩
theorem ok_lane_of (T : Ts K mg) (c_is_whole : C8.Cal P w K mg base 1 "is_whole" sp_is_whole []) (c_good_leaf : C8.Cal P w K mg base 7 "good_leaf" (sp_good_leaf K) []) (c_are_lane_edits : C8.Cal P w K mg base 6 "are_lane_edits" (sp_are_lane_edits K) []) : C8.Cal P w K mg base 8 "lane_of" (sp_lane_of K) [] := by
  refine cal_of T.f_lane_of T.g_lane_of sc_lane_of (fun vs H Q E h => ?_) (fun _ _ _ _ _ _ us hl => match us, hl with | [_, _, _], _ => rfl) (fun cdv A outer s H vs Q E hr h => ⟨_, (pss_cons (ps_if (PW.pt (pw_or (pt_not (pt_val (pe_callB call_isi (by rfl) T.m_isinstance (by decide +kernel) (pa_cons (pv 0) (pa_cons (pe_bltn (v := .ty "tuple") (by rfl) T.m_tuple (by decide +kernel) rfl) pa_nil))))) (pw_or1 (pt_cmpR op_ne (pe_callB call_len (by rfl) T.m_len PySem.boot_len (pa_cons (pv 0) pa_nil)) pe_int (nomark _))))) (pss_one ps_never) pss_nil)
      (pss_cons (ps_asg (pv 0) (pg_tup rfl (pgs_cons (pg_name (i := 3) sc_lane_of.nd rfl (Or.inl rfl)) (pgs_cons (pg_name (i := 4) sc_lane_of.nd rfl (Or.inl rfl)) (pgs_cons (pg_name (i := 5) sc_lane_of.nd rfl (Or.inl rfl)) pgs_nil)))))
      (pss_cons (ps_if (PW.pt (pw_or (pt_not (pt_val (C8.pe_c c_is_whole hr (by decide) (by rfl) (pa_cons (pv 3) (pa_cons pe_int (pa_cons (pe_op op_pow pe_int pe_int) pa_nil)))))) (pw_or (pt_not (pt_val (pe_callB call_isi (by rfl) T.m_isinstance (by decide +kernel) (pa_cons (pv 4) (pa_cons (pe_bltn (v := .ty "list") (by rfl) T.m_list (by decide +kernel) rfl) pa_nil))))) (pw_or1 (pt_cmpR op_gt (pe_callB call_len (by rfl) T.m_len PySem.boot_len (pa_cons (pv 4) pa_nil)) pe_int (nomark _)))))) (pss_one ps_never) pss_nil)
      (pss_cons (ps_set (i := 6) sc_lane_of.nd rfl (Or.inl rfl) (pe_lst pa_nil))
      (pss_cons (ps_for PassesOwn.never rfl (pi_enum (by rfl) T.m_enumerate (pa_cons (pv 4) pa_nil)) (pg_tup rfl (pgs_cons (pg_name (i := 7) sc_lane_of.nd rfl (Or.inl rfl)) (pgs_cons (pg_name (i := 8) sc_lane_of.nd rfl (Or.inl rfl)) pgs_nil))) (pss_cons (ps_set (i := 9) sc_lane_of.nd rfl (Or.inl rfl) (C8.pe_c c_good_leaf hr (by decide) (by rfl) (pa_cons (pv 8) (pa_cons (pv 2) (pa_cons (pv 6) pa_nil)))))
      (pss_cons (ps_if (pt_cmpR op_isN (pv 9) pe_non (nomark _)) (pss_one ps_never) pss_nil)
      (pss_one (ps_expr (pe_bm PySem.F.plainAttrs_list PySem.F.slot_list_append PySem.F.type_list_append mt_append (pv 6) (pa_cons (pv 9) pa_nil)))))))
      (pss_cons (ps_if (pt_not (pt_val (C8.pe_c c_are_lane_edits hr (by decide) (by rfl) (pa_cons (pv 5) pa_nil)))) (pss_one ps_never) pss_nil)
      (pss_one (ps_ret (pe_tup (pa_cons (pv 3) (pa_cons (pv 6) (pa_cons (pe_callTy call_list_of (by rfl) T.m_list (by decide +kernel) (pa_cons (pv 5) pa_nil)) pa_nil)))))))))))), ?_⟩)
  · obtain ⟨F, v, l, i, wd, rfl, _⟩ := h
    rfl
  · obtain ⟨F, v, l, i0, wd, rfl, sF, hv, ok, hw, q⟩ := h
    obtain ⟨a, xs, rfl, h1, h2⟩ := id hv.tupE
    obtain ⟨v1, _, rfl, e1, h2⟩ := h2.consE
    obtain ⟨v2, _, rfl, e2, h2⟩ := h2.consE
    obtain ⟨v3, _, rfl, e3, h2⟩ := h2.consE
    cases h2.nilE
    cases e1.intE
    have sq := Same.tup sF h1
    obtain ⟨lv, ys, rfl, t1, t2⟩ := id e2.lstE
    have hylen := t2.len
    rw [List.length_map] at hylen
    have few := ok.few
    have pw : ((10 : Int) ^ (6 : Int).toNat) = 1000000 := by decide
    refine ⟨_, rfl, _, _, _, _, true, rfl, .ty _, dp_ty (hv.up sF), kb_tuple_tuple, true, rfl, iteF ?_⟩
    refine ⟨_, rfl, _, _, rfl, .inr ⟨_, sq, rfl⟩, rfl, false, rfl, iteF ?_⟩
    refine ⟨_, rfl, _, _, rfl, sq, rfl, _, _, rfl, _, _, rfl, _, _, rfl, rfl, ?_⟩
    refine ⟨_, rfl, _, _, rfl, rfl, ⟨by decide, by decide, by decide⟩, _, _, _, rfl, ok.u0, by rw [pw]; exact ok.u1, true, rfl, iteF ?_⟩
    refine ⟨_, rfl, _, _, _, _, true, rfl, .ty _, dp_ty (e2.up sF), kb_list_list, true, rfl, iteF ?_⟩
    refine ⟨_, rfl, _, _, rfl, .inl ⟨_, sF.seq t1, rfl⟩, _, _, rfl, rfl, _, rfl, ?_⟩
    rw [decide_eq_false (show ¬ ((200 : Int) < (ys.length : Nat)) by omega)]
    refine iteF ⟨by decide, fun L0 hL0 => ?_⟩
    have g0 := (Gw.refl (M := []) sF).alloc (o := .lst []) hL0
    refine ⟨_, rfl, lv, ys, rfl, g0.sub.seq t1, ?_⟩
    refine for_it (walk_enum (xs := ys)) (fun i σ H' => ∃ x7 x8 x9 F' acc, σ = [some (.ref a), some (.int i0), some (.int (wd : Int)), some (.int l.units), some (.ref lv), some v3, some (.ref L0), x7, x8, x9] ∧ Gw [] F H F' H' ∧ H' L0 = some (.lst acc) ∧ F' L0 = none ∧ Al (LeafAt K F') acc (l.leaves.take i)) ⟨_, _, _, F, [], rfl, g0, upd_same, sF.free hL0, .nil⟩ ?_ ?_ ?_
    · rintro i σ H1 hi ⟨x7, x8, x9, F1, acc, rfl, g1, _⟩
      exact (g1.fs.trans g1.sub).seq t1
    · rintro i x σ H1 H2 hi ⟨x7, x8, x9, F1, acc, rfl, g1, hL, hF, hal⟩ ⟨tp, x', y', rfl, htp, rfl, e5, hy⟩
      cases e5
      obtain ⟨d, hd, dp⟩ := t2.at hy
      obtain ⟨lf, hlf, rfl⟩ := map_at hd
      obtain ⟨okl, ftl⟩ := ok.leaf i lf hlf
      have hlt := (List.getElem?_eq_some_iff.mp hlf).1
      have g2 := g1.alloc (o := .tup [.int ((i : Nat) : Int), y']) htp
      have hL2 : upd H1 tp (.tup [.int ((i : Nat) : Int), y']) L0 = some (.lst acc) := by rw [upd_ne (ne_of_some hL htp)]; exact hL
      have hacc := hal.len
      rw [List.length_take] at hacc
      refine ⟨_, _, rfl, SqT.of upd_same, rfl, _, _, rfl, _, _, rfl, rfl, ?_⟩
      refine ⟨_, rfl, _, rfl, _, rfl, F1, y', lf, wd, L0, acc, l.leaves.take i, rfl, g2.sub, dp.up g1.fs, okl, hL2, hal, (by rw [List.length_take]; rw [show min i l.leaves.length = i by omega]; exact ftl), (fun o ho => ?_), hw, by omega, fun F3 H3 u g3 hu => ?_⟩
      · obtain ⟨j, hj⟩ := List.getElem?_of_mem ho
        have hj2 : j < i := by
          have := (List.getElem?_eq_some_iff.mp hj).1
          rw [List.length_take] at this
          omega
        rw [List.getElem?_take_of_lt hj2] at hj
        exact ok.apart i j lf o hlf hj hj2
      · obtain ⟨pu, dxu, wu, rfl, _⟩ := id hu
        have hL3 := g3.same _ _ hL2
        have hF3 := g3.out hL2 hF
        refine ⟨_, rfl, rfl, false, rfl, iteF ⟨_, rfl, tyL hL3, _, rfl, L0, acc, _, rfl, rfl, hL3, lt_line (by omega), ?_⟩⟩
        refine ⟨_, _, _, F3, acc ++ [.ref pu], rfl, (g2.call g3).put (.inl hL0) hF3 hL3, upd_same, hF3, ?_⟩
        rw [List.take_add_one, hlf]
        exact (hal.mono fun _ _ h => h.up g3.fs).snoc hu
    · rintro σ H1 ⟨x7, x8, x9, F1, acc, rfl, g1, hL, hF, hal⟩
      rw [hylen, List.take_length] at hal
      have e3' := e3.up g1.fs
      refine ⟨_, rfl, _, l.edits, F1, rfl, g1.sub, e3', ok.efew, ok.edit, fun H2 s2 => ⟨true, rfl, iteF ?_⟩⟩
      have g2 := g1.pure s2
      have g3 := g2.hold (s2 _ _ hL) hL0 hF
      obtain ⟨eb, es, rfl, u1, u2⟩ := e3'.lstE
      refine ⟨_, rfl, _, rfl, _, rfl, eb, es, rfl, .inl (g2.sub.seq u1), fun l1 hl1 => ⟨by show 3 ≤ sizeLine; decide, fun tp htp => ?_⟩⟩
      have g4 := g3.frz (o := .lst es) hl1
      have g5 := g4.frz (o := .tup [.int l.units, .ref L0, .ref l1]) htp
      have s12 : Same F1 (upd F1 L0 (.lst acc)) := same_new hF
      have s23 : Same (upd F1 L0 (.lst acc)) (upd (upd F1 L0 (.lst acc)) l1 (.lst es)) := same_new (g3.ffresh hl1)
      have s34 : Same (upd (upd F1 L0 (.lst acc)) l1 (.lst es)) (upd (upd (upd F1 L0 (.lst acc)) l1 (.lst es)) tp (.tup [.int l.units, .ref L0, .ref l1])) := same_new (g4.ffresh htp)
      have s14 := (s12.trans s23).trans s34
      exact q _ _ _ g5 ⟨tp, L0, acc, _, rfl, SqT.of upd_same, .inl (.inl (s34 _ _ (s23 _ _ upd_same))), hal.mono fun _ _ h => h.up s14, .lst (.inl (.inl (s34 _ _ upd_same))) (u2.up s14)⟩
abbrev N_film_of : List Str := ["told", "seal", "wide", "lanes", "lane", "told_lane"]
theorem sc_film_of : FnScope N_film_of ["told"] (defScope s_film_of) := ⟨rfl, rfl, rfl, by decide +kernel, rfl, by decide +kernel, by decide +kernel⟩
theorem ok_film_of (T : Ts K mg) (c_is_whole : C8.Cal P w K mg base 1 "is_whole" sp_is_whole []) (c_lane_of : C8.Cal P w K mg base 8 "lane_of" (sp_lane_of K) []) (c_Film : C8.Mak P w K mg base 1 "Film" (He.ga K "Film") (sp_Film_init K) []) : C8.Cal P w K mg base 9 "film_of" (sp_film_of K) [] := by
  refine cal_of T.f_film_of T.g_film_of sc_film_of (fun vs H Q E h => ?_) (fun _ _ _ _ _ _ us hl => match us, hl with | [_], _ => rfl) (fun cdv A outer s H vs Q E hr h => ⟨_, (pss_cons (ps_if (PW.pt (pw_or (pt_not (pt_val (pe_callB call_isi (by rfl) T.m_isinstance (by decide +kernel) (pa_cons (pv 0) (pa_cons (pe_bltn (v := .ty "tuple") (by rfl) T.m_tuple (by decide +kernel) rfl) pa_nil))))) (pw_or1 (pt_cmpR op_ne (pe_callB call_len (by rfl) T.m_len PySem.boot_len (pa_cons (pv 0) pa_nil)) pe_int (nomark _))))) (pss_one ps_never) pss_nil)
      (pss_cons (ps_asg (pv 0) (pg_tup rfl (pgs_cons (pg_name (i := 1) sc_film_of.nd rfl (Or.inl rfl)) (pgs_cons (pg_name (i := 2) sc_film_of.nd rfl (Or.inr rfl)) (pgs_cons (pg_name (i := 3) sc_film_of.nd rfl (Or.inl rfl)) pgs_nil)))))
      (pss_cons (ps_if (PW.pt (pw_or (pt_not (pt_val (C8.pe_c c_is_whole hr (by decide) (by rfl) (pa_cons (pv 1) (pa_cons pe_int (pa_cons (pe_op op_pow pe_int pe_int) pa_nil)))))) (pw_or1 (pt_not (pt_val (C8.pe_c c_is_whole hr (by decide) (by rfl) (pa_cons (pv 2) (pa_cons pe_int (pa_cons pe_int pa_nil))))))))) (pss_one ps_never) pss_nil)
      (pss_cons (ps_if (PW.pt (pw_or (pt_not (pt_val (pe_callB call_isi (by rfl) T.m_isinstance (by decide +kernel) (pa_cons (pv 3) (pa_cons (pe_bltn (v := .ty "list") (by rfl) T.m_list (by decide +kernel) rfl) pa_nil))))) (pw_or1 (pt_not (pt_chain op_le op_le pe_int (pe_callB call_len (by rfl) T.m_len PySem.boot_len (pa_cons (pv 3) pa_nil)) pe_int))))) (pss_one ps_never) pss_nil)
      (pss_one (ps_ret (C8.pe_mk c_Film hr (by decide) (by rfl) (pa_cons (pv 1) (pa_cons (pv 2) (pa_cons (pe_lc (own := [("lane", 4), ("told_lane", 5)]) rfl sc_film_of.nd (pi_enum (by rfl) T.m_enumerate (pa_cons (pv 3) pa_nil)) (blkOk_by (N := N_film_of) (sc := defScope s_film_of) (by decide +kernel)) (fun _ _ _ _ _ => (pg_tupK (K0 := K) (n := 2) rfl rfl (pgs_cons (pg_name (i := 4) sc_film_of.nd rfl (Or.inl rfl) (Or.inr rfl)) (pgs_cons (pg_name (i := 5) sc_film_of.nd rfl (Or.inl rfl) (Or.inr rfl)) pgs_nil)))) (fun _ _ _ _ _ => pts_nil) (fun _ _ _ _ _ => (C8.pe_c c_lane_of hr (by decide) (by rfl) (pa_cons (pv 5) (pa_cons (pv 4) (pa_cons (pv 2) pa_nil)))))) pa_nil)))))))))), ?_⟩)
  · obtain ⟨F, v, f, rfl, _⟩ := h
    rfl
  · obtain ⟨F, v, f, rfl, sF, hv, ok, q⟩ := h
    obtain ⟨a, xs, rfl, h1, h2⟩ := id hv.tupE
    obtain ⟨v1, _, rfl, e1, h2⟩ := h2.consE
    obtain ⟨v2, _, rfl, e2, h2⟩ := h2.consE
    obtain ⟨v3, _, rfl, e3, h2⟩ := h2.consE
    cases h2.nilE
    cases e1.intE
    cases e2.intE
    have sq := Same.tup sF h1
    obtain ⟨lv, ys, rfl, t1, t2⟩ := id e3.lstE
    have hylen := t2.len
    rw [List.length_map] at hylen
    obtain ⟨q1, q2, q3, q4, q5, q6, q7⟩ := ok
    have pw : ((10 : Int) ^ (9 : Int).toNat) = 1000000000 := by decide
    refine ⟨_, rfl, _, _, _, _, true, rfl, .ty _, dp_ty (hv.up sF), kb_tuple_tuple, true, rfl, iteF ?_⟩
    refine ⟨_, rfl, _, _, rfl, .inr ⟨_, sq, rfl⟩, rfl, false, rfl, iteF ?_⟩
    refine ⟨_, rfl, _, _, rfl, sq, rfl, _, _, rfl, _, _, rfl, _, _, rfl, rfl, ?_⟩
    refine ⟨_, rfl, _, _, rfl, rfl, ⟨by decide, by decide, by decide⟩, _, _, _, rfl, q1, by rw [pw]; exact q2, true, rfl, iteF ?_⟩
    refine ⟨_, rfl, _, _, _, rfl, by omega, by omega, true, rfl, iteF ?_⟩
    refine ⟨_, rfl, _, _, _, _, true, rfl, .ty _, dp_ty (e3.up sF), kb_list_list, true, rfl, iteF ?_⟩
    refine ⟨_, rfl, _, _, rfl, .inl ⟨_, sF.seq t1, rfl⟩, _, _, rfl, rfl, _, rfl, ?_⟩
    rw [decide_eq_true (show (1 : Int) ≤ (ys.length : Nat) by omega)]
    refine iteT ⟨_, _, rfl, rfl, _, rfl, ?_⟩
    rw [decide_eq_true (show ((ys.length : Nat) : Int) ≤ 8 by omega)]
    refine iteF ⟨_, rfl, _, rfl, _, rfl, lv, ys, rfl, sF.seq t1, fun D hD => ?_⟩
    refine lc_gw (M := []) (F1 := F) (walk_enum (xs := ys)) (fun _ => True) (fun i F' y => ∃ d, f.lanes[i]? = some d ∧ LaneAt K F' y d) sF hD (by simp) (by omega) trivial (fun _ _ _ => trivial) (fun _ _ _ _ s h => let ⟨d, e, r⟩ := h; ⟨d, e, r.up s⟩) (fun H s => s.seq t1) ?_ ?_
    · rintro i x F1 H1 H2 Q' hi sub fs _ ⟨tp, x', y', rfl, htp, rfl, e5, hy⟩ k
      cases e5
      obtain ⟨d, hd, dp⟩ := t2.at hy
      obtain ⟨ln, hln, rfl⟩ := map_at hd
      have g2 := (Gw.refl (M := []) sub).alloc (o := .tup [.int ((i : Nat) : Int), y']) htp
      refine ⟨_, _, rfl, SqT.of upd_same, rfl, _, _, rfl, _, _, rfl, rfl, rfl, ?_⟩
      exact ⟨_, rfl, _, rfl, _, rfl, F1, y', ln, _, f.wide, rfl, g2.sub, dp.up fs, q7 ln (List.mem_of_getElem? hln), ⟨q3, q4⟩, fun F3 H3 u g3 hu => k u F3 H3 (g2.call g3) trivial ⟨ln, hln, hu⟩⟩
    · intro F1 H1 acc g1 fs1 _ hDa hFD hlen hres
      have g2 := ((Gw.refl (M := []) sF).call g1).hold hDa hD hFD
      intro y dy hy hdy ne
      refine ⟨y, dy, _, _, _, rfl, upd_same, rfl, ?_⟩
      rw [upd_upd]
      have s12 : Same F1 (upd F1 D (.lst acc)) := same_new hFD
      have s23 : Same (upd F1 D (.lst acc)) (upd (upd F1 D (.lst acc)) y (.ins (He.ga K "Film") dy [("seal", .int f.sg), ("wide", .int (f.wide : Int)), ("lanes", .ref D)])) := same_new (g2.ffresh hy)
      refine q _ _ _ (g2.obj hy hdy ne) ⟨y, dy, D, acc, rfl, upd_same, .inl (.inl (s23 _ _ upd_same)), by rw [hlen, hylen], fun i u l eu el => ?_⟩
      obtain ⟨d, hd, r⟩ := hres i u eu
      rw [el] at hd
      cases hd
      exact r.up (s12.trans s23)
end
end Sc

namespace Sc
open PySem PySem.Spec PyProof.Rows L2
/-! data that may be told apart: shape and equality -/
structure Shp (n : Nat) (d : PyData) : Prop where
  can : d.canLay0 = true
  dep : d.depth ≤ n
theorem Shp.ok {n : Nat} {d : PyData} (h : Shp n d) (hn : n ≤ 64 := by decide) : SeqAt.shaped d = true := by
  unfold SeqAt.shaped
  rw [h.can, decide_eq_true (Nat.le_trans h.dep hn)]
  rfl
theorem Shp.up {n m : Nat} {d : PyData} (h : Shp n d) (k : n ≤ m) : Shp m d := ⟨h.can, Nat.le_trans h.dep k⟩
theorem shp_int (i : Int) : Shp 0 (.int i) := ⟨rfl, Nat.le_refl _⟩
theorem shp_all : ∀ {n : Nat} {ds : List PyData}, (∀ d, d ∈ ds → Shp n d) → PyData.canLayAll0 ds = true ∧ PyData.depthAll ds ≤ n
  | n, [], _ => ⟨rfl, Nat.zero_le _⟩
  | n, d :: ds, h => by
    obtain ⟨a, b⟩ := shp_all (ds := ds) fun x hx => h x (List.mem_cons_of_mem _ hx)
    obtain ⟨c, e⟩ := h d List.mem_cons_self
    refine ⟨?_, ?_⟩
    · show (d.canLay0 && PyData.canLayAll0 ds) = true
      rw [c, a]
      rfl
    · show max d.depth (PyData.depthAll ds) ≤ n
      omega
theorem shp_list {n : Nat} {ds : List PyData} (h : ∀ d, d ∈ ds → Shp n d) : Shp (n + 1) (.list ds) := by
  obtain ⟨a, b⟩ := shp_all h
  refine ⟨a, ?_⟩
  show PyData.depthAll ds + 1 ≤ n + 1
  omega
theorem shp_tuple {n : Nat} {ds : List PyData} (h : ∀ d, d ∈ ds → Shp n d) : Shp (n + 1) (.tuple ds) := by
  obtain ⟨a, b⟩ := shp_all h
  refine ⟨a, ?_⟩
  show PyData.depthAll ds + 1 ≤ n + 1
  omega
theorem shp_fr (p : Int × Int) : Shp 1 (frD p) := shp_tuple fun d hd => by
  simp only [List.mem_cons, List.not_mem_nil, or_false] at hd
  rcases hd with rfl | rfl <;> exact shp_int _
theorem eqv_refl_of {n : Nat} {d : PyData} (h : Shp n d) : PyData.eqv d d = true := SeqAt.eqv_refl d h.can
theorem eqv_fr (p q : Int × Int) : PyData.eqv (frD p) (frD q) = decide (p = q) := by
  obtain ⟨a, b⟩ := p
  obtain ⟨c, d⟩ := q
  simp [frD, PyData.eqv, PyData.eqvAll, Prod.mk.injEq]
  by_cases h1 : a = c <;> by_cases h2 : b = d <;> simp [h1, h2]
theorem eqv_nil (ds : List PyData) : PyData.eqv (.list ds) (.list []) = ds.isEmpty := by
  cases ds <;> simp [PyData.eqv, PyData.eqvAll]
end Sc

namespace Sc
open PySem PySem.Spec PyProof.Rows L2
/-! what hangs on what -/
/-- the cells that a cell needs -/
def cellNeeds (ls : List LeafD) (p : Nat × Nat) : List (Nat × Nat) := match ls[p.1]? with
  | none => []
  | some l => match l.body.rule p.2 with
    | none => []
    | some r => r.needs.map fun q => (p.1 - q.1, q.2)
inductive Hang (ls : List LeafD) : Nat × Nat → Nat × Nat → Prop
  | refl (p : Nat × Nat) : Hang ls p p
  | step {p q r : Nat × Nat} : q ∈ cellNeeds ls p → Hang ls q r → Hang ls p r
structure OkLs (ls : List LeafD) (wd : Nat) : Prop where
  w0 : 1 ≤ wd
  w1 : wd ≤ 4
  few : ls.length ≤ 5
  leaf : ∀ (i : Nat) (x : LeafD), ls[i]? = some x → OkL x ∧ Fits x i wd
theorem Fits.any {l : LeafD} {n wd c : Nat} (h : Fits l n wd) (hc : c < wd) : ∃ r, l.body.rule c = some r ∧ ∀ p, p ∈ r.needs → p.1 ≤ n ∧ p.2 < wd := by
  by_cases hs : ∃ b, l.body = .still b
  · obtain ⟨b, hb⟩ := hs
    have h2 : b ≤ n := by
      unfold Fits at h
      rw [hb] at h
      exact h
    refine ⟨.moved b c 0, by rw [hb]; rfl, fun p hp => ?_⟩
    have e : p = (b, c) := by simpa [RuleD.needs] using hp
    rw [e]
    exact ⟨h2, hc⟩
  · exact h.rule (fun b e => hs ⟨b, e⟩) hc
theorem OkLs.rule {ls : List LeafD} {wd : Nat} (ok : OkLs ls wd) {p : Nat × Nat} (h1 : p.1 < ls.length) (h2 : p.2 < wd) : ∃ l r, ls[p.1]? = some l ∧ OkL l ∧ l.body.rule p.2 = some r ∧ (∀ q : Nat × Nat, q ∈ r.needs → q.1 ≤ p.1 ∧ q.2 < wd) ∧ cellNeeds ls p = r.needs.map (fun q : Nat × Nat => (p.1 - q.1, q.2)) := by
  have e := List.getElem?_eq_getElem h1
  obtain ⟨okl, ft⟩ := ok.leaf _ _ e
  obtain ⟨r, hr, hn⟩ := ft.any h2
  refine ⟨_, r, e, okl, hr, hn, ?_⟩
  unfold cellNeeds
  rw [e]
  show (match ls[p.1].body.rule p.2 with | none => [] | some r => r.needs.map fun q : Nat × Nat => (p.1 - q.1, q.2)) = _
  rw [hr]
theorem RuleD.few (r : RuleD) : r.needs.length ≤ 2 := by cases r <;> simp [RuleD.needs]
theorem OkLs.needs {ls : List LeafD} {wd : Nat} (ok : OkLs ls wd) {p : Nat × Nat} (h1 : p.1 < ls.length) (h2 : p.2 < wd) : (cellNeeds ls p).length ≤ 2 ∧ ∀ q : Nat × Nat, q ∈ cellNeeds ls p → q.1 ≤ p.1 ∧ q.2 < wd := by
  obtain ⟨l, r, _, _, _, hn, e⟩ := ok.rule h1 h2
  rw [e]
  refine ⟨by rw [List.length_map]; exact r.few, fun q hq => ?_⟩
  obtain ⟨z, hz, rfl⟩ := List.mem_map.mp hq
  exact ⟨Nat.sub_le _ _, (hn z hz).2⟩
theorem Hang.in {ls : List LeafD} {wd : Nat} (ok : OkLs ls wd) {p q : Nat × Nat} (h : Hang ls p q) : p.1 < ls.length → p.2 < wd → q.1 ≤ p.1 ∧ q.2 < wd := by
  induction h with
  | refl p => exact fun _ h2 => ⟨Nat.le_refl _, h2⟩
  | step hq _ ih =>
    intro h1 h2
    obtain ⟨a, b⟩ := (ok.needs h1 h2).2 _ hq
    obtain ⟨c, d⟩ := ih (by omega) b
    exact ⟨by omega, d⟩
theorem Hang.snoc {ls : List LeafD} {p q r : Nat × Nat} (h : Hang ls p q) (e : r ∈ cellNeeds ls q) : Hang ls p r := by
  induction h with
  | refl p => exact .step e (.refl _)
  | step hq _ ih => exact .step hq (ih e)
/-- the dict of leaves by their numbers -/
def enumK (vs : List V) : List (Key × V) := (List.range vs.length).map fun (i : Nat) => (Sum.inl (i : Int), vs.getD i .non)
theorem enumK_len (vs : List V) : (enumK vs).length = vs.length := by simp [enumK]
theorem enumK_get {vs : List V} {i : Nat} (h : i < vs.length) : (enumK vs)[i]? = some (Sum.inl (i : Int), vs[i]) := by
  unfold enumK
  rw [List.getElem?_map, List.getElem?_range h]
  simp [h]
theorem find_range {α : Type} (f : Nat → Key × α) (hf : ∀ i, (f i).1 = Sum.inl (i : Int)) (n j : Nat) (h : j < n) : ((List.range n).map f).find? (fun kv => decide (kv.1 = (Sum.inl (j : Int) : Key))) = some (f j) := by
  induction n with
  | zero => omega
  | succ n ih =>
    rw [List.range_succ, List.map_append, List.map_singleton, List.find?_append]
    by_cases e : j < n
    · rw [ih e]
      rfl
    · have e2 : j = n := by omega
      subst e2
      have : ((List.range j).map f).find? (fun kv => decide (kv.1 = (Sum.inl (j : Int) : Key))) = none := by
        rw [List.find?_eq_none]
        intro x hx
        obtain ⟨i, hi, rfl⟩ := List.mem_map.mp hx
        rw [hf i]
        have hi2 := List.mem_range.mp hi
        simp
        intro z
        have z2 := Int.ofNat.inj z
        omega
      rw [this, List.find?_cons, hf j]
      simp
theorem valV_enumK {vs : List V} {j : Nat} (h : j < vs.length) : valV (enumK vs) (Sum.inl (j : Int)) = some vs[j] := by
  unfold valV enumK
  rw [find_range _ (fun _ => rfl) _ _ h]
  simp [h]
theorem putK_enumK (vs : List V) (v : V) : putK (enumK vs) (Sum.inl (vs.length : Int)) v = enumK (vs ++ [v]) := by
  have h1 : ((enumK vs).any fun kv => decide (kv.1 = (Sum.inl (vs.length : Int) : Key))) = false := by
    rw [List.any_eq_false]
    intro x hx
    unfold enumK at hx
    obtain ⟨i, hi, rfl⟩ := List.mem_map.mp hx
    have hi2 := List.mem_range.mp hi
    simp
    intro z
    have z2 := Int.ofNat.inj z
    omega
  unfold putK
  rw [h1]
  show enumK vs ++ [_] = _
  apply List.ext_getElem?
  intro i
  rcases Nat.lt_trichotomy i vs.length with q | q | q
  · rw [List.getElem?_append_left (by rw [enumK_len]; exact q), enumK_get q, enumK_get (by simp; omega)]
    simp [List.getElem_append_left, q]
  · subst q
    rw [List.getElem?_append_right (by rw [enumK_len]; exact Nat.le_refl _), enumK_len, enumK_get (by simp)]
    simp
  · rw [List.getElem?_eq_none (by simp [enumK_len]; omega), List.getElem?_eq_none (by simp [enumK_len]; omega)]
def PairAt (H : Hp) (v : V) (p : Nat × Nat) : Prop := ∃ b, v = .ref b ∧ H b = some (.tup [.int (p.1 : Int), .int (p.2 : Int)])
theorem PairAt.up {H H' : Hp} {v : V} {p : Nat × Nat} (h : PairAt H v p) (s : Same H H') : PairAt H' v p := let ⟨b, e, h⟩ := h; ⟨b, e, s _ _ h⟩
section
variable {P : Program} {w : World} {K : PySem.W.Frag} {mg : Str → Option Value} {base : Heap}
def sp_needs_of (K : PySem.W.Frag) : Sp := fun vs H Q _ => ∃ (F : Hp) (d : Addr) (v : V) (xs : List V) (ls : List LeafD) (wd : Nat) (p : Nat × Nat), vs = [.ref d, v] ∧ Same F H ∧ H d = some (.dK (enumK xs)) ∧ Al (LeafAt K F) xs ls ∧ OkLs ls wd ∧ PairAt F v p ∧ p.1 < ls.length ∧ p.2 < wd ∧
  ∀ F' H' b zs, Gw [] F H F' H' → F' b = some (.lst zs) → Al (PairAt F') zs (cellNeeds ls p) → Q (.ref b) H'
abbrev N_needs_of : List Str := ["leaves", "pair", "number", "cell", "leaf", "back", "there"]
theorem sc_needs_of : FnScope N_needs_of ["leaves", "pair"] (defScope s_needs_of) := ⟨rfl, rfl, rfl, by decide +kernel, rfl, by decide +kernel, by decide +kernel⟩
theorem ok_needs_of (T : Ts K mg) (c_rule : ∀ C sp, (C, sp) ∈ ruleL K → C8.Met P w K mg base 4 C "rule" sp []) (c_needs : ∀ C sp, (C, sp) ∈ needsL K → C8.Met P w K mg base 1 C "needs" sp []) : C8.Cal P w K mg base 5 "needs_of" (sp_needs_of K) [] := by
  refine cal_of T.f_needs_of T.g_needs_of sc_needs_of (fun vs H Q E h => ?_) (fun _ _ _ _ _ _ us hl => match us, hl with | [_, _], _ => rfl) (fun cdv A outer s H vs Q E hr h => ⟨_, (pss_cons (ps_asg (pv 1) (pg_tup rfl (pgs_cons (pg_name (i := 2) sc_needs_of.nd rfl (Or.inr rfl)) (pgs_cons (pg_name (i := 3) sc_needs_of.nd rfl (Or.inl rfl)) pgs_nil))))
      (pss_cons (ps_set (i := 4) sc_needs_of.nd rfl (Or.inl rfl) (pe_dget1 (hu_of hr) (pv 0) (pv 2) ⟨rfl, rfl, rfl, rfl⟩))
      (pss_cons (ps_if (pt_cmpR op_isN (pv 4) pe_non (nomark _)) (pss_one (ps_ret (pe_lst pa_nil))) pss_nil)
      (pss_one (ps_ret (pe_lc (own := [("back", 5), ("there", 6)]) rfl sc_needs_of.nd (pi_list (pe_mtD0 c_needs hr (by decide) (pe_mtD c_rule hr (by decide) (pv 4) (pa_cons (pv 3) pa_nil)))) (blkOk_by (N := N_needs_of) (sc := defScope s_needs_of) (by decide +kernel)) (fun _ _ _ _ _ => (pg_tupK (K0 := K) (n := 2) rfl rfl (pgs_cons (pg_name (i := 5) sc_needs_of.nd rfl (Or.inl rfl) (Or.inr rfl)) (pgs_cons (pg_name (i := 6) sc_needs_of.nd rfl (Or.inl rfl) (Or.inr rfl)) pgs_nil)))) (fun _ _ _ _ _ => pts_nil) (fun _ _ _ _ _ => (pe_tup (pa_cons (pe_op op_sub (pv 2) (pv 5)) (pa_cons (pv 6) pa_nil)))))))))), ?_⟩)
  · obtain ⟨F, d, v, xs, ls, wd, p, rfl, _⟩ := h
    rfl
  · obtain ⟨F, d, v, xs, ls, wd, p, rfl, sF, hd, hal, ok, ⟨b, rfl, hb⟩, h1, h2, q⟩ := h
    obtain ⟨l, r, hl, okl, hrule, hn, en⟩ := ok.rule h1 h2
    obtain ⟨x, hx, hleaf⟩ := hal.at2 hl
    have hxl := (List.getElem?_eq_some_iff.mp hx)
    refine ⟨_, rfl, _, _, rfl, SqT.of (sF _ _ hb), rfl, _, _, rfl, _, _, rfl, rfl, ?_⟩
    refine ⟨_, rfl, d, rfl, .inl ⟨_, .inl hd⟩, _, rfl, _, DGet.k (k := Sum.inl (p.1 : Int)) hd, ?_⟩
    rw [valV_enumK hxl.1, hxl.2]
    obtain ⟨a, C, dx, fs, hC, e, ha, hlk⟩ := (hleaf.up sF).rule
    refine ⟨_, rfl, rfl, false, ?_, iteF ?_⟩
    · rw [e]
      rfl
    have hwd := ok.w1
    refine ⟨_, rfl, a, C, _, dx, fs, hC, e, ha, hlk, _, rfl, F, x, l, p.2, r, rfl, sF, hleaf, rfl, okl.body, hrule, by omega, fun F1 H1 u g1 ru => ?_⟩
    obtain ⟨a, C, dx, fs, hC, e, ha, hlk⟩ := (ru.up g1.sub).cls
    refine ⟨a, C, _, dx, fs, hC, e, ha, hlk, F1, u, r, rfl, g1.sub, ru, rfl, fun F2 H2 u2 g2 hdp => ?_⟩
    obtain ⟨nb, ys, rfl, t1, t2⟩ := hdp.lstE
    have hylen := t2.len
    rw [List.length_map] at hylen
    have hfew := r.few
    refine ⟨nb, rfl, ⟨ys, g2.sub.seq t1⟩, fun D hD => ?_⟩
    have g12 := g1.call g2
    refine lc_gw (M := []) (F1 := F2) (walk_list (xs := ys)) (fun _ => True) (fun i F' y => ∃ z, r.needs[i]? = some z ∧ PairAt F' y (p.1 - z.1, z.2)) g12.sub hD (by simp) (by omega) trivial (fun _ _ _ => trivial) (fun _ _ _ _ s h => let ⟨z, e, r⟩ := h; ⟨z, e, r.up s⟩) (fun H s => s.seq t1) ?_ ?_
    · rintro i y F3 H3 _ Q' hi sub fs3 _ ⟨rfl, hy⟩ k
      obtain ⟨d2, hd2, dp⟩ := (t2.up (fs3.trans sub)).at hy
      obtain ⟨z, hz, rfl⟩ := map_at hd2
      obtain ⟨c, zs, rfl, k1, k2⟩ := dp.tupE
      obtain ⟨w1, _, rfl, f1, k2⟩ := k2.consE
      obtain ⟨w2, _, rfl, f2, k2⟩ := k2.consE
      cases k2.nilE
      cases f1.intE
      cases f2.intE
      obtain ⟨b1, b2⟩ := hn z (List.mem_of_getElem? hz)
      refine ⟨_, _, rfl, k1, rfl, _, _, rfl, _, _, rfl, rfl, rfl, ?_⟩
      refine ⟨_, rfl, _, rfl, _, _, rfl, rfl, _, rfl, by show 2 ≤ sizeLine; decide, fun tp htp => ?_⟩
      refine k _ _ _ ((Gw.refl (M := []) sub).frz htp) trivial ⟨z, hz, tp, rfl, ?_⟩
      rw [upd_same]
      show some (HO.tup [V.int ((p.1 : Int) - (z.1 : Int)), V.int (z.2 : Int)]) = some (HO.tup [V.int ((p.1 - z.1 : Nat) : Int), V.int (z.2 : Int)])
      rw [Int.ofNat_sub b1]
    · intro F3 H3 acc g3 fs3 _ hDa hFD hlen hres
      have g4 := (g12.call g3).hold hDa (g12.dom _ hD) hFD
      refine q _ _ D acc g4 upd_same ⟨by rw [hlen, hylen, en, List.length_map], fun i y z ey ez => ?_⟩
      obtain ⟨z', ez', r'⟩ := hres i y ey
      rw [en, List.getElem?_map, ez'] at ez
      cases ez
      exact r'.up (same_new hFD)
end
end Sc

namespace Sc
open PySem PySem.Spec PyProof.Rows L2
/-- few numbers below n, each once -/
theorem few_below : ∀ (n : Nat) (l : List Nat), l.Nodup → (∀ x, x ∈ l → x < n) → l.length ≤ n
  | 0, l, _, h => by
    cases l with
    | nil => exact Nat.le_refl _
    | cons a r => exact absurd (h a List.mem_cons_self) (Nat.not_lt_zero _)
  | n + 1, l, nd, h => by
    have h2 := few_below n (l.erase n) (nd.erase n) fun x hx => by
      have := (List.Nodup.mem_erase_iff nd).mp hx
      have := h x this.2
      omega
    by_cases m : n ∈ l
    · rw [List.length_erase_of_mem m] at h2
      omega
    · rw [List.erase_of_not_mem m] at h2
      omega
/-- a dict whose keys are cells -/
def ent (p : Nat × Nat) : List Key × V := ([Sum.inl (p.1 : Int), Sum.inl (p.2 : Int)], .bl true)
theorem ent_inj {p q : Nat × Nat} (h : (ent p).1 = (ent q).1) : p = q := by
  obtain ⟨a, b⟩ := p
  obtain ⟨c, d⟩ := q
  simp [ent] at h
  have h1 := Int.ofNat.inj h.1
  have h2 := Int.ofNat.inj h.2
  rw [h1, h2]
theorem valV_ent (ks : List (Nat × Nat)) (p : Nat × Nat) : (valV (ks.map ent) (ent p).1).isSome = decide (p ∈ ks) := by
  induction ks with
  | nil => rfl
  | cons q ks ih =>
    by_cases e : q = p
    · subst e
      rw [List.map_cons, valV_pos (by rfl)]
      simp
    · have ne : ¬ (ent q).1 = (ent p).1 := fun z => e (ent_inj z)
      have : valV ((q :: ks).map ent) (ent p).1 = valV (ks.map ent) (ent p).1 := by
        unfold valV
        rw [List.map_cons, List.find?_cons, decide_eq_false ne]
      rw [this, ih]
      have e2 : ¬ p = q := fun z => e z.symm
      simp [e2]
theorem putK_ent {ks : List (Nat × Nat)} {p : Nat × Nat} (h : p ∉ ks) : putK (ks.map ent) (ent p).1 (.bl true) = (ks ++ [p]).map ent := by
  have h1 : ((ks.map ent).any fun kv => decide (kv.1 = (ent p).1)) = false := by
    rw [List.any_eq_false]
    intro x hx
    obtain ⟨q, hq, rfl⟩ := List.mem_map.mp hx
    simp
    intro z
    rw [ent_inj z] at hq
    exact h hq
  unfold putK
  rw [h1, List.map_append]
  rfl
theorem shp_pr (p : Nat × Nat) : Shp 1 (prD p) := shp_tuple fun d hd => by
  simp only [List.mem_cons, List.not_mem_nil, or_false] at hd
  rcases hd with rfl | rfl <;> exact shp_int _
theorem shp_prs (l : List (Nat × Nat)) : Shp 2 (.list (l.map prD)) := shp_list fun d hd => by
  obtain ⟨p, _, rfl⟩ := List.mem_map.mp hd
  exact shp_pr p
section
variable {P : Program} {w : World} {K : PySem.W.Frag} {mg : Str → Option Value} {base : Heap}
theorem PairAt.dp {H : Hp} {v : V} {p : Nat × Nat} (h : PairAt H v p) : Dp K H v (prD p) := by
  obtain ⟨b, rfl, e⟩ := h
  exact .tup (SqT.of e) (.cons (.int _) (.cons (.int _) .nil))
theorem prs_dp {H : Hp} {vs : List V} {l : List (Nat × Nat)} (h : Al (PairAt H) vs l) : DpAll K H vs (l.map prD) := DpAll_of (by rw [h.len, List.length_map]) fun j y d e1 e2 => by
  obtain ⟨p, hp, rfl⟩ := map_at e2
  exact (h.rel j y p e1 hp).dp
/-- what hung holds of its two lists -/
structure HI (ls : List LeafD) (wd : Nat) (ps wl ks : List (Nat × Nat)) : Prop where
  nd : ks.Nodup
  rng : ∀ q, q ∈ ks ∨ q ∈ wl → q.1 < ls.length ∧ q.2 < wd
  from_ : ∀ q, q ∈ ks ∨ q ∈ wl → ∃ p, p ∈ ps ∧ Hang ls p q
  all : ∀ p, p ∈ ps → p ∈ ks ∨ p ∈ wl
  closed : ∀ q, q ∈ ks → ∀ r, r ∈ cellNeeds ls q → r ∈ ks ∨ r ∈ wl
  bnd : wl.length + 3 * (20 - ks.length) ≤ 64
theorem few_cells {ks : List (Nat × Nat)} (nd : ks.Nodup) (h : ∀ q, q ∈ ks → q.1 < 5 ∧ q.2 < 4) : ks.length ≤ 20 := by
  have := few_below 20 (ks.map fun p => p.1 * 4 + p.2) ?_ ?_
  · rwa [List.length_map] at this
  · refine List.Pairwise.map _ ?_ (List.Pairwise.and_mem.mp nd)
    rintro a b ⟨ha, hb, ne⟩ z
    apply ne
    have h1 := h a ha
    have h2 := h b hb
    have : a.1 = b.1 ∧ a.2 = b.2 := by omega
    exact Prod.ext this.1 this.2
  · intro x hx
    obtain ⟨p, hp, rfl⟩ := List.mem_map.mp hx
    have := h p hp
    omega
theorem HI.few {ls : List LeafD} {wd : Nat} {ps wl ks : List (Nat × Nat)} (h : HI ls wd ps wl ks) (ok : OkLs ls wd) : ks.length ≤ 20 :=
  few_cells h.nd fun q hq => by
    have := h.rng q (.inl hq)
    have := ok.few
    have := ok.w1
    omega
theorem HI.skip {ls : List LeafD} {wd : Nat} {ps wl ks : List (Nat × Nat)} {p : Nat × Nat} (h : HI ls wd ps (wl ++ [p]) ks) (hp : p ∈ ks) : HI ls wd ps wl ks := by
  refine ⟨h.nd, fun q hq => h.rng q (hq.imp id fun z => List.mem_append_left _ z), fun q hq => h.from_ q (hq.imp id fun z => List.mem_append_left _ z), fun q hq => ?_, fun q hq r hr => ?_, ?_⟩
  · rcases h.all q hq with z | z
    · exact .inl z
    · rcases List.mem_append.mp z with z | z
      · exact .inr z
      · rw [List.mem_singleton.mp z]
        exact .inl hp
  · rcases h.closed q hq r hr with z | z
    · exact .inl z
    · rcases List.mem_append.mp z with z | z
      · exact .inr z
      · rw [List.mem_singleton.mp z]
        exact .inl hp
  · have := h.bnd
    rw [List.length_append, List.length_singleton] at this
    omega
theorem HI.take {ls : List LeafD} {wd : Nat} {ps wl ks : List (Nat × Nat)} {p : Nat × Nat} (ok : OkLs ls wd) (h : HI ls wd ps (wl ++ [p]) ks) (hp : p ∉ ks) : HI ls wd ps (wl ++ cellNeeds ls p) (ks ++ [p]) ∧ (wl ++ cellNeeds ls p).length + 3 * (20 - (ks ++ [p]).length) < (wl ++ [p]).length + 3 * (20 - ks.length) := by
  have hpr := h.rng p (.inr (List.mem_append_right _ (List.mem_singleton.mpr rfl)))
  obtain ⟨n2, hn⟩ := ok.needs hpr.1 hpr.2
  have nd2 : (ks ++ [p]).Nodup := List.nodup_append.mpr ⟨h.nd, by simp, by
    intro a ha b hb e
    rw [List.mem_singleton.mp hb] at e
    rw [e] at ha
    exact hp ha⟩
  have hk : (ks ++ [p]).length ≤ 20 := few_cells nd2 fun q hq => by
    have : q.1 < ls.length ∧ q.2 < wd := by
      rcases List.mem_append.mp hq with z | z
      · exact h.rng q (.inl z)
      · rw [List.mem_singleton.mp z]
        exact hpr
    have := ok.few
    have := ok.w1
    omega
  rw [List.length_append, List.length_singleton] at hk
  have lt : (wl ++ cellNeeds ls p).length + 3 * (20 - (ks ++ [p]).length) < (wl ++ [p]).length + 3 * (20 - ks.length) := by
    simp only [List.length_append, List.length_singleton]
    omega
  refine ⟨⟨nd2, fun q hq => ?_, fun q hq => ?_, fun q hq => ?_, fun q hq r hr => ?_, ?_⟩, lt⟩
  · rcases hq with z | z
    · rcases List.mem_append.mp z with z | z
      · exact h.rng q (.inl z)
      · rw [List.mem_singleton.mp z]
        exact hpr
    · rcases List.mem_append.mp z with z | z
      · exact h.rng q (.inr (List.mem_append_left _ z))
      · have := hn q z
        omega
  · rcases hq with z | z
    · rcases List.mem_append.mp z with z | z
      · exact h.from_ q (.inl z)
      · rw [List.mem_singleton.mp z]
        exact h.from_ p (.inr (List.mem_append_right _ (List.mem_singleton.mpr rfl)))
    · rcases List.mem_append.mp z with z | z
      · exact h.from_ q (.inr (List.mem_append_left _ z))
      · obtain ⟨a, ha, hg⟩ := h.from_ p (.inr (List.mem_append_right _ (List.mem_singleton.mpr rfl)))
        exact ⟨a, ha, hg.snoc z⟩
  · rcases h.all q hq with z | z
    · exact .inl (List.mem_append_left _ z)
    · rcases List.mem_append.mp z with z | z
      · exact .inr (List.mem_append_left _ z)
      · exact .inl (List.mem_append_right _ z)
  · rcases List.mem_append.mp hq with z | z
    · rcases h.closed q z r hr with y | y
      · exact .inl (List.mem_append_left _ y)
      · rcases List.mem_append.mp y with y | y
        · exact .inr (List.mem_append_left _ y)
        · exact .inl (List.mem_append_right _ y)
    · rw [List.mem_singleton.mp z] at hr
      exact .inr (List.mem_append_right _ hr)
  · have := h.bnd
    omega
theorem Hang.stay {ls : List LeafD} {ks : List (Nat × Nat)} (c : ∀ q, q ∈ ks → ∀ r, r ∈ cellNeeds ls q → r ∈ ks) {p q : Nat × Nat} (h : Hang ls p q) : p ∈ ks → q ∈ ks := by
  induction h with
  | refl p => exact fun h0 => h0
  | step hq _ ih => exact fun h0 => ih (c _ h0 _ hq)
theorem HI.done {ls : List LeafD} {wd : Nat} {ps ks : List (Nat × Nat)} (h : HI ls wd ps [] ks) (q : Nat × Nat) : q ∈ ks ↔ ∃ p, p ∈ ps ∧ Hang ls p q := by
  refine ⟨fun hq => h.from_ q (.inl hq), fun ⟨p, hp, hg⟩ => ?_⟩
  exact hg.stay (fun q hq r hr => (h.closed q hq r hr).resolve_right (by simp)) ((h.all p hp).resolve_right (by simp))
def sp_hung (K : PySem.W.Frag) : Sp := fun vs H Q _ => ∃ (F : Hp) (d pb : Addr) (xs ys : List V) (ls : List LeafD) (wd : Nat) (ps : List (Nat × Nat)), vs = [.ref d, .ref pb] ∧ Same F H ∧ H d = some (.dK (enumK xs)) ∧ Al (LeafAt K F) xs ls ∧ OkLs ls wd ∧ H pb = some (.lst ys) ∧ Al (PairAt F) ys ps ∧ ps.length ≤ 4 ∧ (∀ p, p ∈ ps → p.1 < ls.length ∧ p.2 < wd) ∧
  ∀ (F' H' : Hp) (fd : Addr) (ks : List (Nat × Nat)), Gw [] F H F' H' → H' fd = some (.dT (ks.map ent)) → F' fd = none → H fd = none → ks.Nodup → ks.length ≤ 20 → (∀ q, q ∈ ks ↔ ∃ p, p ∈ ps ∧ Hang ls p q) → Q (.ref fd) H'
abbrev N_hung : List Str := ["leaves", "pairs", "found", "waiting", "pair"]
theorem sc_hung : FnScope N_hung ["leaves", "pairs"] (defScope s_hung) := ⟨rfl, rfl, rfl, by decide +kernel, rfl, by decide +kernel, by decide +kernel⟩
theorem ok_hung (T : Ts K mg) (c_needs_of : C8.Cal P w K mg base 5 "needs_of" (sp_needs_of K) []) : C8.Cal P w K mg base 6 "hung" (sp_hung K) [] := by
  refine cal_of T.f_hung T.g_hung sc_hung (fun vs H Q E h => ?_) (fun _ _ _ _ _ _ us hl => match us, hl with | [_, _], _ => rfl) (fun cdv A outer s H vs Q E hr h => ⟨_, (pss_cons (ps_set (i := 2) sc_hung.nd rfl (Or.inl rfl) pe_dnewT)
      (pss_cons (ps_set (i := 3) sc_hung.nd rfl (Or.inl rfl) (pe_callTy call_list_of (by rfl) T.m_list (by decide +kernel) (pa_cons (pv 1) pa_nil)))
      (pss_cons (ps_while PassesOwn.never (pt_cmpR (op_neD hr.units) (pv 3) (pe_lst pa_nil) (nomark _)) (pss_cons (ps_set (i := 4) sc_hung.nd rfl (Or.inl rfl) (pe_bm0 PySem.F.plainAttrs_list PySem.F.slot_list_pop PySem.F.type_list_pop mt_pop (pv 3)))
      (pss_one (ps_if (pt_cmp (pc_dnotin (hu_of hr) (pv 4) (pv 2))) (pss_cons (ps_dput (hu_of hr) (pv 2) (pv 4) pe_bl rfl)
      (pss_one (ps_expr (pe_bm PySem.F.plainAttrs_list PySem.F.slot_list_extend PySem.F.type_list_extend mt_extend (pv 3) (pa_cons (C8.pe_c c_needs_of hr (by decide) (by rfl) (pa_cons (pv 0) (pa_cons (pv 4) pa_nil))) pa_nil))))) pss_nil))))
      (pss_one (ps_ret (pv 2)))))), ?_⟩)
  · obtain ⟨F, d, pb, xs, ys, ls, wd, ps, rfl, _⟩ := h
    rfl
  · obtain ⟨F, d, pb, xs, ys, ls, wd, ps, rfl, sF, hd, hal, ok, hpb, hps, few, rng, q⟩ := h
    intro fd hfd
    have g0 := (Gw.refl (M := []) sF).alloc (o := .dT []) hfd
    have hpb1 := same_new (o := .dT []) hfd _ _ hpb
    refine ⟨_, rfl, pb, ys, rfl, .inl (.inl (.inl hpb1)), fun wa hwa => ?_⟩
    have g1 := g0.alloc (o := .lst ys) hwa
    have hwa0 := g0.dom _ hwa
    have hfd1 : upd (upd H fd (.dT [])) wa (.lst ys) fd = some (.dT []) := same_new hwa _ _ upd_same
    refine while_by (fun σ H' => ∃ x4 F' ws wl ks, σ = [some (.ref d), some (.ref pb), some (.ref fd), some (.ref wa), x4] ∧ Gw [] F H F' H' ∧ H' wa = some (.lst ws) ∧ F' wa = none ∧ H' fd = some (.dT (ks.map ent)) ∧ F' fd = none ∧ Al (PairAt F') ws wl ∧ HI ls wd ps wl ks)
      (fun _ H' => match H' wa, H' fd with | some (.lst ws), some (.dT kvs) => ws.length + 3 * (20 - kvs.length) | _, _ => 0)
      ⟨_, F, ys, ps, [], rfl, g1, upd_same, sF.free hwa0, hfd1, sF.free hfd, hps, ⟨List.nodup_nil, fun q hq => rng q (hq.resolve_left (by simp)), fun q hq => ⟨q, hq.resolve_left (by simp), .refl _⟩, fun p hp => .inr hp, fun q hq => by simp at hq, by simp; omega⟩⟩ ?_ (fun σ H Q Q' k h => ?_)
    · rintro σ H1 ⟨x4, F1, ws, wl, ks, rfl, g, hw, hFw, hf, hFf, hws, hi⟩
      refine ⟨_, rfl, by decide, fun eb heb => ?_⟩
      have g2 := g.alloc (o := .lst []) heb
      have hw2 := same_new (o := .lst []) heb _ _ hw
      have hf2 := same_new (o := .lst []) heb _ _ hf
      have hws2 := hws.mono fun _ _ h => PairAt.up h g2.sub
      refine ⟨.list (wl.map prD), .list [], .lst (.inl (.inl hw2)) (prs_dp hws2), .lst (.inl (.inl upd_same)) .nil, (shp_prs wl).ok, (shp_list (n := 0) (by simp)).ok, ?_⟩
      rw [eqv_nil]
      refine ⟨_, rfl, ite2 (fun c => ?_) fun c => ?_⟩
      · have hne : wl ≠ [] := fun z => by rw [z] at c; cases c
        obtain ⟨wl0, p, rfl⟩ : ∃ wl0 p, wl = wl0 ++ [p] := ⟨wl.dropLast, wl.getLast hne, (List.dropLast_concat_getLast hne).symm⟩
        have hlw := hws.len
        rw [List.length_append, List.length_singleton] at hlw
        obtain ⟨y, hy, hpy⟩ := hws.at2 (i := wl0.length) (y := p) (by simp)
        have hws0 : Al (PairAt F1) ws.dropLast wl0 := ⟨by rw [List.length_dropLast, hlw]; rfl, fun i a b e1 e2 => by
          have hi2 := (List.getElem?_eq_some_iff.mp e2).1
          refine hws.rel i a b ?_ (by rw [List.getElem?_append_left hi2]; exact e2)
          rw [List.getElem?_dropLast, if_pos (by omega)] at e1
          exact e1⟩
        refine ⟨_, rfl, tyL hw2, wa, ws, y, rfl, rfl, hw2, (by rw [show ws.length - 1 = wl0.length by omega]; exact hy), ?_⟩
        have g3 := g2.put (o' := .lst ws.dropLast) (.inl hwa0) hFw hw2
        have nfw : fd ≠ wa := ne_of_some (H := upd H fd (.dT [])) upd_same hwa
        have hf3 : upd (upd H1 eb (.lst [])) wa (.lst ws.dropLast) fd = some (.dT (ks.map ent)) := by rw [upd_ne nfw]; exact hf2
        obtain ⟨b, rfl, hb⟩ := hpy
        have hb3 := g3.sub _ _ hb
        refine ⟨_, rfl, _, rfl, fd, _, rfl, DGet.t (k := (ent p).1) hf3 hb3, ?_⟩
        rw [valV_ent]
        refine ⟨_, rfl, ite2 (fun c2 => ?_) fun c2 => ?_⟩
        · have hpn : p ∉ ks := by simpa using c2
          obtain ⟨hi2, lt⟩ := hi.take ok hpn
          have fewk := hi.few ok
          have hpr := hi.rng p (.inr (List.mem_append_right _ (List.mem_singleton.mpr rfl)))
          refine ⟨_, rfl, _, rfl, fd, _, rfl, DPut.t (k := (ent p).1) hf3 hb3 (by rw [List.length_map]; exact lt_line (by omega)), ?_⟩
          rw [putK_ent hpn]
          have g4 := g3.put (o' := .dT ((ks ++ [p]).map ent)) (.inl hfd) hFf hf3
          have hw4 : upd (upd (upd H1 eb (.lst [])) wa (.lst ws.dropLast)) fd (.dT ((ks ++ [p]).map ent)) wa = some (.lst ws.dropLast) := by rw [upd_ne nfw.symm]; exact upd_same
          have hd4 := g4.same _ _ hd
          have hal4 : Al (LeafAt K F1) xs ls := hal.mono fun _ _ h => h.up g.fs
          refine ⟨_, rfl, tyL hw4, _, rfl, _, rfl, F1, d, .ref b, xs, ls, wd, p, rfl, g4.sub, hd4, hal4, ok, ⟨b, rfl, hb⟩, hpr.1, hpr.2, fun F5 H5 nb zs g5 hnb hzs => ?_⟩
          have hw5 := g5.same _ _ hw4
          have hf5 := g5.same _ _ (upd_same (H := upd (upd H1 eb (.lst [])) wa (.lst ws.dropLast)) (a := fd) (o := .dT ((ks ++ [p]).map ent)))
          have hFw5 := g5.out hw4 hFw
          have hFf5 := g5.out upd_same hFf
          have n2 := (ok.needs hpr.1 hpr.2).1
          have hzl := hzs.len
          have hbnd := hi.bnd
          have hdl : ws.dropLast.length ≤ 64 := by
            rw [List.length_dropLast, hlw]
            rw [List.length_append, List.length_singleton] at hbnd
            omega
          refine ⟨wa, nb, ws.dropLast, zs, rfl, rfl, hw5, g5.sub _ _ hnb, Nat.le_of_lt (lt_line (by omega)), ?_⟩
          have hf6 : upd H5 wa (.lst (ws.dropLast ++ zs)) fd = some (.dT ((ks ++ [p]).map ent)) := by rw [upd_ne nfw]; exact hf5
          refine ⟨⟨_, F5, ws.dropLast ++ zs, wl0 ++ cellNeeds ls p, ks ++ [p], rfl, (g4.call g5).put (.inl hwa0) hFw5 hw5, upd_same, hFw5, hf6, hFf5, ?_, hi2⟩, ?_⟩
          · refine ⟨by rw [List.length_append, List.length_append, hws0.len, hzs.len], fun i a b e1 e2 => ?_⟩
            have l0 := hws0.len
            rcases Nat.lt_or_ge i wl0.length with z | z
            · rw [List.getElem?_append_left (by omega)] at e1
              rw [List.getElem?_append_left z] at e2
              exact (hws0.rel i a b e1 e2).up g5.fs
            · rw [List.getElem?_append_right (by omega)] at e1
              rw [List.getElem?_append_right z] at e2
              rw [l0] at e1
              exact hzs.rel _ a b e1 e2
          · show (match upd H5 wa (.lst (ws.dropLast ++ zs)) wa, upd H5 wa (.lst (ws.dropLast ++ zs)) fd with | some (.lst ws), some (.dT kvs) => ws.length + 3 * (20 - kvs.length) | _, _ => 0) < (match H1 wa, H1 fd with | some (.lst ws), some (.dT kvs) => ws.length + 3 * (20 - kvs.length) | _, _ => 0)
            rw [upd_same, hf6, hw, hf]
            show (ws.dropLast ++ zs).length + 3 * (20 - ((ks ++ [p]).map ent).length) < ws.length + 3 * (20 - (ks.map ent).length)
            have l0 := hws0.len
            simp only [List.length_append, List.length_singleton, List.length_map] at lt ⊢
            omega
        · have hpm : p ∈ ks := by simpa using c2
          have hw4 : upd (upd H1 eb (.lst [])) wa (.lst ws.dropLast) wa = some (.lst ws.dropLast) := upd_same
          refine ⟨⟨_, F1, ws.dropLast, wl0, ks, rfl, g3, hw4, hFw, hf3, hFf, hws0, hi.skip hpm⟩, ?_⟩
          show (match upd (upd H1 eb (.lst [])) wa (.lst ws.dropLast) wa, upd (upd H1 eb (.lst [])) wa (.lst ws.dropLast) fd with | some (.lst ws), some (.dT kvs) => ws.length + 3 * (20 - kvs.length) | _, _ => 0) < (match H1 wa, H1 fd with | some (.lst ws), some (.dT kvs) => ws.length + 3 * (20 - kvs.length) | _, _ => 0)
          rw [hw4, hf3, hw, hf]
          show ws.dropLast.length + 3 * (20 - (ks.map ent).length) < ws.length + 3 * (20 - (ks.map ent).length)
          rw [List.length_dropLast]
          omega
      · have hwl : wl = [] := by
          cases wl with
          | nil => rfl
          | cons a r => exact absurd rfl c
        subst hwl
        refine ⟨_, rfl, q F1 _ fd ks g2 hf2 hFf hfd hi.nd (hi.few ok) hi.done⟩
    · obtain ⟨v, e1, h1, h2⟩ := h
      refine ⟨v, e1, h1, fun p hp => ?_⟩
      obtain ⟨dd, ee, k1, k2, k3, k4, kk, e5, h5⟩ := h2 p hp
      exact ⟨dd, ee, k1, k2, k3, k4, kk, e5, k _ _ h5⟩
end
end Sc

namespace Sc
open PySem PySem.Spec PyProof.Rows L2
/-- a picture hangs on another one -/
def HangsL (ls : List LeafD) (wd n m : Nat) : Prop := ∃ c c', c < wd ∧ Hang ls (n, c) (m, c')
section
variable {P : Program} {w : World} {K : PySem.W.Frag} {mg : Str → Option Value} {base : Heap}
def sp_needed (K : PySem.W.Frag) : Sp := fun vs H Q _ => ∃ (F : Hp) (d nb : Addr) (xs : List V) (ls : List LeafD) (wd n : Nat), vs = [.ref d, .int (wd : Int), .ref nb] ∧ Same F H ∧ H d = some (.dK (enumK xs)) ∧ Al (LeafAt K F) xs ls ∧ OkLs ls wd ∧ H nb = some (.lst [.int (n : Int)]) ∧ n < ls.length ∧
  ∀ (F' H' : Hp) (b : Addr) (ns : List Int), Gw [] F H F' H' → F' b = some (.lst (ns.map V.int)) → (∀ k : Int, k ∈ ns ↔ ∃ m : Nat, k = (m : Int) ∧ HangsL ls wd n m) → ns.length ≤ 20 → Q (.ref b) H'
theorem keep_upd {H : Hp} {a D : Addr} {o o' : HO} (h : H a = some o) (hD : H D = none) : upd H D o' a = some o := by rw [upd_ne (ne_of_some h hD)]; exact h
theorem acc_map {acc : List V} {f : Nat → V} (h : ∀ (j : Nat) (y : V), acc[j]? = some y → y = f j) : acc = (List.range acc.length).map f := by
  apply List.ext_getElem?
  intro j
  rcases Nat.lt_or_ge j acc.length with q | q
  · have e := List.getElem?_eq_getElem q
    rw [h j _ e] at e
    rw [e, List.getElem?_map, List.getElem?_range q]
    rfl
  · rw [List.getElem?_eq_none q, List.getElem?_eq_none (by simpa using q)]
abbrev N_needed : List Str := ["leaves", "wide", "numbers", "pairs", "number", "cell"]
theorem sc_needed : FnScope N_needed ["leaves", "wide", "numbers"] (defScope s_needed) := ⟨rfl, rfl, rfl, by decide +kernel, rfl, by decide +kernel, by decide +kernel⟩
theorem ok_needed (T : Ts K mg) (c_hung : C8.Cal P w K mg base 6 "hung" (sp_hung K) []) : C8.Cal P w K mg base 7 "needed" (sp_needed K) [] := by
  refine cal_of T.f_needed T.g_needed sc_needed (fun vs H Q E h => ?_) (fun _ _ _ _ _ _ us hl => match us, hl with | [_, _, _], _ => rfl) (fun cdv A outer s H vs Q E hr h => ⟨_, (pss_cons (ps_set (i := 3) sc_needed.nd rfl (Or.inl rfl) (pe_lst pa_nil))
      (pss_cons (ps_for PassesOwn.never rfl (pi_list (pv 2)) (pg_name (i := 4) sc_needed.nd rfl (Or.inr rfl)) (pss_one (ps_expr (pe_bm PySem.F.plainAttrs_list PySem.F.slot_list_extend PySem.F.type_list_extend mt_extend (pv 3) (pa_cons (pe_lc (own := [("cell", 5)]) rfl sc_needed.nd (pi_range1 (by rfl) T.m_range (pa_cons (pv 1) pa_nil)) (blkOk_by (N := N_needed) (sc := defScope s_needed) (by decide +kernel)) (fun _ _ _ _ _ => (pg_name (i := 5) sc_needed.nd rfl (Or.inl rfl) (Or.inr rfl))) (fun _ _ _ _ _ => pts_nil) (fun _ _ _ _ _ => (pe_tup (pa_cons (pv 4) (pa_cons (pv 5) pa_nil))))) pa_nil)))))
      (pss_one (ps_ret (pe_callB (cr_sortedSet rfl) (by rfl) T.m_sorted (by decide +kernel) (pa_cons (pe_callTy (cr_setL rfl) (by rfl) T.m_set (by decide +kernel) (pa_cons (pe_lc (own := [("number", 4), ("cell", 5)]) rfl sc_needed.nd (pi_keys (pe_hold (C8.pe_c c_hung hr (by decide) (by rfl) (pa_cons (pv 0) (pa_cons (pv 3) pa_nil))))) (blkOk_by (N := N_needed) (sc := defScope s_needed) (by decide +kernel)) (fun _ _ _ _ _ => (pg_tupK (K0 := K) (n := 2) rfl rfl (pgs_cons (pg_name (i := 4) sc_needed.nd rfl (Or.inl rfl) (Or.inr rfl)) (pgs_cons (pg_name (i := 5) sc_needed.nd rfl (Or.inl rfl) (Or.inr rfl)) pgs_nil)))) (fun _ _ _ _ _ => pts_nil) (fun _ _ _ _ _ => (pv 4))) pa_nil)) pa_nil)))))), ?_⟩)
  · obtain ⟨F, d, nb, xs, ls, wd, n, rfl, _⟩ := h
    rfl
  · obtain ⟨F, d, nb, xs, ls, wd, n, rfl, sF, hd, hal, ok, hnb, hn, q⟩ := h
    refine ⟨by decide, fun pb hpb => ?_⟩
    have g0 := (Gw.refl (M := []) sF).alloc (o := .lst []) hpb
    refine ⟨_, rfl, nb, rfl, ⟨_, .inl (.inl (g0.same _ _ hnb))⟩, ?_⟩
    refine for_list (xs := [.int (n : Int)]) (fun i σ H' => ∃ x4 x5 F' ys, σ = [some (.ref d), some (.int (wd : Int)), some (.ref nb), some (.ref pb), x4, x5] ∧ Gw [] F H F' H' ∧ H' pb = some (.lst ys) ∧ F' pb = none ∧ ((i = 0 ∧ ys = []) ∨ (i = 1 ∧ Al (PairAt F') ys ((List.range wd).map fun c => (n, c))))) ⟨_, _, F, [], rfl, g0, upd_same, sF.free hpb, .inl ⟨rfl, rfl⟩⟩ ?_ ?_ ?_
    · rintro i σ H1 hi ⟨x4, x5, F1, ys, rfl, g1, _⟩
      exact .inl (.inl (g1.same _ _ hnb))
    · rintro i x σ H1 hx ⟨x4, x5, F1, ys, rfl, g1, hpb1, hFp, hcase⟩
      have hi0 : i = 0 := by
        have := (List.getElem?_eq_some_iff.mp hx).1
        simp at this
        exact this
      subst hi0
      obtain ⟨_, rfl⟩ := hcase.resolve_right (by simp)
      cases hx
      have hw1 := ok.w1
      refine ⟨_, rfl, tyL hpb1, _, rfl, (wd : Int), rfl, by omega, by omega, fun D hD => ?_⟩
      refine lc_gw (M := []) (F1 := F1) (walk_range (lo := 0) (n := ((wd : Int)).toNat)) (fun _ => True) (fun i F' y => PairAt F' y (n, i)) g1.sub hD (by simp) (by omega) trivial (fun _ _ _ => trivial) (fun _ _ _ _ s h => h.up s) (fun _ _ => trivial) ?_ ?_
      · rintro i y F2 H2 _ Q' hi sub fs _ ⟨rfl, hy⟩ k
        obtain rfl : y = .int (i : Int) := hy.trans (congrArg V.int (Int.zero_add _))
        refine ⟨rfl, _, rfl, _, rfl, by show 2 ≤ sizeLine; decide, fun tp htp => ?_⟩
        exact k _ _ _ ((Gw.refl (M := []) sub).frz htp) trivial ⟨tp, rfl, upd_same⟩
      · intro F2 H2 acc g2 fs2 _ hDa hFD hlen hres
        have ne : pb ≠ D := ne_of_some hpb1 hD
        have hp2 := g2.same _ _ hpb1
        have hFp2 := g2.out hpb1 hFp
        have hwl : acc.length = wd := by rw [hlen]; simp
        refine ⟨pb, D, [], acc, rfl, rfl, hp2, hDa, Nat.le_of_lt (lt_line (by simp; omega)), ?_⟩
        refine ⟨_, _, F2, _, rfl, (g1.call g2).put (.inl hpb) hFp2 hp2, upd_same, hFp2, .inr ⟨rfl, ?_⟩⟩
        refine ⟨by simp [hwl], fun i u p e1 e2 => ?_⟩
        rw [List.nil_append] at e1
        obtain ⟨c, hc, rfl⟩ := map_at e2
        have hi := (List.getElem?_eq_some_iff.mp e1).1
        rw [List.getElem?_range (by omega)] at hc
        cases hc
        exact hres i u e1
    · rintro σ H1 ⟨x4, x5, F1, ys, rfl, g1, hpb1, hFp, hcase⟩
      obtain ⟨_, hys⟩ := hcase.resolve_left (by simp)
      refine ⟨_, rfl, _, rfl, F1, d, pb, xs, ys, ls, wd, _, rfl, g1.sub, g1.same _ _ hd, hal.mono fun _ _ h => h.up g1.fs, ok, hpb1, hys, by simp; exact ok.w1, fun p hp => ?_, fun F2 H2 fd ks g2 hfd hFfd hfd0 knd kfew hks => ?_⟩
      · obtain ⟨c, hc, rfl⟩ := List.mem_map.mp hp
        exact ⟨hn, List.mem_range.mp hc⟩
      refine ⟨fd, _, rfl, hfd, trivial, fun od => ⟨fd, od, rfl, .inr ⟨_, upd_same, fun D hD => ?_⟩⟩⟩
      have g12 := g1.call g2
      have g3 := g12.put (o' := .frz od (.dT (ks.map ent))) (.inl (g1.dom _ hfd0)) hFfd hfd
      refine lc_gwI (M := []) (F1 := F2) walk_keysT (fun H => H fd = some (.frz od (.dT (ks.map ent)))) (fun i F' y => ∃ p, ks[i]? = some p ∧ y = .int (p.1 : Int)) g3.sub hD (by simp) (by rw [List.length_map]; omega) upd_same (fun H o h => ?_) (fun _ _ _ _ _ h => h) (fun H s h => h) ?_ ?_
      · have ne : fd ≠ D := ne_of_some (H := upd H2 fd (.frz od (.dT (ks.map ent)))) upd_same hD
        rw [upd_ne ne]
        exact h
      · rintro i y F4 H4 _ Q' hi sub fs hI ⟨rfl, kk, vv, qq, hk, rfl, hq⟩ k
        obtain ⟨p, hp, e⟩ := map_at hk
        cases e
        refine ⟨_, _, rfl, SqT.of hq, rfl, _, _, rfl, _, _, rfl, rfl, rfl, _, rfl, ?_⟩
        exact k _ F4 _ (Gw.refl sub) hI ⟨p, hp, rfl⟩
      · intro F4 H4 acc g4 fs4 _ hDa hFD hlen hres
        rw [List.length_map] at hlen
        have hacc : acc = (ks.map fun p => (p.1 : Int)).map V.int := by
          apply List.ext_getElem?
          intro j
          rcases Nat.lt_or_ge j acc.length with z | z
          · obtain ⟨p, hp, e⟩ := hres j _ (List.getElem?_eq_getElem z)
            rw [List.getElem?_eq_getElem z, e, List.getElem?_map, List.getElem?_map, hp]
            rfl
          · rw [List.getElem?_eq_none z, List.getElem?_eq_none (by simp; omega)]
        rw [hacc] at hDa
        have hfd4 := g4.same _ _ (upd_same (H := H2) (a := fd) (o := .frz od (.dT (ks.map ent))))
        refine ⟨D, _, rfl, .inl (.inl hDa), by rw [List.length_map]; omega, fun sp c hsp hc => ?_⟩
        rw [List.length_map] at hc
        refine ⟨sp, _, c, rfl, upd_same, by omega, fun ns lb hpw hmem hl hlb => ?_⟩
        have g5 := ((g3.call g4).alloc (o := SetO w sp (fun j => decide (j ∈ ks.map fun p : Nat × Nat => (p.1 : Int))) c) hsp).frz (o := .lst (ns.map V.int)) hlb
        refine q _ _ lb ns g5 upd_same (fun k => ?_) (by omega)
        rw [hmem k]
        simp only [decide_eq_true_eq, List.mem_map]
        constructor
        · rintro ⟨p, hp, rfl⟩
          obtain ⟨p0, hp0, hg⟩ := (hks p).mp hp
          obtain ⟨c0, hc0, rfl⟩ := List.mem_map.mp hp0
          exact ⟨p.1, rfl, c0, p.2, List.mem_range.mp hc0, hg⟩
        · rintro ⟨m, rfl, c0, c', hc0, hg⟩
          exact ⟨(m, c'), (hks _).mpr ⟨(n, c0), List.mem_map.mpr ⟨c0, List.mem_range.mpr hc0, rfl⟩, hg⟩, rfl⟩
end
end Sc

namespace Sc
open PySem PySem.Spec PyProof.Rows L2
/-! the dues of leaves -/
def IsDue (ls : List LeafD) (wd m : Nat) (x : Int) : Prop := (∃ n l, ls[n]? = some l ∧ HangsL ls wd n m ∧ x = l.bg) ∧ ∀ n l, ls[n]? = some l → HangsL ls wd n m → x ≤ l.bg
theorem IsDue.uniq {ls : List LeafD} {wd m : Nat} {x y : Int} (h : IsDue ls wd m x) (g : IsDue ls wd m y) : x = y := by
  obtain ⟨⟨n, l, a, b, rfl⟩, c⟩ := h
  obtain ⟨⟨n', l', a', b', rfl⟩, c'⟩ := g
  exact Int.le_antisymm (c _ _ a' b') (c' _ _ a b)
def DueTo (ls : List LeafD) (wd k : Nat) (ds : List Int) : Prop := ds.length = k ∧ ∀ (m : Nat) (x : Int), ds[m]? = some x → (∃ n l, n < k ∧ ls[n]? = some l ∧ HangsL ls wd n m ∧ x = l.bg) ∧ ∀ n l, n < k → ls[n]? = some l → HangsL ls wd n m → x ≤ l.bg
theorem DueTo.due {ls : List LeafD} {wd : Nat} {ds : List Int} (h : DueTo ls wd ls.length ds) {m : Nat} {x : Int} (e : ds[m]? = some x) : IsDue ls wd m x := by
  obtain ⟨⟨n, l, a, b, c, d⟩, f⟩ := h.2 m x e
  exact ⟨⟨n, l, b, c, d⟩, fun n l b c => f n l ((List.getElem?_eq_some_iff.mp b).1) b c⟩
theorem OkLs.le {ls : List LeafD} {wd n m : Nat} (ok : OkLs ls wd) (hn : n < ls.length) (h : HangsL ls wd n m) : m ≤ n := by
  obtain ⟨c, c', hc, hg⟩ := h
  exact (hg.in ok hn hc).1
theorem DueTo.step {ls : List LeafD} {wd k : Nat} {ds new : List Int} {l : LeafD} (ok : OkLs ls wd) (h : DueTo ls wd k ds) (hl : ls[k]? = some l) (len : new.length = k + 1)
    (hnew : ∀ (m : Nat) (x0 : Int), (ds ++ [l.bg])[m]? = some x0 → (HangsL ls wd k m → new[m]? = some (if l.bg < x0 then l.bg else x0)) ∧ (¬ HangsL ls wd k m → new[m]? = some x0)) : DueTo ls wd (k + 1) new := by
  refine ⟨len, fun m x hx => ?_⟩
  have hkl := (List.getElem?_eq_some_iff.mp hl).1
  have hm : m < k + 1 := by
    have := (List.getElem?_eq_some_iff.mp hx).1
    omega
  have self : HangsL ls wd k k := ⟨0, 0, ok.w0, .refl _⟩
  have hlen := h.1
  rcases Nat.lt_or_ge m k with q | q
  · have hd : m < ds.length := by omega
    obtain ⟨a1, a2⟩ := hnew m ds[m] (by rw [List.getElem?_append_left hd, List.getElem?_eq_getElem hd])
    obtain ⟨⟨n, l', b1, b2, b3, b4⟩, b5⟩ := h.2 m _ (List.getElem?_eq_getElem hd)
    by_cases hh : HangsL ls wd k m
    · have e := a1 hh
      rw [hx] at e
      have e := Option.some.inj e
      by_cases lt : l.bg < ds[m]
      · rw [if_pos lt] at e
        subst e
        refine ⟨⟨k, l, Nat.lt_succ_self _, hl, hh, rfl⟩, fun n2 l2 c1 c2 c3 => ?_⟩
        rcases Nat.lt_or_ge n2 k with z | z
        · have := b5 n2 l2 z c2 c3
          omega
        · have e2 : n2 = k := by omega
          subst e2
          rw [hl] at c2
          cases c2
          exact Int.le_refl _
      · rw [if_neg lt] at e
        subst e
        refine ⟨⟨n, l', by omega, b2, b3, b4⟩, fun n2 l2 c1 c2 c3 => ?_⟩
        rcases Nat.lt_or_ge n2 k with z | z
        · exact b5 n2 l2 z c2 c3
        · have e2 : n2 = k := by omega
          subst e2
          rw [hl] at c2
          cases c2
          omega
    · have e := a2 hh
      rw [hx] at e
      have e := Option.some.inj e
      subst e
      refine ⟨⟨n, l', by omega, b2, b3, b4⟩, fun n2 l2 c1 c2 c3 => ?_⟩
      rcases Nat.lt_or_ge n2 k with z | z
      · exact b5 n2 l2 z c2 c3
      · have e2 : n2 = k := by omega
        subst e2
        exact absurd c3 hh
  · have em : m = k := by omega
    subst em
    obtain ⟨a1, _⟩ := hnew m l.bg (by rw [List.getElem?_append_right (by omega), hlen]; simp)
    have e := a1 self
    rw [if_neg (Int.lt_irrefl _), hx] at e
    have e := Option.some.inj e
    subst e
    refine ⟨⟨m, l, Nat.lt_succ_self _, hl, self, rfl⟩, fun n2 l2 c1 c2 c3 => ?_⟩
    have h2 := ok.le (by omega) c3
    have e2 : n2 = m := by omega
    subst e2
    rw [hl] at c2
    cases c2
    exact Int.le_refl _
theorem needs_take {ls : List LeafD} {k : Nat} {p : Nat × Nat} (h : p.1 < k) : cellNeeds (ls.take k) p = cellNeeds ls p := by
  unfold cellNeeds
  rw [List.getElem?_take_of_lt h]
theorem hang_take {ls : List LeafD} {wd k : Nat} (ok : OkLs ls wd) (hk : k ≤ ls.length) {p q : Nat × Nat} (h : Hang ls p q) : p.1 < k → p.2 < wd → Hang (ls.take k) p q := by
  induction h with
  | refl p => exact fun _ _ => .refl p
  | step hq _ ih =>
    intro h1 h2
    obtain ⟨a, b⟩ := (ok.needs (by omega) h2).2 _ hq
    exact .step (by rw [needs_take h1]; exact hq) (ih (by omega) b)
theorem hang_of_take {ls : List LeafD} {wd k : Nat} (ok : OkLs ls wd) (hk : k ≤ ls.length) {p q : Nat × Nat} (h : Hang (ls.take k) p q) : p.1 < k → p.2 < wd → Hang ls p q := by
  induction h with
  | refl p => exact fun _ _ => .refl p
  | step hq _ ih =>
    intro h1 h2
    rw [needs_take h1] at hq
    obtain ⟨a, b⟩ := (ok.needs (by omega) h2).2 _ hq
    exact .step hq (ih (by omega) b)
theorem hangsL_take {ls : List LeafD} {wd k n m : Nat} (ok : OkLs ls wd) (hk : k ≤ ls.length) (h : n < k) : HangsL (ls.take k) wd n m ↔ HangsL ls wd n m :=
  ⟨fun ⟨c, c', hc, hg⟩ => ⟨c, c', hc, hang_of_take ok hk hg h hc⟩, fun ⟨c, c', hc, hg⟩ => ⟨c, c', hc, hang_take ok hk hg h hc⟩⟩
theorem OkLs.take {ls : List LeafD} {wd : Nat} (ok : OkLs ls wd) (k : Nat) : OkLs (ls.take k) wd := ⟨ok.w0, ok.w1, by rw [List.length_take]; have := ok.few; omega, fun i x e => by
  have hi := (List.getElem?_eq_some_iff.mp e).1
  rw [List.length_take] at hi
  rw [List.getElem?_take_of_lt (by omega)] at e
  exact ok.leaf i x e⟩
theorem OkLane.ls {l : LaneD} {wd : Nat} (h : OkLane l wd) (h0 : 1 ≤ wd) (h1 : wd ≤ 4) : OkLs l.leaves wd := ⟨h0, h1, h.few, h.leaf⟩
section
variable {P : Program} {w : World} {K : PySem.W.Frag} {mg : Str → Option Value} {base : Heap}
theorem ixN_at {n j : Nat} (hj : j < n) : ixN n (j : Int) = some j := by
  unfold ixN
  rw [if_pos (by omega), if_pos (by omega)]
  simp
def sp_begins_due (K : PySem.W.Frag) : Sp := fun vs H Q _ => ∃ (F : Hp) (v : V) (f : FilmD) (i : Nat) (l : LaneD), vs = [v, .int (i : Int)] ∧ Same F H ∧ FilmAt K F v f ∧ f.lanes[i]? = some l ∧ OkFilm f ∧
  ∀ (F' H' : Hp) (b : Addr) (ds : List Int), Gw [] F H F' H' → F' b = some (.lst (ds.map V.int)) → DueTo l.leaves f.wide l.leaves.length ds → Q (.ref b) H'
abbrev N_begins_due : List Str := ["film", "lane", "leaves", "found", "number", "begin", "other"]
theorem sc_begins_due : FnScope N_begins_due ["film", "lane"] (defScope s_begins_due) := ⟨rfl, rfl, rfl, by decide +kernel, rfl, by decide +kernel, by decide +kernel⟩
theorem ok_begins_due (T : Ts K mg) (c_many : C8.Met P w K mg base 3 (He.ga K "Film") "many" (sp_Film_many K) []) (c_told_leaf : C8.Met P w K mg base 4 (He.ga K "Film") "told_leaf" (sp_Film_told_leaf K) []) (c_leaf_of : C8.Cal P w K mg base 6 "leaf_of" (sp_leaf_of K) [])
    (c_needed : C8.Cal P w K mg base 7 "needed" (sp_needed K) []) : C8.Cal P w K mg base 8 "begins_due" (sp_begins_due K) [] := by
  refine cal_of T.f_begins_due T.g_begins_due sc_begins_due (fun vs H Q E h => ?_) (fun _ _ _ _ _ _ us hl => match us, hl with | [_, _], _ => rfl) (fun cdv A outer s H vs Q E hr h => ⟨_, (pss_cons (ps_set (i := 2) sc_begins_due.nd rfl (Or.inl rfl) pe_dnewK)
      (pss_cons (ps_set (i := 3) sc_begins_due.nd rfl (Or.inl rfl) (pe_lst pa_nil))
      (pss_cons (ps_for PassesOwn.never rfl (pi_range1 (by rfl) T.m_range (pa_cons (C8.pe_mt c_many hr (by decide) (pv 0) (pa_cons (pv 1) pa_nil)) pa_nil)) (pg_name (i := 4) sc_begins_due.nd rfl (Or.inl rfl)) (pss_cons (ps_dput (hu_of hr) (pv 2) (pv 4) (C8.pe_c c_leaf_of hr (by decide) (by rfl) (pa_cons (C8.pe_mt c_told_leaf hr (by decide) (pv 0) (pa_cons (pv 1) (pa_cons (pv 4) pa_nil))) pa_nil)) rfl)
      (pss_cons (ps_set (i := 5) sc_begins_due.nd rfl (Or.inl rfl) (pe_fld (pe_dget (hu_of hr) (pv 2) (pv 4) (fun _ _ => rfl)) rfl))
      (pss_cons (ps_expr (pe_bm PySem.F.plainAttrs_list PySem.F.slot_list_append PySem.F.type_list_append mt_append (pv 3) (pa_cons (pv 5) pa_nil)))
      (pss_one (ps_for PassesOwn.never rfl (pi_list (C8.pe_c c_needed hr (by decide) (by rfl) (pa_cons (pv 2) (pa_cons (pe_fld (pv 0) rfl) (pa_cons (pe_lst (pa_cons (pv 4) pa_nil)) pa_nil))))) (pg_name (i := 6) sc_begins_due.nd rfl (Or.inl rfl)) (pss_one (ps_asg (pe_callB (call_min2 rfl) (by rfl) T.m_min (by decide +kernel) (pa_cons (pe_ix ix_list (pv 3) (pv 6) (fun _ _ => rfl)) (pa_cons (pv 5) pa_nil))) (pg_sub (pv 3) (pv 6) set_list)))))))))
      (pss_one (ps_ret (pv 3)))))), ?_⟩)
  · obtain ⟨F, v, f, i, l, rfl, _⟩ := h
    rfl
  · obtain ⟨F, v, f, i0, l, rfl, sF, hf, hi0, okf, q⟩ := h
    have okl := okf.lane l (List.mem_of_getElem? hi0)
    have ok := okl.ls okf.w0 okf.w1
    obtain ⟨p, dx, lv, xs0, rfl, h1, h2, h3⟩ := id hf
    intro d hd
    have g0 := (Gw.refl (M := []) sF).alloc (o := .dK []) hd
    refine ⟨by decide, fun fb hfb => ?_⟩
    have g1 := g0.alloc (o := .lst []) hfb
    have hfb0 := g0.dom _ hfb
    have hd1 := keep_upd (upd_same (H := H) (a := d) (o := .dK [])) hfb (o' := .lst [])
    have nfd : d ≠ fb := ne_of_some (H := upd H d (.dK [])) upd_same hfb
    refine ⟨_, rfl, p, dx, _, rfl, g1.sub _ _ h1, rfl, _, rfl, _, f, i0, l, rfl, hf.up g1.sub, hi0, _, rfl, by have := ok.few; omega, by have := ok.few; omega, ?_⟩
    have few := ok.few
    refine for_range (fun k σ H' => ∃ x4 x5 x6 F' xs ds, σ = [some (.ref p), some (.int (i0 : Int)), some (.ref d), some (.ref fb), x4, x5, x6] ∧ Gw [] F H F' H' ∧ H' d = some (.dK (enumK xs)) ∧ F' d = none ∧ H' fb = some (.lst (ds.map V.int)) ∧ F' fb = none ∧ Al (LeafAt K F') xs (l.leaves.take k) ∧ DueTo l.leaves f.wide k ds)
      ⟨_, _, _, F, [], [], rfl, g1, hd1, sF.free hd, upd_same, sF.free hfb0, .nil, rfl, fun m x e => by simp at e⟩ ?_ ?_
    · rintro k σ H1 hk ⟨x4, x5, x6, F1, xs, ds, rfl, g, hdk, hFd, hfk, hFf, hal, hdue⟩
      have hkl : k < l.leaves.length := by simpa using hk
      have hl := List.getElem?_eq_getElem hkl
      obtain ⟨okx, ftx⟩ := ok.leaf _ _ hl
      show gName 4 (.int (0 + (k : Int))) _ _ _
      rw [Int.zero_add]
      have h1' := g.sub _ _ (g.fs _ _ h1)
      have hxl : xs.length = k := by
        rw [hal.len, List.length_take]
        omega
      refine ⟨_, rfl, p, dx, _, rfl, h1', rfl, _, rfl, _, rfl, F1, _, f, i0, k, l, _, rfl, g.sub, hf.up g.fs, hi0, hl, fun F2 H2 u g2 hu => ?_⟩
      refine ⟨F2, u, _, rfl, g2.sub, hu, okx, fun F3 H3 u3 g3 hu3 => ?_⟩
      have g23 := g2.call g3
      have hd3 := g23.same _ _ hdk
      have hf3 := g23.same _ _ hfk
      have hFd3 := g23.out hdk hFd
      have hFf3 := g23.out hfk hFf
      refine ⟨_, rfl, _, rfl, d, _, rfl, DPut.k (k := Sum.inl (k : Int)) hd3 (by rw [enumK_len]; exact lt_line (by omega)), ?_⟩
      rw [← hxl, putK_enumK, hxl]
      have g4 := (g.call g23).put (o' := .dK (enumK (xs ++ [u3]))) (.inl hd) hFd3 hd3
      have hd4 : upd H3 d (.dK (enumK (xs ++ [u3]))) d = some (.dK (enumK (xs ++ [u3]))) := upd_same
      have hf4 : upd H3 d (.dK (enumK (xs ++ [u3]))) fb = some (.lst (ds.map V.int)) := by rw [upd_ne nfd.symm]; exact hf3
      have hal4 : Al (LeafAt K F3) (xs ++ [u3]) (l.leaves.take (k + 1)) := by
        rw [List.take_add_one, hl]
        exact (hal.mono fun _ _ h => h.up g23.fs).snoc hu3
      obtain ⟨a, C, dx', fs', e, ha, cl, nb, ns, l1, l2⟩ := (hu3.up g4.sub).flds T
      have hg : DGet (upd H3 d (.dK (enumK (xs ++ [u3])))) d (.int (k : Int)) (some u3) := by
        have := DGet.k (k := Sum.inl (k : Int)) hd4
        rw [valV_enumK (by rw [List.length_append, List.length_singleton]; omega)] at this
        simp [hxl] at this
        exact this
      refine ⟨_, rfl, _, rfl, d, u3, rfl, hg, a, C, dx', fs', _, e, ha, cl, nb, l1, ?_⟩
      have hdl := hdue.1
      refine ⟨_, rfl, tyL hf4, _, rfl, fb, _, _, rfl, rfl, hf4, lt_line (by rw [List.length_map]; omega), ?_⟩
      have e5 : (ds.map V.int ++ [V.int l.leaves[k].bg]) = (ds ++ [l.leaves[k].bg]).map V.int := by simp
      rw [e5]
      have g5 := g4.put (o' := .lst ((ds ++ [l.leaves[k].bg]).map V.int)) (.inl hfb0) hFf3 hf4
      have hd5 : upd (upd H3 d (.dK (enumK (xs ++ [u3])))) fb (.lst ((ds ++ [l.leaves[k].bg]).map V.int)) d = some (.dK (enumK (xs ++ [u3]))) := by rw [upd_ne nfd]; exact hd4
      have hf5 : upd (upd H3 d (.dK (enumK (xs ++ [u3])))) fb (.lst ((ds ++ [l.leaves[k].bg]).map V.int)) fb = some (.lst ((ds ++ [l.leaves[k].bg]).map V.int)) := upd_same
      refine ⟨_, rfl, _, rfl, p, _, dx, _, _, rfl, g5.sub _ _ (g23.fs _ _ (g.fs _ _ h1)), T.c_Film, T.n_Film_wide, rfl, _, rfl, by show 1 ≤ sizeLine; decide, fun nb5 hnb5 => ?_⟩
      have g6 := g5.alloc (o := .lst [.int (k : Int)]) hnb5
      have hd6 := keep_upd hd5 hnb5 (o' := .lst [.int (k : Int)])
      have hf6 := keep_upd hf5 hnb5 (o' := .lst [.int (k : Int)])
      refine ⟨F3, d, nb5, xs ++ [u3], l.leaves.take (k + 1), f.wide, k, rfl, g6.sub, hd6, hal4, ok.take _, upd_same, by rw [List.length_take]; omega, fun F7 H7 b ns g7 hb hns hnl => ?_⟩
      have hns2 : ∀ z : Int, z ∈ ns ↔ ∃ m : Nat, z = (m : Int) ∧ HangsL l.leaves f.wide k m := fun z => by
        rw [hns z]
        exact ⟨fun ⟨m, e, h⟩ => ⟨m, e, (hangsL_take ok (by omega) (by omega)).mp h⟩, fun ⟨m, e, h⟩ => ⟨m, e, (hangsL_take ok (by omega) (by omega)).mpr h⟩⟩
      have hd7 := g7.same _ _ hd6
      have hf7 := g7.same _ _ hf6
      have hFd7 := g7.out hd6 hFd3
      have hFf7 := g7.out hf6 hFf3
      refine ⟨b, rfl, ⟨_, .inl (.inl (g7.sub _ _ hb))⟩, ?_⟩
      refine for_list (xs := ns.map V.int) (fun j σ H' => ∃ x6 es, σ = [some (.ref p), some (.int (i0 : Int)), some (.ref d), some (.ref fb), some (.int (k : Int)), some (.int l.leaves[k].bg), x6] ∧ Gw [] F H F7 H' ∧ H' d = some (.dK (enumK (xs ++ [u3]))) ∧ H' fb = some (.lst (es.map V.int)) ∧ es.length = k + 1 ∧
        ∀ (m : Nat) (x0 : Int), (ds ++ [l.leaves[k].bg])[m]? = some x0 → es[m]? = some (if (m : Int) ∈ ns.take j then (if l.leaves[k].bg < x0 then l.leaves[k].bg else x0) else x0)) ⟨_, ds ++ [l.leaves[k].bg], rfl, g6.call g7, hd7, hf7, by rw [List.length_append, List.length_singleton]; omega, fun m x0 e => by simpa using e⟩ ?_ ?_ ?_
      · rintro j σ H8 hj ⟨x6, es, rfl, g8, _⟩
        exact .inl (.inl (g8.sub _ _ hb))
      · rintro j y σ H8 hy ⟨x6, es, rfl, g8, hd8, hf8, hel, hes⟩
        obtain ⟨z, hz, rfl⟩ := map_at hy
        obtain ⟨m, rfl, hm⟩ := (hns2 z).mp (List.mem_of_getElem? hz)
        have hmk : m ≤ k := ok.le (by omega) hm
        have hml : m < es.length := by omega
        refine ⟨_, rfl, _, rfl, fb, _, _, _, rfl, rfl, .inl (.inl hf8), atI_nat (show (es.map V.int)[m]? = some (.int es[m]) by rw [List.getElem?_map, List.getElem?_eq_getElem hml]; rfl), _, rfl, _, _, rfl, ?_⟩
        refine ⟨_, rfl, _, rfl, fb, _, _, _, rfl, rfl, hf8, ixN_at (by rw [List.length_map]; exact hml), ?_⟩
        have e9 : (es.map V.int).set m (V.int (if l.leaves[k].bg < es[m] then l.leaves[k].bg else es[m])) = (es.set m (if l.leaves[k].bg < es[m] then l.leaves[k].bg else es[m])).map V.int := by rw [List.map_set]
        rw [e9]
        have g9 := g8.put (o' := .lst ((es.set m (if l.leaves[k].bg < es[m] then l.leaves[k].bg else es[m])).map V.int)) (.inl hfb0) hFf7 hf8
        refine ⟨_, _, rfl, g9, by rw [upd_ne nfd]; exact hd8, upd_same, by rw [List.length_set]; exact hel, fun m2 x0 e0 => ?_⟩
        have old := hes m2 x0 e0
        rw [List.take_add_one, hz]
        by_cases em : m2 = m
        · subst em
          rw [List.getElem?_set_self hml]
          rw [List.getElem?_eq_getElem hml] at old
          have old := Option.some.inj old
          have hmem : (m2 : Int) ∈ ns.take j ++ (some (m2 : Int)).toList := by simp
          rw [if_pos hmem, old]
          congr 1
          by_cases c1 : (m2 : Int) ∈ ns.take j
          · rw [if_pos c1]
            by_cases c2 : l.leaves[k].bg < x0
            · rw [if_pos c2, if_neg (Int.lt_irrefl _)]
            · rw [if_neg c2, if_neg c2]
          · rw [if_neg c1]
        · rw [List.getElem?_set_ne (fun z => em z.symm), old]
          have : ((m2 : Int) ∈ ns.take j ++ (some (m : Int)).toList) ↔ (m2 : Int) ∈ ns.take j := by
            simp
            intro z
            exact absurd (Int.ofNat.inj z) em
          by_cases c1 : (m2 : Int) ∈ ns.take j
          · rw [if_pos c1, if_pos (this.mpr c1)]
          · rw [if_neg c1, if_neg (fun z => c1 (this.mp z))]
      · rintro σ H8 ⟨x6, es, rfl, g8, hd8, hf8, hel, hes⟩
        refine ⟨_, _, _, F7, xs ++ [u3], es, rfl, g8, hd8, hFd7, hf8, hFf7, hal4.mono fun _ _ h => h.up g7.fs, ?_⟩
        refine hdue.step ok hl hel fun m x0 e0 => ?_
        have := hes m x0 e0
        rw [List.length_map, List.take_length] at this
        refine ⟨fun hh => ?_, fun hh => ?_⟩
        · rw [if_pos ((hns2 _).mpr ⟨m, rfl, hh⟩)] at this
          exact this
        · rw [if_neg (fun z => by
            obtain ⟨m', e, h'⟩ := (hns2 _).mp z
            rw [Int.ofNat.inj e] at hh
            exact hh h')] at this
          exact this
    · rintro σ H1 ⟨x4, x5, x6, F1, xs, ds, rfl, g, hdk, hFd, hfk, hFf, hal, hdue⟩
      refine ⟨_, rfl, q _ _ fb ds (g.hold hfk hfb0 hFf) upd_same ?_⟩
      simpa using hdue
end
end Sc

namespace Sc
open PySem PySem.Spec PyProof.Rows L2
/-! pieces and their dues -/
structure PieceD where
  lane : Nat
  first : Nat
  cnt : Nat
def FilmD.lvs (f : FilmD) (i : Nat) : List LeafD := match f.lanes[i]? with
  | some l => l.leaves
  | none => []
def FilmD.un (f : FilmD) (i : Nat) : Int := match f.lanes[i]? with
  | some l => l.units
  | none => 1
def PieceD.ls (f : FilmD) (p : PieceD) : List LeafD := ((f.lvs p.lane).drop p.first).take p.cnt
def PieceD.dat (f : FilmD) (p : PieceD) : PyData := .tuple [.int f.sg, .int (p.lane : Int), .int (p.first : Int), .list ((p.ls f).map LeafD.dat)]
structure OkP (f : FilmD) (p : PieceD) : Prop where
  lane : p.lane < f.lanes.length
  c1 : 1 ≤ p.cnt
  fit : p.first + p.cnt ≤ (f.lvs p.lane).length
noncomputable def theDue (ls : List LeafD) (wd m : Nat) : Int := Classical.epsilon (IsDue ls wd m)
theorem IsDue.eq {ls : List LeafD} {wd m : Nat} {x : Int} (h : IsDue ls wd m x) : theDue ls wd m = x := IsDue.uniq (Classical.epsilon_spec (p := IsDue ls wd m) ⟨x, h⟩) h
/-- the least of a list -/
def minL : List Int → Int
  | [] => 0
  | x :: r => r.foldl (fun a b => if b < a then b else a) x
theorem foldl_min : ∀ (r : List Int) (x : Int), (r.foldl (fun a b => if b < a then b else a) x = x ∨ r.foldl (fun a b => if b < a then b else a) x ∈ r) ∧ r.foldl (fun a b => if b < a then b else a) x ≤ x ∧ ∀ y, y ∈ r → r.foldl (fun a b => if b < a then b else a) x ≤ y
  | [], x => ⟨.inl rfl, Int.le_refl _, fun y h => by simp at h⟩
  | b :: r, x => by
    obtain ⟨h1, h2, h3⟩ := foldl_min r (if b < x then b else x)
    rw [List.foldl_cons]
    refine ⟨?_, ?_, fun y hy => ?_⟩
    · rcases h1 with h1 | h1
      · rw [h1]
        by_cases c : b < x
        · rw [if_pos c]
          exact .inr List.mem_cons_self
        · rw [if_neg c]
          exact .inl rfl
      · exact .inr (List.mem_cons_of_mem _ h1)
    · by_cases c : b < x
      · rw [if_pos c] at h2 ⊢
        omega
      · rw [if_neg c] at h2 ⊢
        omega
    · rcases List.mem_cons.mp hy with rfl | hy
      · by_cases c : y < x
        · rw [if_pos c] at h2 ⊢
          omega
        · rw [if_neg c] at h2 ⊢
          omega
      · exact h3 y hy
theorem minL_mem {l : List Int} (h : l ≠ []) : minL l ∈ l ∧ ∀ y, y ∈ l → minL l ≤ y := by
  cases l with
  | nil => exact absurd rfl h
  | cons x r =>
    obtain ⟨h1, h2, h3⟩ := foldl_min r x
    refine ⟨?_, fun y hy => ?_⟩
    · rcases h1 with h1 | h1
      · show r.foldl _ x ∈ _
        rw [h1]
        exact List.mem_cons_self
      · exact List.mem_cons_of_mem _ h1
    · rcases List.mem_cons.mp hy with rfl | hy
      · exact h2
      · exact h3 y hy
theorem minL_eq {l : List Int} {m : Int} (h : m ∈ l) (h2 : ∀ y, y ∈ l → m ≤ y) : minL l = m := by
  obtain ⟨a, b⟩ := minL_mem (List.ne_nil_of_mem h)
  exact Int.le_antisymm (b m h) (h2 _ a)
noncomputable def key (f : FilmD) (p : PieceD) : Int := minL ((List.range p.cnt).map fun k => theDue (f.lvs p.lane) f.wide (p.first + k))
noncomputable def due (f : FilmD) (p : PieceD) : Int × Int := low (key f p) (f.un p.lane)
theorem DueTo.map {ls : List LeafD} {wd : Nat} {ds : List Int} (h : DueTo ls wd ls.length ds) : ds = (List.range ls.length).map (theDue ls wd) := by
  apply List.ext_getElem?
  intro j
  have hl := h.1
  rcases Nat.lt_or_ge j ds.length with q | q
  · have e := List.getElem?_eq_getElem q
    rw [e, List.getElem?_map, List.getElem?_range (by omega)]
    exact congrArg some (h.due e).eq.symm
  · rw [List.getElem?_eq_none q, List.getElem?_eq_none (by simp; omega)]
theorem DueTo.cut {ls : List LeafD} {wd a b : Nat} {ds : List Int} (h : DueTo ls wd ls.length ds) (hb : a + b ≤ ls.length) : (ds.drop a).take b = (List.range b).map fun k => theDue ls wd (a + k) := by
  have hl := h.1
  apply List.ext_getElem?
  intro j
  rcases Nat.lt_or_ge j b with q | q
  · rw [List.getElem?_take_of_lt q, List.getElem?_drop, List.getElem?_map, List.getElem?_range q, List.getElem?_eq_getElem (by omega)]
    exact congrArg some (h.due (List.getElem?_eq_getElem (by omega))).eq.symm
  · rw [List.getElem?_eq_none (by simp; omega), List.getElem?_eq_none (by simpa using q)]
theorem cutV_nat {xs : List V} {a b : Nat} (h : a + b ≤ xs.length) : cutV xs (some (a : Int)) (some ((a : Int) + (b : Int))) = (xs.drop a).take b := by
  unfold cutV
  rw [show ((a : Int) + (b : Int)) = ((a + b : Nat) : Int) by omega, HT.sIx_nat, HT.sIx_nat, Nat.min_eq_left h, Nat.min_eq_left (show a ≤ xs.length by omega), Nat.add_sub_cancel_left]
theorem lvs_of {f : FilmD} {i : Nat} {l : LaneD} (h : f.lanes[i]? = some l) : f.lvs i = l.leaves ∧ f.un i = l.units := by
  unfold FilmD.lvs FilmD.un
  rw [h]
  exact ⟨rfl, rfl⟩
theorem OkP.at {f : FilmD} {p : PieceD} (h : OkP f p) : ∃ l, f.lanes[p.lane]? = some l ∧ f.lvs p.lane = l.leaves ∧ f.un p.lane = l.units := ⟨_, List.getElem?_eq_getElem h.lane, lvs_of (List.getElem?_eq_getElem h.lane)⟩
theorem OkP.len {f : FilmD} {p : PieceD} (h : OkP f p) : (p.ls f).length = p.cnt := by
  unfold PieceD.ls
  rw [List.length_take, List.length_drop]
  have := h.fit
  omega
def scaleTo (f : FilmD) (i : Nat) : Int := ((f.lanes.take i).map LaneD.units).foldl (· * ·) 1
def scale (f : FilmD) : Int := scaleTo f f.lanes.length
theorem scaleTo_succ {f : FilmD} {i : Nat} {l : LaneD} (h : f.lanes[i]? = some l) : scaleTo f (i + 1) = scaleTo f i * l.units := by
  unfold scaleTo
  rw [take_succ_map h, List.foldl_append]
  rfl
section
variable {P : Program} {w : World} {K : PySem.W.Frag} {mg : Str → Option Value} {base : Heap}
def sp_dues_of (K : PySem.W.Frag) : Sp := fun vs H Q _ => ∃ (F : Hp) (v : V) (a : Addr) (xs : List V) (f : FilmD) (ps : List PieceD), vs = [v, .ref a] ∧ Same F H ∧ FilmAt K F v f ∧ OkFilm f ∧ H a = some (.lst xs) ∧ Al (fun v p => Dp K F v (p.dat f)) xs ps ∧ (∀ p, p ∈ ps → OkP f p) ∧ ps.length ≤ 60 ∧
  ∀ (F' H' : Hp) (b : Addr) (ys : List V), Gw [] F H F' H' → F' b = some (.lst ys) → Al (fun v p => Dp K F' v (frD (due f p))) ys ps → Q (.ref b) H'
def sp_scale_of (K : PySem.W.Frag) : Sp := fun vs H Q _ => ∃ (v : V) (f : FilmD), vs = [v] ∧ FilmAt K H v f ∧ OkFilm f ∧ Q (.int (scale f)) H
theorem FilmAt.len {H : Hp} {v : V} {f : FilmD} (h : FilmAt K H v f) : ∃ a dx fs, v = .ref a ∧ H a = some (.ins (He.ga K "Film") dx fs) ∧ fs.lookup ("units" : Str) = none ∧ fs.lookup ("many" : Str) = none ∧ fs.lookup ("told_leaf" : Str) = none ∧ fs.lookup ("told" : Str) = none := by
  obtain ⟨p, dx, lv, xs, rfl, h1, _⟩ := h
  exact ⟨p, dx, _, rfl, h1, rfl, rfl, rfl, rfl⟩
abbrev N_scale_of : List Str := ["film", "found", "lane"]
theorem sc_scale_of : FnScope N_scale_of ["film"] (defScope s_scale_of) := ⟨rfl, rfl, rfl, by decide +kernel, rfl, by decide +kernel, by decide +kernel⟩
theorem ok_scale_of (T : Ts K mg) (c_units : C8.Met P w K mg base 3 (He.ga K "Film") "units" (sp_Film_units K) []) (c_len : C8.Met P w K mg base 1 (He.ga K "Film") "__len__" (sp_Film_len K) []) : C8.Cal P w K mg base 4 "scale_of" (sp_scale_of K) [] := by
  obtain ⟨fL, fdL, psL, dsL, clL, mL, FL, bL, dL⟩ := c_len.ex
  cases dL
  refine cal_of T.f_scale_of T.g_scale_of sc_scale_of (fun vs H Q E h => ?_) (fun _ _ _ _ _ _ us hl => match us, hl with | [_], _ => rfl) (fun cdv A outer s H vs Q E hr h => ⟨_, (pss_cons (ps_set (i := 1) sc_scale_of.nd rfl (Or.inl rfl) pe_int)
      (pss_cons (ps_for PassesOwn.never rfl (pi_range1 (by rfl) T.m_range (pa_cons (pe_callB (call_lenO mL.at_ mL.fn FL (hr.mono (by decide)) bL C8.pass0) (by rfl) T.m_len PySem.boot_len (pa_cons (pv 0) pa_nil)) pa_nil)) (pg_name (i := 2) sc_scale_of.nd rfl (Or.inl rfl)) (pss_one (ps_set (i := 1) sc_scale_of.nd rfl (Or.inl rfl) (pe_op op_mul (pv 1) (C8.pe_mt c_units hr (by decide) (pv 0) (pa_cons (pv 2) pa_nil))))))
      (pss_one (ps_ret (pv 1))))), ?_⟩)
  · obtain ⟨v, f, rfl, _⟩ := h
    rfl
  · obtain ⟨v, f, rfl, hf, ok, q⟩ := h
    obtain ⟨a, dx, fs, rfl, ha, lu, _⟩ := hf.len
    have n1 := ok.n1
    refine ⟨_, rfl, a, dx, fs, rfl, ha, _, f, rfl, hf, _, rfl, ⟨by omega, by omega⟩, _, rfl, by omega, by omega, ?_⟩
    refine for_range (fun i σ H' => H' = H ∧ ∃ x2, σ = [some (.ref a), some (.int (scaleTo f i)), x2]) ⟨rfl, none, rfl⟩ ?_ ?_
    · rintro i σ _ hi ⟨rfl, x2, rfl⟩
      have hl := List.getElem?_eq_getElem (show i < f.lanes.length by simpa using hi)
      have okl := ok.lane _ (List.mem_of_getElem? hl)
      show gName 2 (.int (0 + (i : Int))) _ _ _
      rw [Int.zero_add]
      refine ⟨_, rfl, _, rfl, a, dx, fs, rfl, ha, lu, _, rfl, _, f, i, _, rfl, hf, hl, _, _, rfl, rfl, ?_, rfl, some (.int (i : Int)), ?_⟩
      · have := okl.u0
        have := okl.u1
        exact .inr ⟨by omega, by omega⟩
      · rw [scaleTo_succ hl]
        rfl
    · rintro σ _ ⟨rfl, x2, rfl⟩
      exact ⟨_, rfl, q⟩
abbrev N_dues_of : List Str := ["film", "parts", "begins", "found", "seal", "lane", "first", "leaves"]
theorem sc_dues_of : FnScope N_dues_of ["film", "parts"] (defScope s_dues_of) := ⟨rfl, rfl, rfl, by decide +kernel, rfl, by decide +kernel, by decide +kernel⟩
theorem ok_dues_of (T : Ts K mg) (c_units : C8.Met P w K mg base 3 (He.ga K "Film") "units" (sp_Film_units K) []) (c_len : C8.Met P w K mg base 1 (He.ga K "Film") "__len__" (sp_Film_len K) []) (c_begins_due : C8.Cal P w K mg base 8 "begins_due" (sp_begins_due K) [])
    (c_fraction : C8.Cal P w K mg base 2 "fraction" sp_fraction []) : C8.Cal P w K mg base 9 "dues_of" (sp_dues_of K) [] := by
  obtain ⟨fL, fdL, psL, dsL, clL, mL, FL, bL, dL⟩ := c_len.ex
  cases dL
  refine cal_of T.f_dues_of T.g_dues_of sc_dues_of (fun vs H Q E h => ?_) (fun _ _ _ _ _ _ us hl => match us, hl with | [_, _], _ => rfl) (fun cdv A outer s H vs Q E hr h => ⟨_, (pss_cons (ps_setLc (i := 2) (own := [("lane", 5)]) rfl sc_dues_of.nd rfl rfl (sw_true rfl rfl rfl (by decide +kernel)) (pi_range1 (by rfl) T.m_range (pa_cons (pe_callB (call_lenO mL.at_ mL.fn FL (hr.mono (by decide)) bL C8.pass0) (by rfl) T.m_len PySem.boot_len (pa_cons (pv 0) pa_nil)) pa_nil)) (blkOk_by (N := N_dues_of) (sc := defScope s_dues_of) (by decide +kernel)) (fun _ _ _ _ _ => (pg_name (i := 5) sc_dues_of.nd rfl (Or.inl rfl) (Or.inr rfl))) (fun _ _ _ _ _ => pts_nil) (fun _ _ _ _ _ => (C8.pe_c c_begins_due hr (by decide) (by rfl) (pa_cons (pv 0) (pa_cons (pv 5) pa_nil)))))
      (pss_cons (ps_set (i := 3) sc_dues_of.nd rfl (Or.inl rfl) (pe_lst pa_nil))
      (pss_cons (ps_for PassesOwn.never rfl (pi_list (pv 1)) (pg_tup rfl (pgs_cons (pg_name (i := 4) sc_dues_of.nd rfl (Or.inl rfl)) (pgs_cons (pg_name (i := 5) sc_dues_of.nd rfl (Or.inl rfl)) (pgs_cons (pg_name (i := 6) sc_dues_of.nd rfl (Or.inl rfl)) (pgs_cons (pg_name (i := 7) sc_dues_of.nd rfl (Or.inl rfl)) pgs_nil))))) (pss_one (ps_expr (pe_bm PySem.F.plainAttrs_list PySem.F.slot_list_append PySem.F.type_list_append mt_append (pv 3) (pa_cons (C8.pe_c c_fraction hr (by decide) (by rfl) (pa_cons (pe_callB (cr_min rfl) (by rfl) T.m_min (by decide +kernel) (pa_cons (pe_slice sl_list (pe_ix ix_list (pv 2) (pv 5) (fun _ _ => rfl)) (po_some (pv 6)) (po_some (pe_op op_add (pv 6) (pe_callB call_len (by rfl) T.m_len PySem.boot_len (pa_cons (pv 7) pa_nil))))) pa_nil)) (pa_cons (C8.pe_mt c_units hr (by decide) (pv 0) (pa_cons (pv 5) pa_nil)) pa_nil))) pa_nil)))))
      (pss_one (ps_ret (pv 3)))))), ?_⟩)
  · obtain ⟨F, v, a, xs, f, ps, rfl, _⟩ := h
    rfl
  · obtain ⟨F, v, pa, xs, f, ps, rfl, sF, hf, ok, hpa, hps, hok, hn, q⟩ := h
    have hf1 := hf.up sF
    obtain ⟨a, dx, fs, rfl, ha, lu, _⟩ := hf1.len
    have n1 := ok.n1
    refine ⟨_, rfl, a, dx, fs, rfl, ha, _, f, rfl, hf1, _, rfl, ⟨by omega, by omega⟩, _, rfl, by omega, by omega, fun D hD => ?_⟩
    refine lc_gw (M := []) (F1 := F) (walk_range (lo := 0) (n := ((f.lanes.length : Nat) : Int).toNat)) (fun _ => True) (fun i F' y => ∃ l b ds, f.lanes[i]? = some l ∧ y = .ref b ∧ F' b = some (.lst (ds.map V.int)) ∧ DueTo l.leaves f.wide l.leaves.length ds) sF hD (by simp) (by omega) trivial (fun _ _ _ => trivial) (fun i F F' v s h => by
      obtain ⟨l, b, ds, e1, e2, e3, e4⟩ := h
      exact ⟨l, b, ds, e1, e2, s _ _ e3, e4⟩) (fun _ _ => trivial) ?_ ?_
    · rintro i y F2 H2 _ Q' hi sub fs2 _ ⟨rfl, hy⟩ k
      obtain rfl : y = .int (i : Int) := hy.trans (congrArg V.int (Int.zero_add _))
      have hl := List.getElem?_eq_getElem (show i < f.lanes.length by simpa using hi)
      exact ⟨rfl, _, rfl, _, rfl, F2, _, f, i, _, rfl, sub, hf.up fs2, hl, ok, fun F3 H3 b ds g3 hb hd => k _ F3 H3 g3 trivial ⟨_, b, ds, hl, rfl, hb, hd⟩⟩
    · intro F2 H2 acc g2 fs2 _ hDa hFD hlen hres
      have g3 := ((Gw.refl (M := []) sF).call g2).hold hDa hD hFD
      have s23 : Same F2 (upd F2 D (.lst acc)) := same_new hFD
      refine ⟨by decide, fun fb hfb => ?_⟩
      have g4 := g3.alloc (o := .lst []) hfb
      have hfb0 := g3.dom _ hfb
      refine ⟨_, rfl, pa, rfl, ⟨xs, .inl (.inl (g4.same _ _ hpa))⟩, ?_⟩
      refine for_list (xs := xs) (fun i σ H' => ∃ x4 x5 x6 x7 F' ys, σ = [some (.ref a), some (.ref pa), some (.ref D), some (.ref fb), x4, x5, x6, x7] ∧ Gw [] F H F' H' ∧ Same (upd F2 D (.lst acc)) F' ∧ H' fb = some (.lst ys) ∧ F' fb = none ∧ Al (fun v p => Dp K F' v (frD (due f p))) ys (ps.take i)) ⟨_, _, _, _, _, [], rfl, g4, Same.refl _, upd_same, g3.ffresh hfb, .nil⟩ ?_ ?_ ?_
      · rintro i σ H5 hi ⟨x4, x5, x6, x7, F5, ys, rfl, g5, _⟩
        exact .inl (.inl (g5.same _ _ hpa))
      · rintro i x σ H5 hx ⟨x4, x5, x6, x7, F5, ys, rfl, g5, s5, hfb5, hFf5, hal⟩
        obtain ⟨p, hp, hdp⟩ := hps.at1 hx
        have okp := hok p (List.mem_of_getElem? hp)
        obtain ⟨l, hl, el, eu⟩ := okp.at
        have okl := ok.lane l (List.mem_of_getElem? hl)
        obtain ⟨t, ts, rfl, t1, t2⟩ := (hdp.up (g5.fs.trans g5.sub)).tupE
        obtain ⟨v1, _, rfl, e1, t2⟩ := t2.consE
        obtain ⟨v2, _, rfl, e2, t2⟩ := t2.consE
        obtain ⟨v3, _, rfl, e3, t2⟩ := t2.consE
        obtain ⟨v4, _, rfl, e4, t2⟩ := t2.consE
        cases t2.nilE
        cases e1.intE
        cases e2.intE
        cases e3.intE
        obtain ⟨lb, us, rfl, u1, u2⟩ := e4.lstE
        have hul := u2.len
        rw [List.length_map, okp.len] at hul
        refine ⟨_, _, rfl, t1, rfl, _, _, rfl, _, _, rfl, _, _, rfl, _, _, rfl, rfl, ?_⟩
        have hlt := okp.lane
        have hfl : acc.length = f.lanes.length := by rw [hlen]; simp
        have hacc := List.getElem?_eq_getElem (show p.lane < acc.length by omega)
        obtain ⟨l', b, ds, hl', eb, hb, hdue⟩ := hres _ _ hacc
        rw [hl] at hl'
        cases hl'
        rw [eb] at hacc
        have hb5 := (s23.trans s5) _ _ hb
        have hD5 := s5 _ _ (upd_same (H := F2) (a := D) (o := .lst acc))
        have fit := okp.fit
        rw [el] at fit
        have hdl := hdue.1
        refine ⟨_, rfl, tyL hfb5, _, rfl, _, rfl, D, _, _, _, rfl, rfl, .inl (.inl (g5.sub _ _ hD5)), atI_nat hacc, _, rfl, p.first, rfl, ?_⟩
        refine ⟨_, rfl, _, rfl, _, _, rfl, .inl ⟨_, u1, rfl⟩, _, _, rfl, rfl, (p.first : Int) + (us.length : Int), rfl, b, _, rfl, .inl (.inl (g5.sub _ _ hb5)), fun cb hcb => ?_⟩
        rw [hul, cutV_nat (by rw [List.length_map]; omega), ← List.map_drop, ← List.map_take, hdue.cut fit]
        refine ⟨cb, _, rfl, .inl (.inl upd_same), by rw [List.length_map, List.length_range]; exact okp.c1, fun m hm hmin => ?_⟩
        have g6 := g5.alloc (o := .lst (((List.range p.cnt).map fun k => theDue l.leaves f.wide (p.first + k)).map V.int)) hcb
        have ekey : key f p = m := by
          unfold key
          rw [el]
          exact minL_eq hm hmin
        refine ⟨_, rfl, a, dx, fs, rfl, g6.same _ _ ha, lu, _, rfl, _, f, p.lane, l, rfl, (hf1.up g6.same), hl, _, _, rfl, by have := okl.u0; omega, by have := okl.u1; omega, fun tp htp => ?_⟩
        have edue : low m l.units = due f p := by
          unfold due
          rw [ekey, eu]
        rw [edue]
        have g7 := g6.frz (o := .tup [.int (due f p).1, .int (due f p).2]) htp
        have hfb7 := keep_upd (keep_upd hfb5 hcb (o' := .lst (((List.range p.cnt).map fun k => theDue l.leaves f.wide (p.first + k)).map V.int))) htp (o' := .tup [.int (due f p).1, .int (due f p).2])
        have hFf7 : upd F5 tp (.tup [.int (due f p).1, .int (due f p).2]) fb = none := by
          rw [upd_ne (fun z => by
            subst z
            rw [upd_same] at hfb7
            cases hfb7)]
          exact hFf5
        have hyl := hal.len
        rw [List.length_take] at hyl
        refine ⟨fb, ys, _, rfl, rfl, hfb7, lt_line (by omega), ?_⟩
        have s57 : Same F5 (upd F5 tp (.tup [.int (due f p).1, .int (due f p).2])) := same_new (g6.ffresh htp)
        refine ⟨_, _, _, _, _, ys ++ [.ref tp], rfl, g7.put (.inl hfb0) hFf7 hfb7, s5.trans s57, upd_same, hFf7, ?_⟩
        rw [List.take_add_one, hp]
        exact (hal.mono fun _ _ h => Dp.up h s57).snoc (Dp.fr upd_same)
      · rintro σ H5 ⟨x4, x5, x6, x7, F5, ys, rfl, g5, s5, hfb5, hFf5, hal⟩
        refine ⟨_, rfl, q _ _ fb ys (g5.hold hfb5 hfb0 hFf5) upd_same ?_⟩
        rw [hps.len, List.take_length] at hal
        exact hal.mono fun _ _ h => Dp.up h (same_new hFf5)
end
end Sc

namespace Sc
open PySem PySem.Spec PyProof.Rows L2
/-! the order of fractions, of dues, of pieces -/
def dlt (p q : Int × Int) : Prop := p.1 * q.2 < q.1 * p.2
instance (p q : Int × Int) : Decidable (dlt p q) := inferInstanceAs (Decidable (_ < _))
structure Lowest (p : Int × Int) : Prop where
  pos : 0 < p.2
  g : Int.gcd p.1 p.2 = 1
theorem low_lowest {k u : Int} (h : 0 < u) : Lowest (low k u) := by
  obtain ⟨g0, g1⟩ := low_pos (t := k) h
  have hg : 0 < Int.gcd k u := by omega
  refine ⟨?_, Int.gcd_ediv_gcd_ediv_gcd hg⟩
  show 0 < u / (Int.gcd k u : Int)
  exact Int.ediv_pos_of_pos_of_dvd h (by omega) (Int.gcd_dvd_right k u)
theorem low_mul {k u : Int} : (low k u).1 * (Int.gcd k u : Int) = k ∧ (low k u).2 * (Int.gcd k u : Int) = u :=
  ⟨Int.ediv_mul_cancel (Int.gcd_dvd_left k u), Int.ediv_mul_cancel (Int.gcd_dvd_right k u)⟩
theorem low_le {k u : Int} (h : 0 < u) : (low k u).2 ≤ u := by
  obtain ⟨g0, g1⟩ := low_pos (t := k) h
  have h2 := (low_mul (k := k) (u := u)).2
  have h3 := (low_lowest (k := k) h).pos
  have : (low k u).2 * 1 ≤ (low k u).2 * (Int.gcd k u : Int) := Int.mul_le_mul_of_nonneg_left (by omega) (by omega)
  omega
theorem low_nn {k u : Int} (h : 0 < u) (hk : 0 ≤ k) : 0 ≤ (low k u).1 ∧ (low k u).1 ≤ k := by
  obtain ⟨g0, g1⟩ := low_pos (t := k) h
  have h1 : 0 ≤ k / (Int.gcd k u : Int) := Int.ediv_nonneg hk (by omega)
  refine ⟨h1, ?_⟩
  have h2 := (low_mul (k := k) (u := u)).1
  have : (low k u).1 * 1 ≤ (low k u).1 * (Int.gcd k u : Int) := Int.mul_le_mul_of_nonneg_left (by omega) h1
  omega
theorem lowest_uniq {p q : Int × Int} (hp : Lowest p) (hq : Lowest q) (h : p.1 * q.2 = q.1 * p.2) : p = q := by
  obtain ⟨a, b⟩ := p
  obtain ⟨c, d⟩ := q
  obtain ⟨b0, g1⟩ := hp
  obtain ⟨d0, g2⟩ := hq
  have h : a * d = c * b := h
  have b0 : 0 < b := b0
  have d0 : 0 < d := d0
  have h1 : b.natAbs ∣ d.natAbs := by
    have : b.natAbs ∣ a.natAbs * d.natAbs := by
      rw [← Int.natAbs_mul, h, Int.natAbs_mul]
      exact Nat.dvd_mul_left _ _
    exact (Nat.Coprime.symm (show Nat.Coprime a.natAbs b.natAbs from g1)).dvd_of_dvd_mul_left this
  have h2 : d.natAbs ∣ b.natAbs := by
    have : d.natAbs ∣ c.natAbs * b.natAbs := by
      rw [← Int.natAbs_mul, ← h, Int.natAbs_mul]
      exact Nat.dvd_mul_left _ _
    exact (Nat.Coprime.symm (show Nat.Coprime c.natAbs d.natAbs from g2)).dvd_of_dvd_mul_left this
  have e := Nat.dvd_antisymm h1 h2
  have e2 : b = d := by omega
  subst e2
  have := Int.eq_of_mul_eq_mul_right (show b ≠ 0 by omega) h
  rw [this]
theorem dlt_irrefl (p : Int × Int) : ¬ dlt p p := Int.lt_irrefl _
theorem dlt_trans {p q r : Int × Int} (hp : 0 < p.2) (hq : 0 < q.2) (hr : 0 < r.2) (h1 : dlt p q) (h2 : dlt q r) : dlt p r := by
  have a : p.1 * q.2 * r.2 < q.1 * p.2 * r.2 := Int.mul_lt_mul_of_pos_right h1 hr
  have b : q.1 * r.2 * p.2 < r.1 * q.2 * p.2 := Int.mul_lt_mul_of_pos_right h2 hp
  have e1 : q.1 * p.2 * r.2 = q.1 * r.2 * p.2 := by rw [Int.mul_right_comm]
  have c : p.1 * r.2 * q.2 < r.1 * p.2 * q.2 := by
    rw [Int.mul_right_comm p.1, Int.mul_right_comm r.1]
    omega
  exact Int.lt_of_mul_lt_mul_right c (Int.le_of_lt hq)
theorem dlt_tri {p q : Int × Int} (hp : Lowest p) (hq : Lowest q) : dlt p q ∨ p = q ∨ dlt q p := by
  rcases Int.lt_trichotomy (p.1 * q.2) (q.1 * p.2) with h | h | h
  · exact .inl h
  · exact .inr (.inl (lowest_uniq hp hq h))
  · exact .inr (.inr h)
/-- by numbers: lane, first, how many -/
def nlt (p q : PieceD) : Prop := p.lane < q.lane ∨ (p.lane = q.lane ∧ (p.first < q.first ∨ (p.first = q.first ∧ p.cnt < q.cnt)))
theorem piece_ext {p q : PieceD} (h1 : p.lane = q.lane) (h2 : p.first = q.first) (h3 : p.cnt = q.cnt) : p = q := by
  obtain ⟨a, b, c⟩ := p
  obtain ⟨d, e, f⟩ := q
  cases h1
  cases h2
  cases h3
  rfl
theorem nlt_tri (p q : PieceD) : nlt p q ∨ p = q ∨ nlt q p := by
  by_cases h1 : p.lane = q.lane
  · by_cases h2 : p.first = q.first
    · by_cases h3 : p.cnt = q.cnt
      · exact .inr (.inl (piece_ext h1 h2 h3))
      · rcases Nat.lt_or_ge p.cnt q.cnt with z | z
        · exact .inl (.inr ⟨h1, .inr ⟨h2, z⟩⟩)
        · exact .inr (.inr (.inr ⟨h1.symm, .inr ⟨h2.symm, by omega⟩⟩))
    · rcases Nat.lt_or_ge p.first q.first with z | z
      · exact .inl (.inr ⟨h1, .inl z⟩)
      · exact .inr (.inr (.inr ⟨h1.symm, .inl (by omega)⟩))
  · rcases Nat.lt_or_ge p.lane q.lane with z | z
    · exact .inl (.inl z)
    · exact .inr (.inr (.inl (by omega)))
theorem nlt_irrefl (p : PieceD) : ¬ nlt p p := by
  unfold nlt
  omega
theorem nlt_trans {p q r : PieceD} (h1 : nlt p q) (h2 : nlt q r) : nlt p r := by
  unfold nlt at *
  omega
/-- stands ahead -/
def pal (f : FilmD) (p q : PieceD) : Prop := dlt (due f p) (due f q) ∨ (due f p = due f q ∧ nlt p q)
/-- stands ahead or is the same -/
def ple (f : FilmD) (p q : PieceD) : Prop := pal f p q ∨ p = q
theorem OkP.unit {f : FilmD} {p : PieceD} (ok : OkFilm f) (h : OkP f p) : 1 ≤ f.un p.lane ∧ f.un p.lane ≤ 1000000 := by
  obtain ⟨l, hl, _, e⟩ := h.at
  have := ok.lane l (List.mem_of_getElem? hl)
  rw [e]
  exact ⟨this.u0, this.u1⟩
theorem due_lowest {f : FilmD} {p : PieceD} (ok : OkFilm f) (h : OkP f p) : Lowest (due f p) := low_lowest (by have := h.unit ok; omega)
theorem pal_trans {f : FilmD} {p q r : PieceD} (ok : OkFilm f) (hp : OkP f p) (hq : OkP f q) (hr : OkP f r) (h1 : pal f p q) (h2 : pal f q r) : pal f p r := by
  have a := (due_lowest ok hp).pos
  have b := (due_lowest ok hq).pos
  have c := (due_lowest ok hr).pos
  rcases h1 with h1 | ⟨e1, h1⟩
  · rcases h2 with h2 | ⟨e2, h2⟩
    · exact .inl (dlt_trans a b c h1 h2)
    · rw [e2] at h1
      exact .inl h1
  · rcases h2 with h2 | ⟨e2, h2⟩
    · rw [← e1] at h2
      exact .inl h2
    · exact .inr ⟨e1.trans e2, nlt_trans h1 h2⟩
theorem pal_irrefl {f : FilmD} (p : PieceD) : ¬ pal f p p := by
  rintro (h | ⟨_, h⟩)
  · exact dlt_irrefl _ h
  · exact nlt_irrefl _ h
theorem pal_tri {f : FilmD} {p q : PieceD} (ok : OkFilm f) (hp : OkP f p) (hq : OkP f q) : pal f p q ∨ p = q ∨ pal f q p := by
  rcases dlt_tri (due_lowest ok hp) (due_lowest ok hq) with h | h | h
  · exact .inl (.inl h)
  · rcases nlt_tri p q with z | z | z
    · exact .inl (.inr ⟨h, z⟩)
    · exact .inr (.inl z)
    · exact .inr (.inr (.inr ⟨h.symm, z⟩))
  · exact .inr (.inr (.inl h))
theorem ple_anti {f : FilmD} {p q : PieceD} (ok : OkFilm f) (hp : OkP f p) (hq : OkP f q) (h1 : ple f p q) (h2 : ple f q p) : p = q := by
  rcases h1 with h1 | h1
  · rcases h2 with h2 | h2
    · exact absurd (pal_trans ok hp hq hp h1 h2) (pal_irrefl p)
    · exact h2.symm
  · exact h1
theorem ple_trans {f : FilmD} {p q r : PieceD} (ok : OkFilm f) (hp : OkP f p) (hq : OkP f q) (hr : OkP f r) (h1 : ple f p q) (h2 : ple f q r) : ple f p r := by
  rcases h1 with h1 | rfl
  · rcases h2 with h2 | rfl
    · exact .inl (pal_trans ok hp hq hr h1 h2)
    · exact .inl h1
  · exact h2
/-- one order alone -/
theorem order_uniq {f : FilmD} {ps qs rs : List PieceD} (ok : OkFilm f) (hp : ∀ p, p ∈ ps → OkP f p) (h1 : qs.Perm ps) (h2 : rs.Perm ps) (s1 : qs.Pairwise (ple f)) (s2 : rs.Pairwise (ple f)) : qs = rs :=
  List.Perm.eq_of_pairwise (fun a b ha hb x y => ple_anti ok (hp a (h1.mem_iff.mp ha)) (hp b (h2.mem_iff.mp hb)) x y) s1 s2 (h1.trans h2.symm)
/-! the program's own number of a due -/
noncomputable def rowKey (f : FilmD) (p : PieceD) : Int := (due f p).1 * scale f / (due f p).2
theorem scaleTo_bnd {f : FilmD} (ok : OkFilm f) : ∀ i, i ≤ f.lanes.length → 0 < scaleTo f i ∧ scaleTo f i ≤ 1000000 ^ i
  | 0, _ => ⟨show (0 : Int) < 1 by decide, show (1 : Int) ≤ 1 by decide⟩
  | i + 1, h => by
    obtain ⟨a, b⟩ := scaleTo_bnd ok i (by omega)
    have hl := List.getElem?_eq_getElem (show i < f.lanes.length by omega)
    have okl := ok.lane _ (List.mem_of_getElem? hl)
    have u0 := okl.u0
    have u1 := okl.u1
    rw [scaleTo_succ hl, Int.pow_succ]
    exact ⟨Int.mul_pos a (by omega), Int.mul_le_mul b u1 (by omega) (by omega)⟩
theorem scaleTo_dvd {f : FilmD} : ∀ i j (l : LaneD), j < i → i ≤ f.lanes.length → f.lanes[j]? = some l → l.units ∣ scaleTo f i
  | 0, j, l, h, _, _ => absurd h (Nat.not_lt_zero _)
  | i + 1, j, l, h, hi, hl => by
    have hl2 := List.getElem?_eq_getElem (show i < f.lanes.length by omega)
    rw [scaleTo_succ hl2]
    by_cases e : j = i
    · subst e
      rw [hl] at hl2
      cases hl2
      exact Int.dvd_mul_left _ _
    · exact Int.dvd_trans (scaleTo_dvd i j l (by omega) (by omega) hl) (Int.dvd_mul_right _ _)
theorem scale_bnd {f : FilmD} (ok : OkFilm f) : 0 < scale f ∧ scale f ≤ 1000000000000000000 := by
  obtain ⟨a, b⟩ := scaleTo_bnd ok f.lanes.length (Nat.le_refl _)
  have n1 := ok.n1
  refine ⟨a, Int.le_trans b ?_⟩
  have : f.lanes.length = 0 ∨ f.lanes.length = 1 ∨ f.lanes.length = 2 ∨ f.lanes.length = 3 := by omega
  rcases this with e | e | e | e <;> rw [e] <;> decide
theorem due_dvd {f : FilmD} {p : PieceD} (ok : OkFilm f) (h : OkP f p) : ∃ c, scale f = (due f p).2 * c := by
  obtain ⟨l, hl, _, e⟩ := h.at
  have d1 : l.units ∣ scale f := scaleTo_dvd _ _ l h.lane (Nat.le_refl _) hl
  have d2 : (due f p).2 ∣ l.units := by
    have := (low_mul (k := key f p) (u := f.un p.lane)).2
    rw [e] at this
    exact ⟨_, this.symm.trans (by unfold due; rw [e])⟩
  exact Int.dvd_trans d2 d1
theorem rowKey_of {f : FilmD} {p : PieceD} (ok : OkFilm f) (h : OkP f p) : ∃ c, scale f = (due f p).2 * c ∧ rowKey f p = (due f p).1 * c ∧ 0 < c := by
  obtain ⟨c, hc⟩ := due_dvd ok h
  have b0 := (due_lowest ok h).pos
  have s0 := (scale_bnd ok).1
  refine ⟨c, hc, ?_, ?_⟩
  · unfold rowKey
    rw [hc, show (due f p).1 * ((due f p).2 * c) = ((due f p).1 * c) * (due f p).2 by rw [Int.mul_left_comm, Int.mul_comm]]
    exact Int.mul_ediv_cancel _ (by omega)
  · rw [hc] at s0
    exact Int.pos_of_mul_pos_right s0 b0
theorem rowKey_lt {f : FilmD} {p q : PieceD} (ok : OkFilm f) (hp : OkP f p) (hq : OkP f q) (h : rowKey f p < rowKey f q) : dlt (due f p) (due f q) := by
  obtain ⟨c, a1, a2, a3⟩ := rowKey_of ok hp
  obtain ⟨d, b1, b2, b3⟩ := rowKey_of ok hq
  have p0 := (due_lowest ok hp).pos
  have q0 := (due_lowest ok hq).pos
  have s0 := (scale_bnd ok).1
  rw [a2, b2] at h
  have h2 := Int.mul_lt_mul_of_pos_right (Int.mul_lt_mul_of_pos_right h p0) q0
  have e1 : (due f p).1 * c * (due f p).2 * (due f q).2 = (due f p).1 * (due f q).2 * scale f := by
    rw [a1]
    simp only [Int.mul_assoc, Int.mul_comm, Int.mul_left_comm]
  have e2 : (due f q).1 * d * (due f p).2 * (due f q).2 = (due f q).1 * (due f p).2 * scale f := by
    rw [b1]
    simp only [Int.mul_assoc, Int.mul_comm, Int.mul_left_comm]
  rw [e1, e2] at h2
  exact Int.lt_of_mul_lt_mul_right h2 (by omega)
theorem rowKey_eq {f : FilmD} {p q : PieceD} (ok : OkFilm f) (hp : OkP f p) (hq : OkP f q) (h : rowKey f p = rowKey f q) : due f p = due f q := by
  obtain ⟨c, a1, a2, a3⟩ := rowKey_of ok hp
  obtain ⟨d, b1, b2, b3⟩ := rowKey_of ok hq
  have s0 := (scale_bnd ok).1
  rw [a2, b2] at h
  have h2 := congrArg (fun z => z * (due f p).2 * (due f q).2) h
  have e1 : (due f p).1 * c * (due f p).2 * (due f q).2 = (due f p).1 * (due f q).2 * scale f := by
    rw [a1]
    simp only [Int.mul_assoc, Int.mul_comm, Int.mul_left_comm]
  have e2 : (due f q).1 * d * (due f p).2 * (due f q).2 = (due f q).1 * (due f p).2 * scale f := by
    rw [b1]
    simp only [Int.mul_assoc, Int.mul_comm, Int.mul_left_comm]
  have h2 : (due f p).1 * c * (due f p).2 * (due f q).2 = (due f q).1 * d * (due f p).2 * (due f q).2 := h2
  rw [e1, e2] at h2
  exact lowest_uniq (due_lowest ok hp) (due_lowest ok hq) (Int.eq_of_mul_eq_mul_right (by omega) h2)
/-! codes of rows -/
theorem code_lex2 {B a b : Int} {r q : List Int} (hl : r.length = q.length) (hr : TS.Bd B r) (hq : TS.Bd B q) (h : TS.code B (a :: r) ≤ TS.code B (b :: q)) : a < b ∨ (a = b ∧ TS.code B r ≤ TS.code B q) := by
  rcases Int.lt_trichotomy a b with z | z | z
  · exact .inl z
  · subst z
    refine .inr ⟨rfl, Int.not_lt.mp fun y => ?_⟩
    have := (TS.code_same (d := a) hl.symm).mpr y
    omega
  · have := TS.code_lt hl.symm hq hr z
    omega
/-! a due there is -/
theorem due_exists {ls : List LeafD} {wd m : Nat} (h : ∃ n, n < ls.length ∧ HangsL ls wd n m) : ∃ x, IsDue ls wd m x := by
  have key : ∀ k, k ≤ ls.length → (∃ n, n < k ∧ HangsL ls wd n m) → ∃ x, (∃ n l, n < k ∧ ls[n]? = some l ∧ HangsL ls wd n m ∧ x = l.bg) ∧ ∀ n l, n < k → ls[n]? = some l → HangsL ls wd n m → x ≤ l.bg := by
    intro k
    induction k with
    | zero => rintro _ ⟨n, hn, _⟩; omega
    | succ k ih =>
      intro hk hex
      have hl := List.getElem?_eq_getElem (show k < ls.length by omega)
      by_cases hh : ∃ n, n < k ∧ HangsL ls wd n m
      · obtain ⟨x, ⟨n, l, a1, a2, a3, a4⟩, b⟩ := ih (by omega) hh
        by_cases h2 : HangsL ls wd k m ∧ ls[k].bg < x
        · refine ⟨ls[k].bg, ⟨k, _, Nat.lt_succ_self _, hl, h2.1, rfl⟩, fun n' l' c1 c2 c3 => ?_⟩
          rcases Nat.lt_or_ge n' k with z | z
          · have := b n' l' z c2 c3
            have := h2.2
            omega
          · have e : n' = k := by omega
            subst e
            rw [hl] at c2
            cases c2
            exact Int.le_refl _
        · refine ⟨x, ⟨n, l, by omega, a2, a3, a4⟩, fun n' l' c1 c2 c3 => ?_⟩
          rcases Nat.lt_or_ge n' k with z | z
          · exact b n' l' z c2 c3
          · have e : n' = k := by omega
            subst e
            rw [hl] at c2
            cases c2
            exact Int.not_lt.mp fun y => h2 ⟨c3, y⟩
      · obtain ⟨n, hn, hg⟩ := hex
        have e : n = k := by
          rcases Nat.lt_or_ge n k with z | z
          · exact absurd ⟨n, z, hg⟩ hh
          · omega
        subst e
        refine ⟨ls[n].bg, ⟨n, _, Nat.lt_succ_self _, hl, hg, rfl⟩, fun n' l' c1 c2 c3 => ?_⟩
        rcases Nat.lt_or_ge n' n with z | z
        · exact absurd ⟨n', z, c3⟩ hh
        · have e : n' = n := by omega
          subst e
          rw [hl] at c2
          cases c2
          exact Int.le_refl _
  obtain ⟨x, ⟨n, l, a1, a2, a3, a4⟩, b⟩ := key ls.length (Nat.le_refl _) h
  exact ⟨x, ⟨n, l, a2, a3, a4⟩, fun n l c2 c3 => b n l (List.getElem?_eq_some_iff.mp c2).1 c2 c3⟩
theorem theDue_is {ls : List LeafD} {wd m : Nat} (ok : OkLs ls wd) (hm : m < ls.length) : IsDue ls wd m (theDue ls wd m) :=
  Classical.epsilon_spec (p := IsDue ls wd m) (due_exists ⟨m, hm, 0, 0, ok.w0, .refl _⟩)
theorem theDue_bnd {ls : List LeafD} {wd m : Nat} (ok : OkLs ls wd) (hm : m < ls.length) : 0 ≤ theDue ls wd m ∧ theDue ls wd m ≤ 1000000000 := by
  obtain ⟨⟨n, l, a, b, c⟩, _⟩ := theDue_is ok hm
  obtain ⟨okl, _⟩ := ok.leaf n l a
  rw [c]
  exact ⟨okl.b0, okl.b1⟩
theorem OkP.ls {f : FilmD} {p : PieceD} (ok : OkFilm f) (h : OkP f p) : OkLs (f.lvs p.lane) f.wide := by
  obtain ⟨l, hl, e, _⟩ := h.at
  rw [e]
  exact (ok.lane l (List.mem_of_getElem? hl)).ls ok.w0 ok.w1
theorem key_bnd {f : FilmD} {p : PieceD} (ok : OkFilm f) (h : OkP f p) : 0 ≤ key f p ∧ key f p ≤ 1000000000 := by
  have okl := h.ls ok
  have c1 := h.c1
  have fit := h.fit
  have ne : ((List.range p.cnt).map fun k => theDue (f.lvs p.lane) f.wide (p.first + k)) ≠ [] := by
    intro z
    have := congrArg List.length z
    simp at this
    omega
  obtain ⟨m, _⟩ := minL_mem ne
  obtain ⟨k, hk, e⟩ := List.mem_map.mp m
  have hk2 := List.mem_range.mp hk
  unfold key
  rw [← e]
  exact theDue_bnd okl (by omega)
theorem due_bnd {f : FilmD} {p : PieceD} (ok : OkFilm f) (h : OkP f p) : 0 ≤ (due f p).1 ∧ (due f p).1 ≤ 1000000000 ∧ 0 < (due f p).2 ∧ (due f p).2 ≤ 1000000 := by
  obtain ⟨k0, k1⟩ := key_bnd ok h
  obtain ⟨u0, u1⟩ := h.unit ok
  obtain ⟨a, b⟩ := low_nn (k := key f p) (u := f.un p.lane) (by omega) k0
  have c := (due_lowest ok h).pos
  have d : (due f p).2 ≤ f.un p.lane := low_le (by omega)
  exact ⟨a, Int.le_trans b k1, c, by omega⟩
theorem rowKey_bnd {f : FilmD} {p : PieceD} (ok : OkFilm f) (h : OkP f p) : 0 ≤ rowKey f p ∧ rowKey f p < 10 ^ 40 := by
  obtain ⟨a, b, c, d⟩ := due_bnd ok h
  obtain ⟨e, he, e2, e3⟩ := rowKey_of ok h
  obtain ⟨s0, s1⟩ := scale_bnd ok
  rw [e2]
  have hle : e ≤ scale f := by
    rw [he]
    have : 1 * e ≤ (due f p).2 * e := Int.mul_le_mul_of_nonneg_right (by omega) (by omega)
    omega
  refine ⟨Int.mul_nonneg a (by omega), ?_⟩
  have : (due f p).1 * e ≤ 1000000000 * 1000000000000000000 := Int.mul_le_mul b (by omega) (by omega) (by omega)
  refine Int.lt_of_le_of_lt this (by decide)
theorem due_ok {f : FilmD} {p : PieceD} (ok : OkFilm f) (h : OkP f p) : OkFr (due f p) := by
  obtain ⟨a, b, c, d⟩ := due_bnd ok h
  exact ⟨a, by unfold big; omega, by omega, by unfold big; omega, (due_lowest ok h).g⟩
end Sc

namespace Sc
open PySem PySem.Spec PyProof.Rows L2
def BB : Int := 10 ^ 40
noncomputable def rowD (f : FilmD) (p : PieceD) (j : Nat) : List Int := [rowKey f p, (p.lane : Int), (p.first : Int), (p.cnt : Int), (j : Int)]
/-- a piece told anew, with a list of its own -/
def OutAt (K : PySem.W.Frag) (F H : Hp) (f : FilmD) (t : V) (L : Addr) (p : PieceD) : Prop :=
  ∃ (tp : Addr) (xs : List V), t = .ref tp ∧ F tp = some (.tup [.int f.sg, .int (p.lane : Int), .int (p.first : Int), .ref L]) ∧ H L = some (.lst xs) ∧ DpAll K F xs ((p.ls f).map LeafD.dat)
instance : Inhabited PieceD := ⟨⟨0, 0, 0⟩⟩
theorem row_bd {f : FilmD} {p : PieceD} {j : Nat} (ok : OkFilm f) (h : OkP f p) (hj : j < 64) : TS.Bd BB (rowD f p j) := by
  obtain ⟨a, b⟩ := rowKey_bnd ok h
  have l := h.lane
  have n := ok.n1
  have few := (h.ls ok).few
  have fit := h.fit
  have e : BB = 10000000000000000000000000000000000000000 := by unfold BB; decide
  intro m hm
  simp only [rowD, List.mem_cons, List.not_mem_nil, or_false] at hm
  rcases hm with rfl | rfl | rfl | rfl | rfl
  · exact ⟨a, b⟩
  · rw [e]; omega
  · rw [e]; omega
  · rw [e]; omega
  · rw [e]; omega
theorem bd_tail {B : Int} {a : Int} {r : List Int} (h : TS.Bd B (a :: r)) : TS.Bd B r := fun m hm => h m (List.mem_cons_of_mem _ hm)
theorem row_ple {f : FilmD} {p q : PieceD} {i j : Nat} (ok : OkFilm f) (hp : OkP f p) (hq : OkP f q) (hi : i < 64) (hj : j < 64) (h : TS.code BB (rowD f p i) ≤ TS.code BB (rowD f q j)) : ple f p q := by
  have b1 := row_bd ok hp hi
  have b2 := row_bd ok hq hj
  rcases code_lex2 (by rfl) (bd_tail b1) (bd_tail b2) h with h | ⟨e1, h⟩
  · exact .inl (.inl (rowKey_lt ok hp hq h))
  · have ed := rowKey_eq ok hp hq e1
    rcases code_lex2 (by rfl) (bd_tail (bd_tail b1)) (bd_tail (bd_tail b2)) h with h | ⟨e2, h⟩
    · exact .inl (.inr ⟨ed, .inl (by omega)⟩)
    · rcases code_lex2 (by rfl) (bd_tail (bd_tail (bd_tail b1))) (bd_tail (bd_tail (bd_tail b2))) h with h | ⟨e3, h⟩
      · exact .inl (.inr ⟨ed, .inr ⟨by omega, .inl (by omega)⟩⟩)
      · rcases code_lex2 (by rfl) (bd_tail (bd_tail (bd_tail (bd_tail b1)))) (bd_tail (bd_tail (bd_tail (bd_tail b2)))) h with h | ⟨e4, h⟩
        · exact .inl (.inr ⟨ed, .inr ⟨by omega, .inr ⟨by omega, by omega⟩⟩⟩)
        · exact .inr (piece_ext (by omega) (by omega) (by omega))
section
variable {P : Program} {w : World} {K : PySem.W.Frag} {mg : Str → Option Value} {base : Heap}
def sp_ordered (K : PySem.W.Frag) : Sp := fun vs H Q _ => ∃ (F : Hp) (v : V) (a : Addr) (xs : List V) (f : FilmD) (ps : List PieceD), vs = [v, .ref a] ∧ Same F H ∧ FilmAt K F v f ∧ OkFilm f ∧ H a = some (.lst xs) ∧ Al (fun v p => Dp K F v (p.dat f)) xs ps ∧ (∀ p, p ∈ ps → OkP f p) ∧ ps.length ≤ 60 ∧
  ∀ (F' H' : Hp) (b : Addr) (ts : List V) (Ls : List Addr) (qs : List PieceD), Gw [] F H F' H' → qs.Perm ps → qs.Pairwise (ple f) → H' b = some (.lst ts) → F' b = none → H b = none → b ∉ Ls → (∀ L, L ∈ Ls → F' L = none ∧ H L = none ∧ ∃ zs, H' L = some (.lst zs)) → Al (fun t p => ∃ L, L ∈ Ls ∧ OutAt K F' H' f t L p) ts qs → Q (.ref b) H'
/-- the rows, by their places -/
def RowAt (K : PySem.W.Frag) (F : Hp) (f : FilmD) (ps : List PieceD) (rs : List V) : Prop := ∀ (j : Nat) (v : V) (p : PieceD), rs[j]? = some v → ps[j]? = some p → ∃ t, v = .ref t ∧ F t = some (.tup ((rowD f p j).map V.int))
theorem dp_piece {H : Hp} {v : V} {f : FilmD} {p : PieceD} (h : Dp K H v (p.dat f)) : ∃ t lb us, v = .ref t ∧ SqT K H t [.int f.sg, .int (p.lane : Int), .int (p.first : Int), .ref lb] ∧ SqL K H lb us ∧ DpAll K H us ((p.ls f).map LeafD.dat) := by
  obtain ⟨t, ts, rfl, t1, t2⟩ := h.tupE
  obtain ⟨v1, _, rfl, e1, t2⟩ := t2.consE
  obtain ⟨v2, _, rfl, e2, t2⟩ := t2.consE
  obtain ⟨v3, _, rfl, e3, t2⟩ := t2.consE
  obtain ⟨v4, _, rfl, e4, t2⟩ := t2.consE
  cases t2.nilE
  cases e1.intE
  cases e2.intE
  cases e3.intE
  obtain ⟨lb, us, rfl, u1, u2⟩ := e4.lstE
  exact ⟨t, lb, us, rfl, t1, u1, u2⟩
noncomputable def gOf (rs : List V) (ps : List PieceD) (y : V) : PieceD := Classical.epsilon fun p => ∃ j : Nat, rs[j]? = some y ∧ ps[j]? = some p
theorem gOf_at {F : Hp} {f : FilmD} {ps : List PieceD} {rs : List V} (hl : rs.length = ps.length) (h : RowAt K F f ps rs) {j : Nat} {y : V} {p : PieceD} (e1 : rs[j]? = some y) (e2 : ps[j]? = some p) : gOf rs ps y = p := by
  obtain ⟨j', a, b⟩ := Classical.epsilon_spec (p := fun p => ∃ j : Nat, rs[j]? = some y ∧ ps[j]? = some p) ⟨p, j, e1, e2⟩
  have b : ps[j']? = some (gOf rs ps y) := b
  obtain ⟨t, ht, c1⟩ := h j y p e1 e2
  obtain ⟨t', ht', c2⟩ := h j' y _ a b
  rw [ht] at ht'
  cases ht'
  rw [c1] at c2
  have e := HO.tup.inj (Option.some.inj c2)
  have e5 : (j : Int) = (j' : Int) := by
    have := congrArg (fun l => l[4]?) e
    simpa [rowD] using this
  have : j = j' := by omega
  subst this
  rw [e2] at b
  exact (Option.some.inj b).symm
end
end Sc

namespace Sc
open PySem PySem.Spec PyProof.Rows L2
section
variable {P : Program} {w : World} {K : PySem.W.Frag} {mg : Str → Option Value} {base : Heap}
theorem OutAt.up {F H F' H' : Hp} {f : FilmD} {t : V} {L : Addr} {p : PieceD} (h : OutAt K F H f t L p) (s : Same F F') (k : ∀ o, H L = some o → H' L = some o) : OutAt K F' H' f t L p := by
  obtain ⟨tp, xs, e, a, b, c⟩ := h
  exact ⟨tp, xs, e, s _ _ a, k _ b, c.up s⟩
abbrev N_ordered : List Str := ["film", "pieces", "scale", "rows", "at", "top", "bottom", "seal", "lane", "first", "leaves", "found", "moment", "many"]
theorem sc_ordered : FnScope N_ordered ["film", "pieces"] (defScope s_ordered) := ⟨rfl, rfl, rfl, by decide +kernel, rfl, by decide +kernel, by decide +kernel⟩
theorem ok_ordered (T : Ts K mg) (c_scale_of : C8.Cal P w K mg base 4 "scale_of" (sp_scale_of K) []) (c_dues_of : C8.Cal P w K mg base 9 "dues_of" (sp_dues_of K) []) : C8.Cal P w K mg base 10 "ordered" (sp_ordered K) [] := by
  refine cal_of T.f_ordered T.g_ordered sc_ordered (fun vs H Q E h => ?_) (fun _ _ _ _ _ _ us hl => match us, hl with | [_, _], _ => rfl) (fun cdv A outer s H vs Q E hr h => ⟨_, (pss_cons (ps_set (i := 2) sc_ordered.nd rfl (Or.inl rfl) (C8.pe_c c_scale_of hr (by decide) (by rfl) (pa_cons (pv 0) pa_nil)))
      (pss_cons (ps_set (i := 3) sc_ordered.nd rfl (Or.inl rfl) (pe_lst pa_nil))
      (pss_cons (ps_for PassesOwn.never rfl (pi_enum (by rfl) T.m_enumerate (pa_cons (C8.pe_c c_dues_of hr (by decide) (by rfl) (pa_cons (pv 0) (pa_cons (pv 1) pa_nil))) pa_nil)) (pg_tup rfl (pgs_cons (pg_name (i := 4) sc_ordered.nd rfl (Or.inl rfl)) (pgs_cons (pg_tup rfl (pgs_cons (pg_name (i := 5) sc_ordered.nd rfl (Or.inl rfl)) (pgs_cons (pg_name (i := 6) sc_ordered.nd rfl (Or.inl rfl)) pgs_nil))) pgs_nil))) (pss_cons (ps_asg (pe_ix ix_list (pv 1) (pv 4) (fun _ _ => rfl)) (pg_tup rfl (pgs_cons (pg_name (i := 7) sc_ordered.nd rfl (Or.inl rfl)) (pgs_cons (pg_name (i := 8) sc_ordered.nd rfl (Or.inl rfl)) (pgs_cons (pg_name (i := 9) sc_ordered.nd rfl (Or.inl rfl)) (pgs_cons (pg_name (i := 10) sc_ordered.nd rfl (Or.inl rfl)) pgs_nil))))))
      (pss_one (ps_expr (pe_bm PySem.F.plainAttrs_list PySem.F.slot_list_append PySem.F.type_list_append mt_append (pv 3) (pa_cons (pe_tup (pa_cons (pe_op op_fdiv (pe_op op_mul (pv 5) (pv 2)) (pv 6)) (pa_cons (pv 8) (pa_cons (pv 9) (pa_cons (pe_callB call_len (by rfl) T.m_len PySem.boot_len (pa_cons (pv 10) pa_nil)) (pa_cons (pv 4) pa_nil)))))) pa_nil))))))
      (pss_cons (ps_set (i := 11) sc_ordered.nd rfl (Or.inl rfl) (pe_lst pa_nil))
      (pss_cons (ps_for PassesOwn.never rfl (pi_list (pe_callB (cr_sortT (d := 5) (B := BB) (by decide)) (by rfl) T.m_sorted (by decide +kernel) (pa_cons (pv 3) pa_nil))) (pg_tup rfl (pgs_cons (pg_name (i := 12) sc_ordered.nd rfl (Or.inl rfl)) (pgs_cons (pg_name (i := 8) sc_ordered.nd rfl (Or.inl rfl)) (pgs_cons (pg_name (i := 9) sc_ordered.nd rfl (Or.inl rfl)) (pgs_cons (pg_name (i := 13) sc_ordered.nd rfl (Or.inl rfl)) (pgs_cons (pg_name (i := 4) sc_ordered.nd rfl (Or.inl rfl)) pgs_nil)))))) (pss_one (ps_expr (pe_bm PySem.F.plainAttrs_list PySem.F.slot_list_append PySem.F.type_list_append mt_append (pv 11) (pa_cons (pe_op op_catT (pe_slice sl_tup (pe_ix ix_list (pv 1) (pv 4) (fun _ _ => rfl)) po_none (po_some pe_int)) (pe_tup (pa_cons (pe_callTy call_list_of (by rfl) T.m_list (by decide +kernel) (pa_cons (pe_ix ix_tup (pe_ix ix_list (pv 1) (pv 4) (fun _ _ => rfl)) pe_int (fun _ _ => rfl)) pa_nil)) pa_nil))) pa_nil)))))
      (pss_one (ps_ret (pv 11)))))))), ?_⟩)
  · obtain ⟨F, v, a, xs, f, ps, rfl, _⟩ := h
    rfl
  · obtain ⟨F, v, pa, xs, f, ps, rfl, sF, hf, ok, hpa, hps, hok, hn, q⟩ := h
    have hf1 := hf.up sF
    have sc1 := (scale_bnd ok).1
    have sc2 := (scale_bnd ok).2
    refine ⟨_, rfl, _, f, rfl, hf1, ok, ?_⟩
    refine ⟨by decide, fun rb hrb => ?_⟩
    have g0 := (Gw.refl (M := []) sF).alloc (o := .lst []) hrb
    refine ⟨_, rfl, _, rfl, F, v, pa, xs, f, ps, rfl, g0.sub, hf, ok, g0.same _ _ hpa, hps, hok, hn, fun F1 H1 db ds g1 hdb hds => ?_⟩
    have g01 := g0.call g1
    have hrb1 := g1.same _ _ (upd_same (H := H) (a := rb) (o := .lst []))
    have hFrb1 := g1.out (upd_same (H := H) (a := rb) (o := .lst [])) (sF.free hrb)
    refine ⟨db, ds, rfl, .inl (.inl (g01.sub _ _ hdb)), ?_⟩
    refine for_it (walk_enum (xs := ds)) (fun i σ H' => ∃ x4 x5 x6 x7 x8 x9 x10 F' rs, σ = [some v, some (.ref pa), some (.int (scale f)), some (.ref rb), x4, x5, x6, x7, x8, x9, x10, none, none, none] ∧ Gw [] F H F' H' ∧ Same F1 F' ∧ H' rb = some (.lst rs) ∧ F' rb = none ∧ rs.length = i ∧ RowAt K F' f ps rs) ⟨_, _, _, _, _, _, _, F1, [], rfl, g01, Same.refl _, hrb1, hFrb1, rfl, fun j v p e => by simp at e⟩ ?_ ?_ ?_
    · rintro i σ H2 hi ⟨x4, x5, x6, x7, x8, x9, x10, F2, rs, rfl, g2, s2, _⟩
      exact .inl (.inl (g2.sub _ _ (s2 _ _ hdb)))
    · rintro i x σ H2 H3 hi ⟨x4, x5, x6, x7, x8, x9, x10, F2, rs, rfl, g2, s2, hr2, hFr2, hrl, hrow⟩ ⟨tp, x', y', rfl, htp, rfl, e5, hy⟩
      cases e5
      have hdl := hds.len
      have hp := List.getElem?_eq_getElem (show i < ps.length by omega)
      have hfr := (hds.rel i _ _ hy hp).up (s2.trans g2.sub)
      have okp := hok _ (List.mem_of_getElem? hp)
      obtain ⟨fa2, rfl, hfa2⟩ := hfr.frE
      have g3 := g2.alloc (o := .tup [.int ((i : Nat) : Int), .ref fa2]) htp
      have hr3 := keep_upd hr2 htp (o' := .tup [.int ((i : Nat) : Int), .ref fa2])
      obtain ⟨v0, hv0, hdp⟩ := hps.at2 hp
      obtain ⟨t, lb, us, rfl, t1, u1, u2⟩ := dp_piece (hdp.up (g3.fs.trans g3.sub))
      have hul := u2.len
      rw [List.length_map, okp.len] at hul
      have hpa3 := g3.same _ _ hpa
      obtain ⟨b1, b2, b3, b4⟩ := due_bnd ok okp
      refine ⟨_, _, rfl, SqT.of upd_same, rfl, _, _, rfl, _, _, rfl, ⟨_, _, rfl, Same.tup (same_new htp) hfa2, rfl, _, _, rfl, _, _, rfl, rfl, rfl, ?_⟩⟩
      refine ⟨_, rfl, _, rfl, pa, xs, _, _, rfl, rfl, .inl (.inl hpa3), atI_nat hv0, ?_⟩
      refine ⟨_, _, rfl, t1, rfl, _, _, rfl, _, _, rfl, _, _, rfl, _, _, rfl, rfl, ?_⟩
      refine ⟨_, rfl, tyL hr3, _, rfl, _, rfl, _, _, rfl, rfl, .inr ⟨by omega, by omega⟩, _, rfl, _, _, rfl, rfl, ⟨b3, by omega⟩, _, rfl, _, rfl, _, rfl, _, _, rfl, .inl ⟨_, u1, rfl⟩, _, rfl, by show 5 ≤ sizeLine; decide, fun rp hrp => ?_⟩
      rw [hul]
      have g4 := g3.frz (o := .tup [.int (rowKey f ps[i]), .int ((ps[i].lane : Nat) : Int), .int ((ps[i].first : Nat) : Int), .int ((ps[i].cnt : Nat) : Int), .int ((i : Nat) : Int)]) hrp
      have hr4 := keep_upd hr3 hrp (o' := .tup [.int (rowKey f ps[i]), .int ((ps[i].lane : Nat) : Int), .int ((ps[i].first : Nat) : Int), .int ((ps[i].cnt : Nat) : Int), .int ((i : Nat) : Int)])
      have hFr4 : upd F2 rp (.tup [.int (rowKey f ps[i]), .int ((ps[i].lane : Nat) : Int), .int ((ps[i].first : Nat) : Int), .int ((ps[i].cnt : Nat) : Int), .int ((i : Nat) : Int)]) rb = none := by
        rw [upd_ne (ne_of_some hr3 hrp)]
        exact hFr2
      refine ⟨rb, rs, _, rfl, rfl, hr4, lt_line (by omega), ?_⟩
      have s4 : Same F2 (upd F2 rp (.tup [.int (rowKey f ps[i]), .int ((ps[i].lane : Nat) : Int), .int ((ps[i].first : Nat) : Int), .int ((ps[i].cnt : Nat) : Int), .int ((i : Nat) : Int)])) := same_new (g3.ffresh hrp)
      refine ⟨_, _, _, _, _, _, _, _, rs ++ [.ref rp], rfl, g4.put (.inl hrb) hFr4 hr4, s2.trans s4, upd_same, hFr4, by rw [List.length_append, hrl]; rfl, fun j u p e1 e2 => ?_⟩
      rcases Nat.lt_or_ge j rs.length with z | z
      · rw [List.getElem?_append_left z] at e1
        obtain ⟨t', a1, a2⟩ := hrow j u p e1 e2
        exact ⟨t', a1, s4 _ _ a2⟩
      · rw [List.getElem?_append_right z] at e1
        have ej : j = i := by
          rcases Nat.eq_zero_or_pos (j - rs.length) with y | y
          · omega
          · rw [List.getElem?_eq_none (by simp; omega)] at e1
            cases e1
        subst ej
        rw [hrl, Nat.sub_self] at e1
        rw [hp] at e2
        cases e1
        cases e2
        exact ⟨rp, rfl, upd_same⟩
    · rintro σ H2 ⟨x4, x5, x6, x7, x8, x9, x10, F2, rs, rfl, g2, s2, hr2, hFr2, hrl, hrow⟩
      have hrl2 : rs.length = ps.length := by rw [hrl, hds.len]
      refine ⟨by decide, fun fl hfl => ?_⟩
      have g3 := g2.alloc (o := .lst []) hfl
      have hfl0 := g2.dom _ hfl
      have hr3 := keep_upd hr2 hfl (o' := .lst [])
      refine ⟨_, rfl, rb, rs, rfl, .inl (.inl hr3), by omega, fun y hy => ?_, fun ys sb hperm hpair hsb => ?_⟩
      · obtain ⟨j, hj⟩ := List.getElem?_of_mem hy
        have hjl := (List.getElem?_eq_some_iff.mp hj).1
        have hp := List.getElem?_eq_getElem (show j < ps.length by omega)
        obtain ⟨t, rfl, ht⟩ := hrow j y _ hj hp
        exact ⟨_, ⟨t, rfl, SqT.of (g3.sub _ _ ht)⟩, rfl, row_bd ok (hok _ (List.mem_of_getElem? hp)) (by omega)⟩
      · have g4 := g3.alloc (o := .lst ys) hsb
        have hfl4 := keep_upd (upd_same (H := H2) (a := fl) (o := .lst [])) hsb (o' := .lst ys)
        have hFfl : F2 fl = none := g2.ffresh hfl
        have hyl := hperm.length_eq
        -- each sorted row, its place and its piece
        have place : ∀ y, y ∈ ys → ∃ (j : Nat) (p : PieceD) (t : Addr), rs[j]? = some y ∧ ps[j]? = some p ∧ gOf rs ps y = p ∧ j < 64 ∧ y = .ref t ∧ F2 t = some (.tup ((rowD f p j).map V.int)) := fun y hy => by
          obtain ⟨j, hj⟩ := List.getElem?_of_mem (hperm.mem_iff.mp hy)
          have hjl := (List.getElem?_eq_some_iff.mp hj).1
          have hp := List.getElem?_eq_getElem (show j < ps.length by omega)
          obtain ⟨t, e, ht⟩ := hrow j y _ hj hp
          exact ⟨j, _, t, hj, hp, gOf_at hrl2 hrow hj hp, by omega, e, ht⟩
        have epm : rs.map (gOf rs ps) = ps := by
          apply List.ext_getElem?
          intro j
          rcases Nat.lt_or_ge j rs.length with z | z
          · have e1 := List.getElem?_eq_getElem z
            have e2 := List.getElem?_eq_getElem (show j < ps.length by omega)
            rw [List.getElem?_map, e1, e2]
            exact congrArg some (gOf_at hrl2 hrow e1 e2)
          · rw [List.getElem?_eq_none (by simpa using z), List.getElem?_eq_none (by omega)]
        have hqp : (ys.map (gOf rs ps)).Perm ps := by
          have := hperm.map (gOf rs ps)
          rw [epm] at this
          exact this
        have hqs : (ys.map (gOf rs ps)).Pairwise (ple f) := by
          rw [List.pairwise_map]
          refine List.Pairwise.imp_of_mem (fun {a b} ha hb h => ?_) hpair
          obtain ⟨i, p, t, a1, a2, a3, a4, rfl, a5⟩ := place a ha
          obtain ⟨j, p', t', b1, b2, b3, b4, rfl, b5⟩ := place b hb
          rw [a3, b3]
          exact row_ple ok (hok _ (List.mem_of_getElem? a2)) (hok _ (List.mem_of_getElem? b2)) a4 b4 (h _ _ ⟨t, rfl, SqT.of (g3.sub _ _ a5)⟩ ⟨t', rfl, SqT.of (g3.sub _ _ b5)⟩)
        refine ⟨sb, rfl, ⟨ys, .inl (.inl upd_same)⟩, ?_⟩
        have hpa4 := g4.same _ _ hpa
        refine for_list (xs := ys) (fun i σ H' => ∃ x4 x5 x6 x7 x8 x9 x10 x12 x13 F' ts Ls, σ = [some v, some (.ref pa), some (.int (scale f)), some (.ref rb), x4, x5, x6, x7, x8, x9, x10, some (.ref fl), x12, x13] ∧ Gw [] F H F' H' ∧ Same F2 F' ∧ H' sb = some (.lst ys) ∧ H' fl = some (.lst ts) ∧ F' fl = none ∧ fl ∉ Ls ∧ (∀ L, L ∈ Ls → F' L = none ∧ H L = none ∧ ∃ zs, H' L = some (.lst zs)) ∧ Al (fun t p => ∃ L, L ∈ Ls ∧ OutAt K F' H' f t L p) ts ((ys.take i).map (gOf rs ps))) ⟨_, _, _, _, _, _, _, _, _, F2, [], [], rfl, g4, Same.refl _, upd_same, hfl4, hFfl, by simp, fun L h => by simp at h, .nil⟩ ?_ ?_ ?_
        · rintro i σ H5 hi ⟨x4, x5, x6, x7, x8, x9, x10, x12, x13, F5, ts, Ls, rfl, g5, s5, hsb5, _⟩
          exact .inl (.inl hsb5)
        · rintro i y σ H5 hy ⟨x4, x5, x6, x7, x8, x9, x10, x12, x13, F5, ts, Ls, rfl, g5, s5, hsb5, hfl5, hFf5, hni, hLs, hal⟩
          obtain ⟨j, p, t, a1, a2, a3, a4, rfl, a5⟩ := place y (List.mem_of_getElem? hy)
          have okp := hok _ (List.mem_of_getElem? a2)
          obtain ⟨v0, hv0, hdp⟩ := hps.at2 a2
          obtain ⟨pt, lb, us, rfl, t1, u1, u2⟩ := dp_piece (hdp.up g5.fs)
          have hpa5 := g5.same _ _ hpa
          have t1' := Same.tup g5.sub t1
          refine ⟨_, _, rfl, SqT.of (g5.sub _ _ (s5 _ _ a5)), rfl, _, _, rfl, _, _, rfl, _, _, rfl, _, _, rfl, _, _, rfl, rfl, ?_⟩
          refine ⟨_, rfl, tyL hfl5, _, rfl, _, rfl, pa, xs, _, _, rfl, rfl, .inl (.inl hpa5), atI_nat hv0, 3, rfl, _, _, rfl, t1', (show ¬ (HT.sIx 4 0 none = 0 ∧ HT.sIx 4 4 (some 3) = 4) by decide), fun q1 hq1 => ?_⟩
          have g6 := g5.alloc (o := .tup [.int f.sg, .int ((p.lane : Nat) : Int), .int ((p.first : Nat) : Int)]) hq1
          have hpa6 := g6.same _ _ hpa
          refine ⟨_, rfl, _, rfl, pa, xs, _, _, rfl, rfl, .inl (.inl hpa6), atI_nat hv0, _, _, _, _, rfl, rfl, Same.tup g6.sub t1, rfl, lb, us, rfl, .inl (g6.sub.seq u1), fun L hL => ?_⟩
          have g7 := g6.alloc (o := .lst us) hL
          have hL0 := g6.dom _ hL
          refine ⟨by show 1 ≤ sizeLine; decide, fun q2 hq2 => ?_⟩
          have g8 := g7.alloc (o := .tup [.ref L]) hq2
          have hq1' := keep_upd (keep_upd (upd_same (H := H5) (a := q1) (o := .tup [.int f.sg, .int ((p.lane : Nat) : Int), .int ((p.first : Nat) : Int)])) hL (o' := .lst us)) hq2 (o' := .tup [.ref L])
          refine ⟨q1, q2, _, _, rfl, rfl, SqT.of hq1', SqT.of upd_same, (by simp), (by show 4 ≤ sizeLine; decide), (fun z => by cases z), fun _ q3 hq3 => ?_⟩
          have g9 := g8.frz (o := .tup [.int f.sg, .int ((p.lane : Nat) : Int), .int ((p.first : Nat) : Int), .ref L]) hq3
          have kp : ∀ a o, H5 a = some o → upd (upd (upd (upd H5 q1 (.tup [.int f.sg, .int ((p.lane : Nat) : Int), .int ((p.first : Nat) : Int)])) L (.lst us)) q2 (.tup [.ref L])) q3 (.tup [.int f.sg, .int ((p.lane : Nat) : Int), .int ((p.first : Nat) : Int), .ref L]) a = some o :=
            fun a o h => keep_upd (keep_upd (keep_upd (keep_upd h hq1) hL) hq2) hq3
          have hfl9 := kp _ _ hfl5
          have hL9 := keep_upd (keep_upd (upd_same (H := upd H5 q1 (.tup [.int f.sg, .int ((p.lane : Nat) : Int), .int ((p.first : Nat) : Int)])) (a := L) (o := .lst us)) hq2 (o' := .tup [.ref L])) hq3 (o' := .tup [.int f.sg, .int ((p.lane : Nat) : Int), .int ((p.first : Nat) : Int), .ref L])
          have s9 : Same F5 (upd F5 q3 (.tup [.int f.sg, .int ((p.lane : Nat) : Int), .int ((p.first : Nat) : Int), .ref L])) := same_new (g8.ffresh hq3)
          have hFfl9 : upd F5 q3 (.tup [.int f.sg, .int ((p.lane : Nat) : Int), .int ((p.first : Nat) : Int), .ref L]) fl = none := by
            rw [upd_ne (fun z => by
              subst z
              rw [upd_same] at hfl9
              cases hfl9)]
            exact hFf5
          have nLf : fl ≠ L := ne_of_some (keep_upd hfl5 hq1 (o' := .tup [.int f.sg, .int ((p.lane : Nat) : Int), .int ((p.first : Nat) : Int)])) hL
          have hFL : F5 L = none := g6.ffresh hL
          have hFL9 : upd F5 q3 (.tup [.int f.sg, .int ((p.lane : Nat) : Int), .int ((p.first : Nat) : Int), .ref L]) L = none := by
            rw [upd_ne (fun z => by
              subst z
              rw [upd_same] at hL9
              cases hL9)]
            exact hFL
          have htl := hal.len
          rw [List.length_map, List.length_take] at htl
          refine ⟨fl, ts, _, rfl, rfl, hfl9, lt_line (by omega), ?_⟩
          have kq : ∀ a o, a ≠ fl → H5 a = some o → upd (upd (upd (upd (upd H5 q1 (.tup [.int f.sg, .int ((p.lane : Nat) : Int), .int ((p.first : Nat) : Int)])) L (.lst us)) q2 (.tup [.ref L])) q3 (.tup [.int f.sg, .int ((p.lane : Nat) : Int), .int ((p.first : Nat) : Int), .ref L])) fl (.lst (ts ++ [.ref q3])) a = some o :=
            fun a o n h => by rw [upd_ne n]; exact kp a o h
          have nsf : sb ≠ fl := (ne_of_some (keep_upd (upd_same (H := H2) (a := fl) (o := .lst [])) hsb (o' := .lst ys) |> fun _ => upd_same (H := H2) (a := fl) (o := .lst [])) hsb).symm
          refine ⟨_, _, _, _, _, _, _, _, _, _, ts ++ [.ref q3], L :: Ls, rfl, g9.put (.inl hfl0) hFfl9 hfl9, s5.trans s9, kq _ _ nsf hsb5, upd_same, hFfl9, ?_, ?_, ?_⟩
          · intro z
            rcases List.mem_cons.mp z with z | z
            · exact nLf z
            · exact hni z
          · intro L' hL'
            rcases List.mem_cons.mp hL' with rfl | hL'
            · exact ⟨hFL9, hL0, us, by rw [upd_ne nLf.symm]; exact hL9⟩
            · obtain ⟨m1, m2, zs, m3⟩ := hLs L' hL'
              refine ⟨?_, m2, zs, kq _ _ (fun z => hni (z ▸ hL')) m3⟩
              rw [upd_ne (fun z => by
                subst z
                have := keep_upd (keep_upd (keep_upd m3 hq1 (o' := .tup [.int f.sg, .int ((p.lane : Nat) : Int), .int ((p.first : Nat) : Int)])) hL (o' := .lst us)) hq2 (o' := .tup [.ref L])
                have h0 := hq3.symm.trans this
                cases h0)]
              exact m1
          · rw [take_succ_map hy, a3]
            refine (hal.mono fun t' p' ⟨L', m1, m2⟩ => ⟨L', List.mem_cons_of_mem _ m1, m2.up s9 fun o ho => kq _ _ (fun z => hni (z ▸ m1)) ho⟩).snoc ?_
            exact ⟨L, List.mem_cons_self, q3, us, rfl, upd_same, by rw [upd_ne nLf.symm]; exact hL9, u2.up s9⟩
        · rintro σ H5 ⟨x4, x5, x6, x7, x8, x9, x10, x12, x13, F5, ts, Ls, rfl, g5, s5, hsb5, hfl5, hFf5, hni, hLs, hal⟩
          rw [List.take_length] at hal
          exact ⟨_, rfl, q F5 H5 fl ts Ls _ g5 hqp hqs hfl5 hFf5 hfl0 hni hLs hal⟩
end
end Sc

namespace Sc
open PySem PySem.Spec PyProof.Rows L2
/-- how many are read till all that are due are; the last ones first -/
def readR (t : Int × Int) : List (Int × Int) → Nat
  | [] => 0
  | d :: r => if dlt t d then readR t r else r.length + 1
def readBy (t : Int × Int) (ds : List (Int × Int)) : Nat := readR t ds.reverse
theorem readBy_snoc (t d : Int × Int) (ds : List (Int × Int)) : readBy t (ds ++ [d]) = if dlt t d then readBy t ds else ds.length + 1 := by
  unfold readBy
  rw [List.reverse_append, List.reverse_singleton, List.singleton_append]
  show (if dlt t d then _ else _) = _
  rw [List.length_reverse]
section
variable {P : Program} {w : World} {K : PySem.W.Frag} {mg : Str → Option Value} {base : Heap}
def sp_read_by (K : PySem.W.Frag) : Sp := fun vs H Q _ => ∃ (F : Hp) (v tv : V) (a : Addr) (xs : List V) (f : FilmD) (ps : List PieceD) (t : Int × Int), vs = [v, .ref a, tv] ∧ Same F H ∧ FilmAt K F v f ∧ OkFilm f ∧ H a = some (.lst xs) ∧ Al (fun v p => Dp K F v (p.dat f)) xs ps ∧ (∀ p, p ∈ ps → OkP f p) ∧ ps.length ≤ 60 ∧ Dp K F tv (frD t) ∧ OkFr t ∧
  ∀ (F' H' : Hp), Gw [] F H F' H' → Q (.int (readBy t (ps.map (due f)) : Nat)) H'
abbrev N_read_by : List Str := ["film", "pieces", "t", "found", "at", "moment"]
theorem sc_read_by : FnScope N_read_by ["film", "pieces", "t"] (defScope s_read_by) := ⟨rfl, rfl, rfl, by decide +kernel, rfl, by decide +kernel, by decide +kernel⟩
theorem ok_read_by (T : Ts K mg) (c_sure_moment : C8.Cal P w K mg base 4 "sure_moment" (sp_sure_moment K) []) (c_less : C8.Cal P w K mg base 1 "less" (sp_less K) []) (c_dues_of : C8.Cal P w K mg base 9 "dues_of" (sp_dues_of K) []) : C8.Cal P w K mg base 10 "read_by" (sp_read_by K) [] := by
  refine cal_of T.f_read_by T.g_read_by sc_read_by (fun vs H Q E h => ?_) (fun _ _ _ _ _ _ us hl => match us, hl with | [_, _, _], _ => rfl) (fun cdv A outer s H vs Q E hr h => ⟨_, (pss_cons (ps_expr (C8.pe_c c_sure_moment hr (by decide) (by rfl) (pa_cons (pv 2) pa_nil)))
      (pss_cons (ps_set (i := 3) sc_read_by.nd rfl (Or.inl rfl) pe_int)
      (pss_cons (ps_for PassesOwn.never rfl (pi_enum (by rfl) T.m_enumerate (pa_cons (C8.pe_c c_dues_of hr (by decide) (by rfl) (pa_cons (pv 0) (pa_cons (pv 1) pa_nil))) pa_nil)) (pg_tup rfl (pgs_cons (pg_name (i := 4) sc_read_by.nd rfl (Or.inl rfl)) (pgs_cons (pg_name (i := 5) sc_read_by.nd rfl (Or.inl rfl)) pgs_nil))) (pss_one (ps_if (pt_not (pt_val (C8.pe_c c_less hr (by decide) (by rfl) (pa_cons (pv 2) (pa_cons (pv 5) pa_nil))))) (pss_one (ps_set (i := 3) sc_read_by.nd rfl (Or.inl rfl) (pe_op op_add (pv 4) pe_int))) pss_nil)))
      (pss_one (ps_ret (pv 3)))))), ?_⟩)
  · obtain ⟨F, v, tv, a, xs, f, ps, t, rfl, _⟩ := h
    rfl
  · obtain ⟨F, v, tv, pa, xs, f, ps, t, rfl, sF, hf, ok, hpa, hps, hok, hn, ht, okt, q⟩ := h
    refine ⟨_, rfl, _, t, rfl, ht.up sF, okt, ?_⟩
    refine ⟨_, rfl, _, rfl, F, v, pa, xs, f, ps, rfl, sF, hf, ok, hpa, hps, hok, hn, fun F1 H1 db ds g1 hdb hds => ?_⟩
    refine ⟨db, ds, rfl, .inl (.inl (g1.sub _ _ hdb)), ?_⟩
    refine for_it (walk_enum (xs := ds)) (fun i σ H' => ∃ x4 x5 F', σ = [some v, some (.ref pa), some tv, some (.int (readBy t ((ps.take i).map (due f)) : Nat)), x4, x5] ∧ Gw [] F H F' H' ∧ Same F1 F') ⟨none, none, F1, rfl, g1, Same.refl _⟩ ?_ ?_ ?_
    · rintro i σ H2 hi ⟨x4, x5, F2, rfl, g2, s2⟩
      exact .inl (.inl (g2.sub _ _ (s2 _ _ hdb)))
    · rintro i x σ H2 H3 hi ⟨x4, x5, F2, rfl, g2, s2⟩ ⟨tp, x', y', rfl, htp, rfl, e5, hy⟩
      cases e5
      have hdl := hds.len
      have hp := List.getElem?_eq_getElem (show i < ps.length by omega)
      have okp := hok _ (List.mem_of_getElem? hp)
      have g3 := g2.alloc (o := .tup [.int ((i : Nat) : Int), y']) htp
      have hfr := (hds.rel i _ _ hy hp).up (s2.trans g3.sub)
      refine ⟨_, _, rfl, SqT.of upd_same, rfl, _, _, rfl, _, _, rfl, rfl, ?_⟩
      refine ⟨_, rfl, _, rfl, _, _, t, _, rfl, ht.up (g3.fs.trans g3.sub), hfr, okt.bnd, (due_ok ok okp).bnd, _, rfl, ?_⟩
      have e : readBy t ((ps.take (i + 1)).map (due f)) = if dlt t (due f ps[i]) then readBy t ((ps.take i).map (due f)) else i + 1 := by
        rw [take_succ_map hp, readBy_snoc, List.length_map, List.length_take, Nat.min_eq_left (by omega)]
      by_cases c : dlt t (due f ps[i])
      · rw [decide_eq_true (show t.1 * (due f ps[i]).2 < (due f ps[i]).1 * t.2 from c)]
        refine iteF ⟨some (.int (i : Int)), some y', F2, ?_, g3, s2⟩
        rw [e, if_pos c]
        rfl
      · rw [decide_eq_false (show ¬ t.1 * (due f ps[i]).2 < (due f ps[i]).1 * t.2 from c)]
        refine iteT ⟨_, rfl, _, _, rfl, rfl, some (.int (i : Int)), some y', F2, ?_, g3, s2⟩
        rw [e, if_neg c]
        rfl
    · rintro σ H2 ⟨x4, x5, F2, rfl, g2, s2⟩
      refine ⟨_, rfl, ?_⟩
      rw [hds.len, List.take_length]
      exact q F2 H2 g2
end
end Sc

namespace Sc
open PySem PySem.Spec PyProof.Rows L2
/-! the law's own functions: draws -/
def StOk (s : Addr) (H : Hp) : Prop := ∃ ns : List Int, H s = some (.lst (ns.map V.int)) ∧ (ns.length = 1 ∨ ns.length = 3)
theorem StOk.upd {s D : Addr} {H : Hp} {o : HO} (h : StOk s H) (hD : H D = none) : StOk s (upd H D o) := by
  obtain ⟨ns, a, b⟩ := h
  exact ⟨ns, keep_upd a hD, b⟩
theorem StOk.some {s : Addr} {H : Hp} (h : StOk s H) : ∃ o, H s = some o := let ⟨_, a, _⟩ := h; ⟨_, a⟩
section
variable {P : Program} {w : World} {K : PySem.W.Frag} {mg : Str → Option Value} {base : Heap}
theorem dp1 : (0 : Int) < 2147483647 := by decide
theorem dp2 : (0 : Int) < 2147483399 := by decide
def mOf (y z : Int) : Int := (y + 7919 * (z + 1) + 1) * 48271 % 2147483647
def kOf (m : Int) : Int := m * (m / 1009 + 69621) % 2147483647
def lOf (k : Int) : Int := k * (k / 2003 + 40692) % 2147483399
theorem mOf_bnd (y z : Int) : -(2 ^ 64) < mOf y z ∧ mOf y z < 2 ^ 64 := by
  have h1 : 0 ≤ mOf y z := Int.emod_nonneg _ (by decide)
  have h2 : mOf y z < 2147483647 := Int.emod_lt_of_pos _ dp1
  omega
theorem kOf_bnd (m : Int) : -(2 ^ 64) < kOf m ∧ kOf m < 2 ^ 64 := by
  have h1 : 0 ≤ kOf m := Int.emod_nonneg _ (by decide)
  have h2 : kOf m < 2147483647 := Int.emod_lt_of_pos _ dp1
  omega
def sp_law_cell_at (K : PySem.W.Frag) : Sp := fun vs H Q _ => ∃ (a : Addr) (ns : List Int) (k : Nat), vs = [.ref a, .int (k : Int)] ∧ SqL K H a (ns.map V.int) ∧ ∀ n : Int, Q (.int n) H
def sp_law_digit : Sp := fun vs H Q _ => ∃ (F : Hp) (s : Addr) (b : Int), vs = [.ref s, .int b] ∧ Same F H ∧ F s = none ∧ StOk s H ∧ 0 < b ∧ b < 1073741824 ∧ ∀ (H' : Hp) (r : Nat), Gw [s] F H F H' → StOk s H' → (r : Int) < b → Q (.int (r : Int)) H'
def sp_law_lowest : Sp := fun vs H Q _ => ∃ t b : Int, vs = [.int t, .int b] ∧ 0 < b ∧ b < 1073741824 ∧ ∀ p, H p = none → Q (.ref p) (upd H p (.tup [.int (low t b).1, .int (low t b).2]))
abbrev N_law_cell_at : List Str := ["_law_script", "_law_k"]
theorem sc_law_cell_at : FnScope N_law_cell_at ["_law_script", "_law_k"] (defScope s_law_cell_at) := ⟨rfl, rfl, rfl, by decide +kernel, rfl, by decide +kernel, by decide +kernel⟩
theorem ok_law_cell_at (T : Ts K mg) : C8.Cal P w K mg base 1 "_law_cell_at" (sp_law_cell_at K) [] := by
  refine cal_of T.f_law_cell_at T.g_law_cell_at sc_law_cell_at (fun vs H Q E h => ?_) (fun _ _ _ _ _ _ us hl => match us, hl with | [_, _], _ => rfl) (fun cdv A outer s H vs Q E hr h => ⟨_, (pss_cons (ps_if (pt_cmpR op_lt (pv 1) (pe_callB call_len (by rfl) T.m_len PySem.boot_len (pa_cons (pv 0) pa_nil)) (nomark _)) (pss_one (ps_ret (pe_ix ix_list (pv 0) (pv 1) (fun _ _ => rfl)))) pss_nil)
      (pss_one (ps_ret pe_int))), ?_⟩)
  · obtain ⟨a, ns, k, rfl, _⟩ := h
    rfl
  · obtain ⟨a, ns, k, rfl, hs, q⟩ := h
    refine ⟨_, rfl, _, rfl, _, _, rfl, .inl ⟨_, hs, rfl⟩, _, _, rfl, rfl, _, rfl, ite2 (fun c => ?_) fun c => q 0⟩
    have c1 := of_decide_eq_true c
    have hk : k < (ns.map V.int).length := by omega
    have e := List.getElem?_eq_getElem hk
    refine ⟨_, rfl, _, rfl, a, _, _, _, rfl, rfl, hs, atI_nat e, ?_⟩
    rw [List.getElem_map]
    exact q _
abbrev N_law_digit : List Str := ["_law_state", "_law_base", "_law_found", "_law_number"]
theorem sc_law_digit : FnScope N_law_digit ["_law_state", "_law_base"] (defScope s_law_digit) := ⟨rfl, rfl, rfl, by decide +kernel, rfl, by decide +kernel, by decide +kernel⟩
theorem ok_law_digit (T : Ts K mg) : C8.Cal P w K mg base 1 "_law_digit" sp_law_digit [] := by
  refine cal_of T.f_law_digit T.g_law_digit sc_law_digit (fun vs H Q E h => ?_) (fun _ _ _ _ _ _ us hl => match us, hl with | [_, _], _ => rfl) (fun cdv A outer s H vs Q E hr h => ⟨_, (C8.pss_cut (ps_if (pt_cmpR op_eq (pe_callB call_len (by rfl) T.m_len PySem.boot_len (pa_cons (pv 0) pa_nil)) pe_int (nomark _)) (pss_one (ps_expr (pe_bm PySem.F.plainAttrs_list PySem.F.slot_list_extend PySem.F.type_list_extend mt_extend (pv 0) (pa_cons (pe_lst (pa_cons (pe_op op_mod (pe_ix ix_list (pv 0) pe_int (fun _ _ => rfl)) pe_int) (pa_cons pe_int pa_nil))) pa_nil)))) pss_nil)
      (pss_cons (ps_if (pt_cmpR op_ge (pe_ix ix_list (pv 0) pe_int (fun _ _ => rfl)) (pv 1) (nomark _)) (pss_cons (ps_set (i := 2) sc_law_digit.nd rfl (Or.inl rfl) (pe_op op_mod (pe_ix ix_list (pv 0) pe_int (fun _ _ => rfl)) (pv 1)))
      (pss_cons (ps_asg (pe_op op_fdiv (pe_ix ix_list (pv 0) pe_int (fun _ _ => rfl)) (pv 1)) (pg_sub (pv 0) pe_int set_list))
      (pss_one (ps_ret (pv 2))))) pss_nil)
      (pss_cons (ps_asg (pe_op op_add (pe_ix ix_list (pv 0) pe_int (fun _ _ => rfl)) pe_int) (pg_sub (pv 0) pe_int set_list))
      (pss_cons (ps_set (i := 3) sc_law_digit.nd rfl (Or.inl rfl) (pe_op op_mod (pe_op op_mul (pe_op op_add (pe_op op_add (pe_ix ix_list (pv 0) pe_int (fun _ _ => rfl)) (pe_op op_mul pe_int (pe_ix ix_list (pv 0) pe_int (fun _ _ => rfl)))) pe_int) pe_int) pe_int))
      (pss_cons (ps_set (i := 3) sc_law_digit.nd rfl (Or.inl rfl) (pe_op op_mod (pe_op op_mul (pv 3) (pe_op op_add (pe_op op_fdiv (pv 3) pe_int) pe_int)) pe_int))
      (pss_one (ps_ret (pe_op op_mod (pe_op op_mod (pe_op op_mul (pv 3) (pe_op op_add (pe_op op_fdiv (pv 3) pe_int) pe_int)) pe_int) (pv 1))))))))), ?_⟩)
  · obtain ⟨F, s, b, rfl, _⟩ := h
    rfl
  · obtain ⟨F, s0, b, rfl, sF, hFs, ⟨ns, hns, hl⟩, b0, b1, q⟩ := h
    refine ⟨fun σ H' => ∃ x y z : Int, σ = start N_law_digit [.ref s0, .int b] ∧ Gw [s0] F H F H' ∧ H' s0 = some (.lst [.int x, .int y, .int z]), ?_, ?_⟩
    · refine ⟨_, rfl, _, _, rfl, .inl ⟨_, .inl (.inl hns), rfl⟩, rfl, _, rfl, ite2 (fun c => ?_) fun c => ?_⟩
      · have c1 : ns.length = 1 := by
          have := V.int.inj (of_decide_eq_true c)
          rw [List.length_map] at this
          omega
        obtain ⟨x, rfl⟩ := List.length_eq_one_iff.mp c1
        refine ⟨_, rfl, tyL hns, _, rfl, s0, _, _, _, rfl, rfl, .inl (.inl hns), rfl, _, _, rfl, rfl, dp1, by show 2 ≤ sizeLine; decide, fun e he => ?_⟩
        have g1 := (Gw.refl (M := [s0]) sF).alloc (o := .lst [.int (x % 2147483647), .int 0]) he
        have h1 := keep_upd hns he (o' := .lst [.int (x % 2147483647), .int 0])
        refine ⟨s0, e, _, _, rfl, rfl, h1, upd_same, by show 3 ≤ sizeLine; decide, ?_⟩
        exact ⟨x, x % 2147483647, 0, rfl, g1.put (.inr (by simp)) hFs h1, upd_same⟩
      · have c1 : ns.length = 3 := by
          rcases hl with z | z
          · exact absurd (decide_eq_true (congrArg V.int (show (((ns.map V.int).length : Nat) : Int) = 1 by rw [List.length_map, z]; rfl))) c
          · exact z
        match ns, c1 with
        | [x, y, z], _ => exact ⟨x, y, z, rfl, Gw.refl sF, hns⟩
    · rintro σ H1 ⟨x, y, z, rfl, g1, h1⟩
      have sq : SqL K H1 s0 [.int x, .int y, .int z] := .inl (.inl h1)
      refine ⟨_, rfl, s0, _, _, _, rfl, rfl, sq, rfl, _, rfl, _, _, rfl, rfl, _, rfl, ite2 (fun c => ?_) fun c => ?_⟩
      · have hr1 := Int.emod_nonneg x (show b ≠ 0 by omega)
        have hr2 := Int.emod_lt_of_pos x b0
        refine ⟨_, rfl, s0, _, _, _, rfl, rfl, sq, rfl, _, rfl, _, _, rfl, rfl, b0, ?_⟩
        refine ⟨_, rfl, s0, _, _, _, rfl, rfl, sq, rfl, _, rfl, _, _, rfl, rfl, ⟨b0, b1⟩, ?_⟩
        refine ⟨_, rfl, s0, _, _, 0, rfl, rfl, h1, rfl, _, rfl, ?_⟩
        have g2 := g1.put (o' := .lst [.int (x / b), .int y, .int z]) (.inr (by simp)) hFs h1
        have e : x % b = (((x % b).toNat : Nat) : Int) := (Int.toNat_of_nonneg hr1).symm
        show Q (.int (x % b)) _
        rw [e]
        exact q _ _ g2 ⟨[x / b, y, z], upd_same, .inr rfl⟩ (by omega)
      · refine ⟨_, rfl, s0, _, _, _, rfl, rfl, sq, rfl, _, _, rfl, rfl, ?_⟩
        refine ⟨_, rfl, s0, _, _, 2, rfl, rfl, h1, rfl, ?_⟩
        have g2 := g1.put (o' := .lst [.int x, .int y, .int (z + 1)]) (.inr (by simp)) hFs h1
        have h2 : upd H1 s0 (.lst [.int x, .int y, .int (z + 1)]) s0 = some (.lst [.int x, .int y, .int (z + 1)]) := upd_same
        have sq2 : SqL K (upd H1 s0 (.lst [.int x, .int y, .int (z + 1)])) s0 [.int x, .int y, .int (z + 1)] := .inl (.inl h2)
        refine ⟨_, rfl, s0, _, _, _, rfl, rfl, sq2, rfl, _, rfl, s0, _, _, _, rfl, rfl, sq2, rfl, _, _, rfl, rfl, .inl ⟨by decide, by decide⟩, _, _, rfl, rfl, _, _, rfl, rfl, _, _, rfl, rfl, .inr ⟨by decide, by decide⟩, _, _, rfl, rfl, dp1, ?_⟩
        refine ⟨_, rfl, _, rfl, _, _, rfl, rfl, ⟨by decide, by decide⟩, _, _, rfl, rfl, _, _, rfl, rfl, .inl (mOf_bnd y z), _, _, rfl, rfl, dp1, ?_⟩
        refine ⟨_, rfl, _, rfl, _, _, rfl, rfl, ⟨by decide, by decide⟩, _, _, rfl, rfl, _, _, rfl, rfl, .inl (kOf_bnd (mOf y z)), _, _, rfl, rfl, dp2, _, rfl, _, _, rfl, rfl, b0, ?_⟩
        have hr1 := Int.emod_nonneg (lOf (kOf (mOf y z))) (show b ≠ 0 by omega)
        have hr2 := Int.emod_lt_of_pos (lOf (kOf (mOf y z))) b0
        have e : lOf (kOf (mOf y z)) % b = (((lOf (kOf (mOf y z)) % b).toNat : Nat) : Int) := (Int.toNat_of_nonneg hr1).symm
        show Q (.int (lOf (kOf (mOf y z)) % b)) _
        rw [e]
        exact q _ _ g2 ⟨[x, y, z + 1], h2, .inr rfl⟩ (by omega)
abbrev N_law_shared : List Str := ["_law_one", "_law_other"]
theorem sc_law_shared : FnScope N_law_shared ["_law_one", "_law_other"] (defScope s_law_shared) := ⟨rfl, rfl, rfl, by decide +kernel, rfl, by decide +kernel, by decide +kernel⟩
theorem ok_law_shared (T : Ts K mg) : C8.Cal P w K mg base 1 "_law_shared" sp_divisor [] := by
  refine cal_of T.f_law_shared T.g_law_shared sc_law_shared (fun vs H Q E h => ?_) (fun _ _ _ _ _ _ us hl => match us, hl with | [_, _], _ => rfl) (fun cdv A outer s H vs Q E hr h => ⟨_, (pss_cons (ps_set (i := 0) sc_law_shared.nd rfl (Or.inl rfl) (pe_callB call_abs (by rfl) T.m_abs (by decide +kernel) (pa_cons (pv 0) pa_nil)))
      (pss_cons (ps_set (i := 1) sc_law_shared.nd rfl (Or.inl rfl) (pe_callB call_abs (by rfl) T.m_abs (by decide +kernel) (pa_cons (pv 1) pa_nil)))
      (pss_cons (ps_while PassesOwn.never (pt_cmpR op_gt (pv 1) pe_int (nomark _)) (pss_one (ps_par (i := 0) (j := 1) rfl sc_law_shared.nd rfl rfl (by decide) rfl rfl (pa_cons (pv 1) (pa_cons (pe_op op_mod (pv 0) (pv 1)) pa_nil)) (by rfl))))
      (pss_one (ps_ret (pv 0)))))), ?_⟩)
  · obtain ⟨a, b, rfl, _⟩ := h
    rfl
  · obtain ⟨a, b, rfl, q⟩ := h
    refine ⟨_, rfl, a, rfl, _, rfl, b, rfl, ?_⟩
    rw [abs_if, abs_if]
    refine while_by (fun σ H' => H' = H ∧ ∃ x y : Nat, σ = [some (.int (x : Int)), some (.int (y : Int))] ∧ Nat.gcd x y = Int.gcd a b)
      (fun σ _ => match σ with | [_, some (.int y)] => y.toNat | _ => 0) ⟨rfl, a.natAbs, b.natAbs, rfl, rfl⟩ ?_ (fun σ H Q Q' k h => ?_)
    · rintro σ H' ⟨rfl, x, y, rfl, e⟩
      refine ⟨_, rfl, _, _, rfl, rfl, _, rfl, ite2 (fun c => ?_) (fun c => ?_)⟩
      · have c0 : (0 : Int) < (y : Int) := of_decide_eq_true c
        refine ⟨_, rfl, _, rfl, _, rfl, _, _, rfl, rfl, c0, _, _, rfl, ?_⟩
        refine ⟨⟨rfl, y, x % y, ?_, ?_⟩, ?_⟩
        · rw [Int.natCast_emod]
          rfl
        · rw [← e, Nat.gcd_comm x y, Nat.gcd_rec y x, Nat.gcd_comm]
        · show ((x : Int) % (y : Int)).toNat < (y : Int).toNat
          have h1 := Int.emod_lt_of_pos (x : Int) c0
          have h2 := Int.emod_nonneg (x : Int) (show (y : Int) ≠ 0 by omega)
          omega
      · have c0 : ¬ (0 : Int) < (y : Int) := fun z => c (decide_eq_true z)
        have y0 : y = 0 := by omega
        subst y0
        refine ⟨_, rfl, ?_⟩
        rw [Nat.gcd_zero_right] at e
        rw [e]
        exact q
    · obtain ⟨v, e1, i, j, e2, e3, k1, e4, h4⟩ := h
      exact ⟨v, e1, i, j, e2, e3, k1, e4, k _ _ h4⟩
abbrev N_law_lowest : List Str := ["_law_top", "_law_bottom", "_law_share"]
theorem sc_law_lowest : FnScope N_law_lowest ["_law_top", "_law_bottom"] (defScope s_law_lowest) := ⟨rfl, rfl, rfl, by decide +kernel, rfl, by decide +kernel, by decide +kernel⟩
theorem ok_law_lowest (T : Ts K mg) (c_law_shared : C8.Cal P w K mg base 1 "_law_shared" sp_divisor []) : C8.Cal P w K mg base 2 "_law_lowest" sp_law_lowest [] := by
  refine cal_of T.f_law_lowest T.g_law_lowest sc_law_lowest (fun vs H Q E h => ?_) (fun _ _ _ _ _ _ us hl => match us, hl with | [_, _], _ => rfl) (fun cdv A outer s H vs Q E hr h => ⟨_, (pss_cons (ps_set (i := 2) sc_law_lowest.nd rfl (Or.inl rfl) (C8.pe_c c_law_shared hr (by decide) (by rfl) (pa_cons (pv 0) (pa_cons (pv 1) pa_nil))))
      (pss_one (ps_ret (pe_tup (pa_cons (pe_op op_fdiv (pv 0) (pv 2)) (pa_cons (pe_op op_fdiv (pv 1) (pv 2)) pa_nil)))))), ?_⟩)
  · obtain ⟨a, b, rfl, _⟩ := h
    rfl
  · obtain ⟨t, b, rfl, h0, h1, q⟩ := h
    obtain ⟨g0, g1⟩ := low_pos (t := t) h0
    refine ⟨_, rfl, _, rfl, _, _, rfl, ?_⟩
    exact ⟨_, rfl, _, rfl, _, _, rfl, rfl, ⟨g0, by omega⟩, _, rfl, _, rfl, _, _, rfl, rfl, ⟨g0, by omega⟩, (by show 2 ≤ sizeLine; decide), q⟩
end
end Sc

namespace Sc
open PySem PySem.Spec PyProof.Rows L2
theorem exists_list {α β : Type} {R : α → β → Prop} : ∀ {acc : List α}, (∀ (j : Nat) (y : α), acc[j]? = some y → ∃ r, R y r) → ∃ rs, Al R acc rs
  | [], _ => ⟨[], .nil⟩
  | a :: acc, h => by
    obtain ⟨r, hr⟩ := h 0 a rfl
    obtain ⟨rs, hrs⟩ := exists_list (acc := acc) fun j y e => h (j + 1) y (by simpa using e)
    refine ⟨r :: rs, by simp [hrs.len], fun i x y e1 e2 => ?_⟩
    cases i with
    | zero =>
      have e1 : a = x := by simpa using e1
      have e2 : r = y := by simpa using e2
      rw [← e1, ← e2]
      exact hr
    | succ i => exact hrs.rel i x y (by simpa using e1) (by simpa using e2)
theorem at3 {a b c : Int} {r : Nat} (h : (r : Int) < 3) : ∃ x : Int, atI [V.int a, V.int b, V.int c] (r : Int) = some (.int x) ∧ (x = a ∨ x = b ∨ x = c) := by
  have : r = 0 ∨ r = 1 ∨ r = 2 := by omega
  rcases this with rfl | rfl | rfl
  · exact ⟨a, rfl, .inl rfl⟩
  · exact ⟨b, rfl, .inr (.inl rfl)⟩
  · exact ⟨c, rfl, .inr (.inr rfl)⟩
section
variable {P : Program} {w : World} {K : PySem.W.Frag} {mg : Str → Option Value} {base : Heap}
theorem Gw.keepS {F H F' H' : Hp} {s a : Addr} {o : HO} (g : Gw [s] F H F' H') (h : H a = some o) (ne : a ≠ s) : H' a = some o := g.keep a o h (by simpa using ne)
theorem st_ne {s e : Addr} {H : Hp} (h : StOk s H) (he : H e = none) : e ≠ s := fun z => by
  obtain ⟨o, ho⟩ := h.some
  rw [← z, he] at ho
  cases ho
def sp_law_rule (K : PySem.W.Frag) : Sp := fun vs H Q _ => ∃ (F : Hp) (s : Addr) (n wd : Nat), vs = [.ref s, .int (n : Int), .int (wd : Int)] ∧ Same F H ∧ F s = none ∧ StOk s H ∧ n ≤ 5 ∧ (1 ≤ wd ∧ wd ≤ 4) ∧
  ∀ (F' H' : Hp) (v : V) (r : RuleD), Gw [s] F H F' H' → StOk s H' → Dp K F' v r.dat → OkR r → (∀ p, p ∈ r.needs → p.1 ≤ n ∧ p.2 < wd) → Q v H'
abbrev N_law_rule : List Str := ["_law_state", "_law_number", "_law_wide", "_law_way", "_law_worth", "_law_back", "_law_other"]
theorem sc_law_rule : FnScope N_law_rule ["_law_state", "_law_number", "_law_wide"] (defScope s_law_rule) := ⟨rfl, rfl, rfl, by decide +kernel, rfl, by decide +kernel, by decide +kernel⟩
theorem ok_law_rule (T : Ts K mg) (c_law_digit : C8.Cal P w K mg base 1 "_law_digit" sp_law_digit []) : C8.Cal P w K mg base 2 "_law_rule" (sp_law_rule K) [] := by
  refine cal_of T.f_law_rule T.g_law_rule sc_law_rule (fun vs H Q E h => ?_) (fun _ _ _ _ _ _ us hl => match us, hl with | [_, _, _], _ => rfl) (fun cdv A outer s H vs Q E hr h => ⟨_, (pss_cons (ps_set (i := 3) sc_law_rule.nd rfl (Or.inl rfl) (pe_op op_mul (C8.pe_c c_law_digit hr (by decide) (by rfl) (pa_cons (pv 0) (pa_cons pe_int pa_nil))) (pe_callTy call_int1 (by rfl) T.m_int (by decide +kernel) (pa_cons (pe_cmpR op_gt (pv 1) pe_int (nomark _)) pa_nil))))
      (pss_cons (ps_set (i := 4) sc_law_rule.nd rfl (Or.inl rfl) (C8.pe_c c_law_digit hr (by decide) (by rfl) (pa_cons (pv 0) (pa_cons pe_int pa_nil))))
      (pss_cons (ps_set (i := 5) sc_law_rule.nd rfl (Or.inl rfl) (pe_op op_add pe_int (C8.pe_c c_law_digit hr (by decide) (by rfl) (pa_cons (pv 0) (pa_cons (pe_callB (call_min2 rfl) (by rfl) T.m_min (by decide +kernel) (pa_cons (pe_callB (call_max2 rfl) (by rfl) T.m_max (by decide +kernel) (pa_cons (pv 1) (pa_cons pe_int pa_nil))) (pa_cons (pe_ix ix_list (pe_lst (pa_cons pe_int (pa_cons pe_int (pa_cons pe_int pa_nil)))) (C8.pe_c c_law_digit hr (by decide) (by rfl) (pa_cons (pv 0) (pa_cons pe_int pa_nil))) (fun _ _ => rfl)) pa_nil))) pa_nil)))))
      (pss_cons (ps_set (i := 6) sc_law_rule.nd rfl (Or.inl rfl) (pe_op op_add pe_int (C8.pe_c c_law_digit hr (by decide) (by rfl) (pa_cons (pv 0) (pa_cons (pe_callB (call_max2 rfl) (by rfl) T.m_max (by decide +kernel) (pa_cons (pv 1) (pa_cons pe_int pa_nil))) pa_nil)))))
      (pss_cons (ps_if (pt_cmpR op_eq (pv 3) pe_int (nomark _)) (pss_one (ps_ret (pe_tup (pa_cons pe_str (pa_cons (pv 4) pa_nil))))) pss_nil)
      (pss_cons (ps_if (pt_cmpR op_lt (pv 3) pe_int (nomark _)) (pss_one (ps_ret (pe_tup (pa_cons pe_str (pa_cons (pv 5) (pa_cons (C8.pe_c c_law_digit hr (by decide) (by rfl) (pa_cons (pv 0) (pa_cons (pv 2) pa_nil))) (pa_cons (pe_op op_mul (pv 4) (C8.pe_c c_law_digit hr (by decide) (by rfl) (pa_cons (pv 0) (pa_cons pe_int pa_nil)))) pa_nil))))))) pss_nil)
      (pss_one (ps_ret (pe_tup (pa_cons pe_str (pa_cons (pv 5) (pa_cons (C8.pe_c c_law_digit hr (by decide) (by rfl) (pa_cons (pv 0) (pa_cons (pv 2) pa_nil))) (pa_cons (pv 6) (pa_cons (C8.pe_c c_law_digit hr (by decide) (by rfl) (pa_cons (pv 0) (pa_cons (pv 2) pa_nil))) pa_nil)))))))))))))), ?_⟩)
  · obtain ⟨F, s, n, wd, rfl, _⟩ := h
    rfl
  · obtain ⟨F, s0, n, wd, rfl, sF, hFs, st, hn, hw, q⟩ := h
    refine ⟨_, rfl, F, s0, 5, rfl, sF, hFs, st, by decide, by decide, fun H1 r1 g1 st1 hr1 => ?_⟩
    refine ⟨_, rfl, _, _, rfl, rfl, .inr ⟨_, rfl, ?_⟩⟩
    refine ⟨_, _, rfl, rfl, .inl ⟨by omega, by omega⟩, ?_⟩
    refine ⟨_, rfl, F, s0, 256, rfl, g1.sub, hFs, st1, by decide, by decide, fun H2 r2 g2 st2 hr2 => ?_⟩
    have g12 := g1.callM g2
    refine ⟨_, rfl, _, rfl, _, _, rfl, by show 3 ≤ sizeLine; decide, fun e he => ?_⟩
    have g3 := g12.alloc (o := .lst [.int 2, .int 4, .int 200]) he
    have nes := st_ne st2 he
    refine ⟨_, rfl, F, s0, 3, rfl, g3.sub, hFs, st2.upd he, by decide, by decide, fun H3 r3 g4 st3 hr3 => ?_⟩
    have g34 := g3.callM g4
    have he3 := g4.keep e _ (upd_same (H := H2) (a := e) (o := .lst [.int 2, .int 4, .int 200])) (by simpa using nes)
    obtain ⟨x, hx, hxx⟩ := at3 (a := 2) (b := 4) (c := 200) hr3
    refine ⟨e, _, _, _, rfl, rfl, .inl (.inl he3), hx, _, _, rfl, ?_⟩
    generalize hm : (if (1 : Int) > (n : Int) then (1 : Int) else (n : Int)) = mx
    have hmx : (1 ≤ mx ∧ mx ≤ 5) ∧ (1 ≤ n → mx = n) := by
      by_cases c : (1 : Int) > (n : Int)
      · rw [if_pos c] at hm
        omega
      · rw [if_neg c] at hm
        omega
    generalize hb : (if x < mx then x else mx) = bb
    have hbb : 1 ≤ bb ∧ bb ≤ mx := by
      by_cases c : x < mx
      · rw [if_pos c] at hb
        omega
      · rw [if_neg c] at hb
        omega
    refine ⟨F, s0, bb, rfl, g34.sub, hFs, st3, by omega, by omega, fun H5 r5 g5 st5 hr5 => ?_⟩
    have g35 := g34.callM g5
    refine ⟨_, _, rfl, rfl, ?_⟩
    refine ⟨_, rfl, _, rfl, _, _, rfl, ?_⟩
    rw [hm]
    refine ⟨F, s0, mx, rfl, g35.sub, hFs, st5, by omega, by omega, fun H6 r6 g6 st6 hr6 => ?_⟩
    have g36 := g35.callM g6
    refine ⟨_, _, rfl, rfl, ?_⟩
    refine ⟨_, rfl, rfl, _, rfl, ite2 (fun c => ?_) fun c => ?_⟩
    · refine ⟨_, rfl, by show 2 ≤ sizeLine; decide, fun tp htp => ?_⟩
      exact q _ _ _ (.plain (r2 : Int)) (g36.frz htp) (st6.upd htp) (.tup (SqT.of upd_same) (.cons (.str _) (.cons (.int _) .nil))) ⟨by omega, by omega⟩ (fun p hp => by cases hp)
    · have hn0 : 0 < n := by
        rcases Nat.eq_zero_or_pos n with z | z
        · subst z
          exact absurd (decide_eq_true (congrArg V.int (show (r1 : Int) * (if decide ((0 : Int) < ((0 : Nat) : Int)) = true then 1 else 0) = 0 by simp))) c
        · exact z
      have hmn := hmx.2 hn0
      refine ⟨_, rfl, _, _, rfl, rfl, _, rfl, ite2 (fun c2 => ?_) fun c2 => ?_⟩
      · refine ⟨_, rfl, _, rfl, _, rfl, F, s0, wd, rfl, g36.sub, hFs, st6, by omega, by omega, fun H7 r7 g7 st7 hr7 => ?_⟩
        refine ⟨_, rfl, _, rfl, F, s0, 2, rfl, (g36.callM g7).sub, hFs, st7, by decide, by decide, fun H8 r8 g8 st8 hr8 => ?_⟩
        have g38 := (g36.callM g7).callM g8
        refine ⟨_, _, rfl, rfl, .inl ⟨by omega, by omega⟩, by show 4 ≤ sizeLine; decide, fun tp htp => ?_⟩
        have h01 : r8 = 0 ∨ r8 = 1 := by omega
        refine q _ _ _ (.moved (1 + r5) r7 ((r2 : Int) * (r8 : Int))) (g38.frz htp) (st8.upd htp) (.tup (SqT.of upd_same) (.cons (.str _) (.cons (.int _) (.cons (.int _) (.cons (.int _) .nil))))) ⟨⟨by omega, by omega, by omega⟩, ?_⟩ (fun p hp => ?_)
        · rcases h01 with rfl | rfl
          · simp
          · simp
            omega
        · have e : p = (1 + r5, r7) := by simpa [RuleD.needs] using hp
          rw [e]
          exact ⟨by show 1 + r5 ≤ n; omega, by show r7 < wd; omega⟩
      · refine ⟨_, rfl, _, rfl, _, rfl, F, s0, wd, rfl, g36.sub, hFs, st6, by omega, by omega, fun H7 r7 g7 st7 hr7 => ?_⟩
        refine ⟨_, rfl, _, rfl, _, rfl, F, s0, wd, rfl, (g36.callM g7).sub, hFs, st7, by omega, by omega, fun H8 r8 g8 st8 hr8 => ?_⟩
        have g38 := (g36.callM g7).callM g8
        refine ⟨by show 5 ≤ sizeLine; decide, fun tp htp => ?_⟩
        refine q _ _ _ (.mixed (1 + r5) r7 (1 + r6) r8) (g38.frz htp) (st8.upd htp) (.tup (SqT.of upd_same) (.cons (.str _) (.cons (.int _) (.cons (.int _) (.cons (.int _) (.cons (.int _) .nil)))))) ⟨⟨by omega, by omega, by omega⟩, by omega, by omega, by omega⟩ (fun p hp => ?_)
        have e : p = (1 + r5, r7) ∨ p = (1 + r6, r8) := by simpa [RuleD.needs] using hp
        rcases e with e | e <;> rw [e]
        · exact ⟨by show 1 + r5 ≤ n; omega, by show r7 < wd; omega⟩
        · exact ⟨by show 1 + r6 ≤ n; omega, by show r8 < wd; omega⟩
end
end Sc

namespace Sc
open PySem PySem.Spec PyProof.Rows L2
theorem StOk.updNe {s D : Addr} {H : Hp} {o : HO} (h : StOk s H) (ne : s ≠ D) : StOk s (L2.upd H D o) := by
  obtain ⟨ns, a, b⟩ := h
  exact ⟨ns, by rw [upd_ne ne]; exact a, b⟩
theorem StOk.out {s : Addr} {F H F' H' : Hp} {M : List Addr} (g : Gw M F H F' H') (h : StOk s H) (f : F s = none) : F' s = none := let ⟨_, a, _⟩ := h; g.out a f
section
variable {P : Program} {w : World} {K : PySem.W.Frag} {mg : Str → Option Value} {base : Heap}
def sp_law_leaf (K : PySem.W.Frag) : Sp := fun vs H Q _ => ∃ (F : Hp) (s : Addr) (n wd : Nat) (bg sp : Int), vs = [.ref s, .int (n : Int), .int (wd : Int), .int bg, .int sp] ∧ Same F H ∧ F s = none ∧ StOk s H ∧ n ≤ 5 ∧ (1 ≤ wd ∧ wd ≤ 4) ∧ (0 ≤ bg ∧ bg ≤ 1000000000) ∧ (1 ≤ sp ∧ sp ≤ 1000000000) ∧
  ∀ (F' H' : Hp) (v : V) (l : LeafD), Gw [s] F H F' H' → StOk s H' → Dp K F' v l.dat → l.bg = bg → l.sp = sp → OkL l → Fits l n wd → Q v H'
abbrev N_law_leaf : List Str := ["_law_state", "_law_number", "_law_wide", "_law_begin", "_law_span", "_law_way", "_law_rules_here", "_law_cell"]
theorem sc_law_leaf : FnScope N_law_leaf ["_law_state", "_law_number", "_law_wide", "_law_begin", "_law_span"] (defScope s_law_leaf) := ⟨rfl, rfl, rfl, by decide +kernel, rfl, by decide +kernel, by decide +kernel⟩
theorem ok_law_leaf (T : Ts K mg) (c_law_digit : C8.Cal P w K mg base 1 "_law_digit" sp_law_digit []) (c_law_rule : C8.Cal P w K mg base 2 "_law_rule" (sp_law_rule K) []) : C8.Cal P w K mg base 3 "_law_leaf" (sp_law_leaf K) [] := by
  refine cal_of T.f_law_leaf T.g_law_leaf sc_law_leaf (fun vs H Q E h => ?_) (fun _ _ _ _ _ _ us hl => match us, hl with | [_, _, _, _, _], _ => rfl) (fun cdv A outer s H vs Q E hr h => ⟨_, (pss_cons (ps_set (i := 5) sc_law_leaf.nd rfl (Or.inl rfl) (C8.pe_c c_law_digit hr (by decide) (by rfl) (pa_cons (pv 0) (pa_cons pe_int pa_nil))))
      (pss_cons (ps_setLc (i := 6) (own := [("_law_cell", 7)]) rfl sc_law_leaf.nd rfl rfl (sw_true rfl rfl rfl (by decide +kernel)) (pi_range1 (by rfl) T.m_range (pa_cons (pv 2) pa_nil)) (blkOk_by (N := N_law_leaf) (sc := defScope s_law_leaf) (by decide +kernel)) (fun _ _ _ _ _ => (pg_name (i := 7) sc_law_leaf.nd rfl (Or.inl rfl) (Or.inr rfl))) (fun _ _ _ _ _ => pts_nil) (fun _ _ _ _ _ => (C8.pe_c c_law_rule hr (by decide) (by rfl) (pa_cons (pv 0) (pa_cons (pv 1) (pa_cons (pv 2) pa_nil))))))
      (pss_cons (ps_if (pt_cmpR op_eq (pv 5) pe_int (nomark _)) (pss_one (ps_ret (pe_tup (pa_cons pe_str (pa_cons (pv 3) (pa_cons (pv 4) (pa_cons (pe_callTy call_tuple_of (by rfl) T.m_tuple (by decide +kernel) (pa_cons (pe_lc (own := [("_law_cell", 7)]) rfl sc_law_leaf.nd (pi_range1 (by rfl) T.m_range (pa_cons (pv 2) pa_nil)) (blkOk_by (N := N_law_leaf) (sc := defScope s_law_leaf) (by decide +kernel)) (fun _ _ _ _ _ => (pg_name (i := 7) sc_law_leaf.nd rfl (Or.inl rfl) (Or.inr rfl))) (fun _ _ _ _ _ => pts_nil) (fun _ _ _ _ _ => (C8.pe_c c_law_digit hr (by decide) (by rfl) (pa_cons (pv 0) (pa_cons pe_int pa_nil))))) pa_nil)) pa_nil))))))) pss_nil)
      (C8.pss_cut (ps_if (PW.pt (pw_and (pt_cmpR op_eq (pv 5) pe_int (nomark _)) (pw_and1 (pt_cmpR op_gt (pv 1) pe_int (nomark _))))) (pss_one (ps_ret (pe_tup (pa_cons pe_str (pa_cons (pv 3) (pa_cons (pv 4) (pa_cons (pe_op op_add pe_int (C8.pe_c c_law_digit hr (by decide) (by rfl) (pa_cons (pv 0) (pa_cons (pe_callB (call_min2 rfl) (by rfl) T.m_min (by decide +kernel) (pa_cons (pv 1) (pa_cons pe_int pa_nil))) pa_nil)))) pa_nil))))))) pss_nil)
      (pss_one (ps_ret (pe_tup (pa_cons pe_str (pa_cons (pv 3) (pa_cons (pv 4) (pa_cons (pe_callTy call_tuple_of (by rfl) T.m_tuple (by decide +kernel) (pa_cons (pv 6) pa_nil)) pa_nil))))))))))), ?_⟩)
  · obtain ⟨F, s, n, wd, bg, sp, rfl, _⟩ := h
    rfl
  · obtain ⟨F, s0, n, wd, bg, sp, rfl, sF, hFs, st, hn, hw, hbg, hsp, q⟩ := h
    refine ⟨_, rfl, F, s0, 6, rfl, sF, hFs, st, by decide, by decide, fun H1 r1 g1 st1 hr1 => ?_⟩
    refine ⟨_, rfl, (wd : Int), rfl, by omega, by omega, fun D hD => ?_⟩
    have neD := st_ne st1 hD
    refine lc_gwG (M := [s0]) (F1 := F) (walk_range (lo := 0) (n := ((wd : Nat) : Int).toNat)) (StOk s0) (fun i F' y => ∃ r : RuleD, Dp K F' y r.dat ∧ OkR r ∧ ∀ p, p ∈ r.needs → p.1 ≤ n ∧ p.2 < wd) g1.sub hD (by simpa using neD) (by omega) st1 (fun H o h => h.updNe neD.symm) (fun i F F' v s h => by
      obtain ⟨r, a, b⟩ := h
      exact ⟨r, a.up s, b⟩) (fun _ _ _ => trivial) ?_ ?_
    · rintro i y F2 H2 _ Q' hi gw fs2 stI ⟨rfl, hy⟩ k
      have hFs2 := st1.out gw hFs
      exact ⟨rfl, _, rfl, _, rfl, _, rfl, F2, s0, n, wd, rfl, gw.sub, hFs2, stI, hn, hw, fun F3 H3 v r g3 st3 hd ho hnd => k v F3 H3 g3 st3 ⟨r, hd, ho, hnd⟩⟩
    · intro F2 H2 acc g2 fs2 st2 hDa hFD hlen hres
      obtain ⟨rs, hrs⟩ := exists_list (R := fun y (r : RuleD) => Dp K F2 y r.dat ∧ OkR r ∧ ∀ p, p ∈ r.needs → p.1 ≤ n ∧ p.2 < wd) hres
      have hwl : acc.length = wd := by rw [hlen]; simp
      have hrl : rs.length = wd := by rw [← hrs.len, hwl]
      have hrok : ∀ r, r ∈ rs → OkR r ∧ ∀ p, p ∈ r.needs → p.1 ≤ n ∧ p.2 < wd := fun r hr => by
        obtain ⟨j, hj⟩ := List.getElem?_of_mem hr
        obtain ⟨y, hy, a, b⟩ := hrs.at2 hj
        exact b
      have g12 := g1.callM g2
      have g3 := g12.hold hDa (g1.dom _ hD) hFD
      have s23 : Same F2 (upd F2 D (.lst acc)) := same_new hFD
      have hFs2 := st1.out g2 hFs
      have hFs3 := st.out g3 hFs
      have drs : DpAll K F2 acc (rs.map RuleD.dat) := DpAll_of (by rw [List.length_map, hrs.len]) fun j y d e1 e2 => by
        obtain ⟨r, hr, rfl⟩ := map_at e2
        exact (hrs.rel j y r e1 hr).1
      refine ⟨_, rfl, rfl, _, rfl, ite2 (fun c => ?_) fun c => ?_⟩
      · refine ⟨_, rfl, _, rfl, _, rfl, (wd : Int), rfl, by omega, by omega, fun D2 hD2 => ?_⟩
        have neD2 := st_ne st2 hD2
        refine lc_gwG (M := [s0]) (F1 := upd F2 D (.lst acc)) (walk_range (lo := 0) (n := ((wd : Nat) : Int).toNat)) (StOk s0) (fun i F' y => ∃ r : Int, y = .int r ∧ 0 ≤ r ∧ r ≤ 255) g3.sub hD2 (by simpa using neD2) (by omega) st2 (fun H o h => h.updNe neD2.symm) (fun i F F' v s h => h) (fun _ _ _ => trivial) ?_ ?_
        · rintro i y F4 H4 _ Q' hi gw fs4 stI ⟨rfl, hy⟩ k
          exact ⟨rfl, _, rfl, F4, s0, 256, rfl, gw.sub, st2.out gw hFs3, stI, by decide, by decide, fun H5 r g5 st5 hr => k _ F4 H5 g5 st5 ⟨_, rfl, by omega, by omega⟩⟩
        · intro F4 H4 acc2 g4 fs4 st4 hDa4 hFD4 hlen4 hres4
          obtain ⟨ns, hns⟩ := exists_list (R := fun y (r : Int) => y = V.int r ∧ 0 ≤ r ∧ r ≤ 255) hres4
          have e : acc2 = ns.map V.int := by
            apply List.ext_getElem?
            intro j
            rcases Nat.lt_or_ge j acc2.length with z | z
            · have e1 := List.getElem?_eq_getElem z
              obtain ⟨r, hr, e2, _⟩ := hns.at1 e1
              rw [e1, List.getElem?_map, hr, e2]
              rfl
            · rw [List.getElem?_eq_none z, List.getElem?_eq_none (by rw [List.length_map, ← hns.len]; exact z)]
          have hnl : ns.length = wd := by rw [← hns.len, hlen4]; simp
          refine ⟨D2, _, rfl, .inl ⟨.inl (.inl hDa4), fun t1 ht1 => ⟨by show 4 ≤ sizeLine; decide, fun tp htp => ?_⟩⟩⟩
          have g5 := (g3.callM g4).frz (o := .tup acc2) ht1
          have g6 := g5.frz (o := .tup [.str "full", .int bg, .int sp, .ref t1]) htp
          refine q _ _ _ ⟨bg, sp, .full ns⟩ g6 ((st4.upd ht1).upd htp) ?_ rfl rfl ⟨hbg.1, hbg.2, hsp.1, hsp.2, ⟨by omega, by omega⟩, fun x hx => ?_⟩ hnl
          · refine .tup (SqT.of upd_same) (.cons (.str _) (.cons (.int _) (.cons (.int _) (.cons (.tup (SqT.of (same_new (g5.ffresh htp) _ _ upd_same)) ?_) .nil))))
            rw [e]
            exact DpAll.ints
          · obtain ⟨j, hj⟩ := List.getElem?_of_mem hx
            obtain ⟨y, hy, _, b⟩ := hns.at2 hj
            exact b
      · refine ⟨fun σ H' => H' = H2 ∧ σ = (((start N_law_leaf [V.ref s0, .int (n : Int), .int (wd : Int), .int bg, .int sp]).set 5 (some (.int (r1 : Int)))).set 6 (some (.ref D))), ?_, ?_⟩
        · refine ⟨_, rfl, rfl, _, rfl, ite2 (fun c2 => ?_) fun c2 => ⟨rfl, rfl⟩⟩
          refine ⟨_, rfl, _, _, rfl, rfl, _, rfl, ite2 (fun c3 => ?_) fun c3 => ⟨rfl, rfl⟩⟩
          have hn0 : 0 < n := by
            have := of_decide_eq_true c3
            omega
          refine ⟨_, rfl, _, rfl, _, rfl, _, rfl, _, _, rfl, ?_⟩
          generalize hm : (if (3 : Int) < (n : Int) then (3 : Int) else (n : Int)) = mm
          have hmm : 1 ≤ mm ∧ mm ≤ n := by
            by_cases z : (3 : Int) < (n : Int)
            · rw [if_pos z] at hm
              omega
            · rw [if_neg z] at hm
              omega
          refine ⟨_, s0, mm, rfl, g3.sub, hFs3, st2, by omega, by omega, fun H4 r4 g4 st4 hr4 => ?_⟩
          have g34 := g3.callM g4
          refine ⟨_, _, rfl, rfl, by show 4 ≤ sizeLine; decide, fun tp htp => ?_⟩
          exact q _ _ _ ⟨bg, sp, .still (1 + r4)⟩ (g34.frz htp) (st4.upd htp) (.tup (SqT.of upd_same) (.cons (.str _) (.cons (.int _) (.cons (.int _) (.cons (.int _) .nil))))) rfl rfl ⟨hbg.1, hbg.2, hsp.1, hsp.2, by omega, by omega⟩ (show 1 + r4 ≤ n by omega)
        · rintro σ H' ⟨rfl, rfl⟩
          refine ⟨_, rfl, _, rfl, _, rfl, D, _, rfl, .inl ⟨g3.sub.seq (.inl (.inl upd_same)), fun t1 ht1 => ⟨by show 4 ≤ sizeLine; decide, fun tp htp => ?_⟩⟩⟩
          have g5 := g3.frz (o := .tup acc) ht1
          have g6 := g5.frz (o := .tup [.str "woven", .int bg, .int sp, .ref t1]) htp
          refine q _ _ _ ⟨bg, sp, .woven rs⟩ g6 ((st2.upd ht1).upd htp) ?_ rfl rfl ⟨hbg.1, hbg.2, hsp.1, hsp.2, ⟨by omega, by omega⟩, fun r hr => (hrok r hr).1⟩ ⟨hrl, fun r hr => (hrok r hr).2⟩
          refine .tup (SqT.of upd_same) (.cons (.str _) (.cons (.int _) (.cons (.int _) (.cons (.tup (SqT.of (same_new (g5.ffresh htp) _ _ upd_same)) ?_) .nil))))
          exact ((drs.up s23).up (same_new (g3.ffresh ht1))).up (same_new (g5.ffresh htp))
end
end Sc

namespace Sc
open PySem PySem.Spec PyProof.Rows L2
theorem erase_perm {α : Type} : ∀ {l : List α} {r : Nat} {x : α}, l[r]? = some x → (x :: l.eraseIdx r).Perm l
  | [], r, x, h => by simp at h
  | a :: l, 0, x, h => by
    have e : a = x := by simpa using h
    rw [e]
    exact .refl _
  | a :: l, r + 1, x, h => by
    have := erase_perm (l := l) (r := r) (x := x) (by simpa using h)
    show (x :: a :: l.eraseIdx r).Perm (a :: l)
    exact (List.Perm.swap a x _).trans (this.cons a)
theorem Al.erase {α β : Type} {R : α → β → Prop} {xs : List α} {ys : List β} (h : Al R xs ys) (r : Nat) : Al R (xs.eraseIdx r) (ys.eraseIdx r) := by
  refine ⟨by rw [List.length_eraseIdx, List.length_eraseIdx, h.len], fun i x y e1 e2 => ?_⟩
  rw [List.getElem?_eraseIdx] at e1 e2
  by_cases c : i < r
  · rw [if_pos c] at e1 e2
    exact h.rel _ _ _ e1 e2
  · rw [if_neg c] at e1 e2
    exact h.rel _ _ _ e1 e2
theorem seqIx {n r : Nat} (h : r < n) : seqIndex? (r : Int) n = some r := (ixN_seq (ixN_at h)).1
def Apt (r q : Int × Int) : Prop := r.1 + r.2 ≤ q.1 ∨ q.1 + q.2 ≤ r.1
theorem Apt.symm {r q : Int × Int} (h : Apt r q) : Apt q r := Or.symm h
def LeafD.run (l : LeafD) : Int × Int := (l.bg, l.sp)
def RunAt (H : Hp) (v : V) (r : Int × Int) : Prop := ∃ t, v = .ref t ∧ H t = some (.tup [.int r.1, .int r.2])
theorem RunAt.up {H H' : Hp} {v : V} {r : Int × Int} (h : RunAt H v r) (s : Same H H') : RunAt H' v r := let ⟨t, a, b⟩ := h; ⟨t, a, s _ _ b⟩
structure OkLvs (ls : List LeafD) (wd : Nat) : Prop where
  leaf : ∀ (i : Nat) (x : LeafD), ls[i]? = some x → OkL x ∧ Fits x i wd
  apart : ∀ (i j : Nat) (x y : LeafD), ls[i]? = some x → ls[j]? = some y → j < i → Apart x y
  ends : ∀ x, x ∈ ls → x.bg + x.sp ≤ 4000000
section
variable {P : Program} {w : World} {K : PySem.W.Frag} {mg : Str → Option Value} {base : Heap}
def sp_law_leaves (K : PySem.W.Frag) : Sp := fun vs H Q _ => ∃ (F : Hp) (s : Addr) (wd few : Nat) (sc : Int), vs = [.ref s, .int (wd : Int), .int (few : Int), .int sc] ∧ Same F H ∧ F s = none ∧ StOk s H ∧ few ≤ 5 ∧ (1 ≤ wd ∧ wd ≤ 4) ∧ (1 ≤ sc ∧ sc ≤ 100000) ∧
  ∀ (F' H' : Hp) (v : V) (ls : List LeafD), Gw [s] F H F' H' → StOk s H' → Dp K F' v (.list (ls.map LeafD.dat)) → ls.length = few → OkLvs ls wd → Q v H'
abbrev N_law_leaves : List Str := ["_law_state", "_law_wide", "_law_few", "_law_scale", "_law_runs_here", "_law_at", "_law_k", "_law_span", "_law_found", "_law_number", "_law_begin"]
theorem sc_law_leaves : FnScope N_law_leaves ["_law_state", "_law_wide", "_law_few", "_law_scale"] (defScope s_law_leaves) := ⟨rfl, rfl, rfl, by decide +kernel, rfl, by decide +kernel, by decide +kernel⟩
theorem ok_law_leaves (T : Ts K mg) (c_law_digit : C8.Cal P w K mg base 1 "_law_digit" sp_law_digit []) (c_law_leaf : C8.Cal P w K mg base 3 "_law_leaf" (sp_law_leaf K) []) : C8.Cal P w K mg base 4 "_law_leaves" (sp_law_leaves K) [] := by
  refine cal_of T.f_law_leaves T.g_law_leaves sc_law_leaves (fun vs H Q E h => ?_) (fun _ _ _ _ _ _ us hl => match us, hl with | [_, _, _, _], _ => rfl) (fun cdv A outer s H vs Q E hr h => ⟨_, (pss_cons (ps_set (i := 4) sc_law_leaves.nd rfl (Or.inl rfl) (pe_lst pa_nil))
      (pss_cons (ps_set (i := 5) sc_law_leaves.nd rfl (Or.inl rfl) (C8.pe_c c_law_digit hr (by decide) (by rfl) (pa_cons (pv 0) (pa_cons pe_int pa_nil))))
      (pss_cons (ps_for PassesOwn.never rfl (pi_range1 (by rfl) T.m_range (pa_cons (pv 2) pa_nil)) (pg_name (i := 6) sc_law_leaves.nd rfl (Or.inl rfl)) (pss_cons (ps_set (i := 7) sc_law_leaves.nd rfl (Or.inl rfl) (pe_op op_add pe_int (C8.pe_c c_law_digit hr (by decide) (by rfl) (pa_cons (pv 0) (pa_cons pe_int pa_nil)))))
      (pss_cons (ps_expr (pe_bm PySem.F.plainAttrs_list PySem.F.slot_list_append PySem.F.type_list_append mt_append (pv 4) (pa_cons (pe_tup (pa_cons (pe_op op_mul (pv 5) (pv 3)) (pa_cons (pe_op op_mul (pv 7) (pv 3)) pa_nil))) pa_nil)))
      (pss_one (ps_set (i := 5) sc_law_leaves.nd rfl (Or.inl rfl) (pe_op op_add (pe_op op_add (pv 5) (pv 7)) (pe_ix ix_list (pe_lst (pa_cons pe_int (pa_cons pe_int (pa_cons pe_int pa_nil)))) (C8.pe_c c_law_digit hr (by decide) (by rfl) (pa_cons (pv 0) (pa_cons pe_int pa_nil))) (fun _ _ => rfl))))))))
      (pss_cons (ps_set (i := 8) sc_law_leaves.nd rfl (Or.inl rfl) (pe_lst pa_nil))
      (pss_cons (ps_for PassesOwn.never rfl (pi_range1 (by rfl) T.m_range (pa_cons (pv 2) pa_nil)) (pg_name (i := 9) sc_law_leaves.nd rfl (Or.inl rfl)) (pss_cons (ps_asg (pe_bm PySem.F.plainAttrs_list PySem.F.slot_list_pop PySem.F.type_list_pop mt_popAt (pv 4) (pa_cons (C8.pe_c c_law_digit hr (by decide) (by rfl) (pa_cons (pv 0) (pa_cons (pe_callB (call_min2 rfl) (by rfl) T.m_min (by decide +kernel) (pa_cons (pe_callB call_len (by rfl) T.m_len PySem.boot_len (pa_cons (pv 4) pa_nil)) (pa_cons pe_int pa_nil))) pa_nil))) pa_nil)) (pg_tup rfl (pgs_cons (pg_name (i := 10) sc_law_leaves.nd rfl (Or.inl rfl)) (pgs_cons (pg_name (i := 7) sc_law_leaves.nd rfl (Or.inl rfl)) pgs_nil))))
      (pss_one (ps_expr (pe_bm PySem.F.plainAttrs_list PySem.F.slot_list_append PySem.F.type_list_append mt_append (pv 8) (pa_cons (C8.pe_c c_law_leaf hr (by decide) (by rfl) (pa_cons (pv 0) (pa_cons (pv 9) (pa_cons (pv 1) (pa_cons (pv 10) (pa_cons (pv 7) pa_nil)))))) pa_nil))))))
      (pss_one (ps_ret (pv 8)))))))), ?_⟩)
  · obtain ⟨F, s, wd, few, sc, rfl, _⟩ := h
    rfl
  · obtain ⟨F, s0, wd, few, sc, rfl, sF, hFs, st, hfew, hw, hsc, q⟩ := h
    refine ⟨by decide, fun rb hrb => ?_⟩
    have g0 := (Gw.refl (M := [s0]) sF).alloc (o := .lst []) hrb
    have nrb : rb ≠ s0 := st_ne st hrb
    refine ⟨_, rfl, F, s0, 3, rfl, g0.sub, hFs, st.upd hrb, by decide, by decide, fun H1 r1 g1 st1 hr1 => ?_⟩
    have g01 := g0.callM g1
    have hrb1 := g1.keepS (upd_same (H := H) (a := rb) (o := .lst [])) nrb
    refine ⟨_, rfl, (few : Int), rfl, by omega, by omega, ?_⟩
    refine for_range (fun i σ H' => ∃ (at_ : Nat) (x6 x7 : Option V) (F' : Hp) (rv : List V) (R : List (Int × Int)), σ = [some (.ref s0), some (.int (wd : Int)), some (.int (few : Int)), some (.int sc), some (.ref rb), some (.int (at_ : Int)), x6, x7, none, none, none] ∧ Gw [s0] F H F' H' ∧ StOk s0 H' ∧ H' rb = some (.lst rv) ∧ F' rb = none ∧ Al (RunAt F') rv R ∧ R.length = i ∧ at_ ≤ 2 + 7 * i ∧
      (∀ r, r ∈ R → 0 ≤ r.1 ∧ 1 ≤ r.2 ∧ r.1 + r.2 ≤ (at_ : Int) * sc) ∧ R.Pairwise Apt) ⟨r1, none, none, F, [], [], rfl, g01, st1, hrb1, sF.free hrb, .nil, rfl, by omega, fun r h => by simp at h, .nil⟩ ?_ ?_
    · rintro i σ H2 hi ⟨at_, x6, x7, F2, rv, R, rfl, g2, st2, hr2, hFr2, hal, hRl, hat, hR, hpw⟩
      have hFs2 := st.out g2 hFs
      refine ⟨_, rfl, F2, s0, 5, rfl, g2.sub, hFs2, st2, by decide, by decide, fun H3 r3 g3 st3 hr3 => ?_⟩
      have g23 := g2.callM g3
      have hr3' := g3.keepS hr2 nrb
      refine ⟨_, _, rfl, rfl, ?_⟩
      refine ⟨_, rfl, tyL hr3', _, rfl, _, rfl, _, _, rfl, rfl, .inl ⟨by omega, by omega⟩, _, rfl, _, rfl, _, _, rfl, rfl, .inl ⟨by omega, by omega⟩, by show 2 ≤ sizeLine; decide, fun tp htp => ?_⟩
      have g4 := g23.frz (o := .tup [.int ((at_ : Int) * sc), .int ((1 + (r3 : Int)) * sc)]) htp
      have hr4 := keep_upd hr3' htp (o' := .tup [.int ((at_ : Int) * sc), .int ((1 + (r3 : Int)) * sc)])
      have hFr4 : upd F2 tp (.tup [.int ((at_ : Int) * sc), .int ((1 + (r3 : Int)) * sc)]) rb = none := by
        rw [upd_ne (ne_of_some hr3' htp)]
        exact hFr2
      have s24 : Same F2 (upd F2 tp (.tup [.int ((at_ : Int) * sc), .int ((1 + (r3 : Int)) * sc)])) := same_new (g23.ffresh htp)
      have hrvl := hal.len
      have hi5 : i < few := by simpa using hi
      refine ⟨rb, rv, _, rfl, rfl, hr4, lt_line (by omega), ?_⟩
      have g5 := g4.put (o' := .lst (rv ++ [.ref tp])) (.inl hrb) hFr4 hr4
      have st5 := (st3.upd htp (o := .tup [.int ((at_ : Int) * sc), .int ((1 + (r3 : Int)) * sc)])).updNe (o := .lst (rv ++ [.ref tp])) nrb.symm
      refine ⟨_, rfl, _, rfl, _, _, rfl, rfl, by show 3 ≤ sizeLine; decide, fun e he => ?_⟩
      have g6 := g5.alloc (o := .lst [.int 0, .int 0, .int 2]) he
      have nes := st_ne st5 he
      have st6 := st5.upd (o := .lst [.int 0, .int 0, .int 2]) he
      have hFs4 := st.out g6 hFs
      refine ⟨_, rfl, _, s0, 3, rfl, g6.sub, hFs4, st6, by decide, by decide, fun H7 r7 g7 st7 hr7 => ?_⟩
      have he7 := g7.keepS (upd_same (a := e) (o := .lst [.int 0, .int 0, .int 2])) nes
      obtain ⟨x, hx, hxx⟩ := at3 (a := 0) (b := 0) (c := 2) hr7
      refine ⟨e, _, _, _, rfl, rfl, .inl (.inl he7), hx, _, _, rfl, rfl, ?_⟩
      have hr7' := g7.keepS (keep_upd (upd_same (a := rb) (o := .lst (rv ++ [.ref tp]))) he (o' := .lst [.int 0, .int 0, .int 2])) nrb
      have hmul : ((at_ : Int) + (1 + (r3 : Int))) * sc = (at_ : Int) * sc + (1 + (r3 : Int)) * sc := Int.add_mul _ _ _
      have hp1 : 1 ≤ (1 + (r3 : Int)) * sc := by
        have : (1 : Int) * 1 ≤ (1 + (r3 : Int)) * sc := Int.mul_le_mul (by omega) hsc.1 (by omega) (by omega)
        omega
      have hp0 : 0 ≤ (at_ : Int) * sc := Int.mul_nonneg (by omega) (by omega)
      have hx0 : 0 ≤ x ∧ x ≤ 2 := by rcases hxx with rfl | rfl | rfl <;> decide
      have hmono : ((at_ : Int) + (1 + (r3 : Int))) * sc ≤ ((at_ : Int) + (1 + (r3 : Int)) + x) * sc := Int.mul_le_mul_of_nonneg_right (by omega) (by omega)
      refine ⟨at_ + (1 + r3) + x.toNat, some (.int (i : Int)), some (.int (1 + (r3 : Int))), _, rv ++ [.ref tp], R ++ [((at_ : Int) * sc, (1 + (r3 : Int)) * sc)], ?_, g6.callM g7, st7, hr7', hFr4, (hal.mono fun _ _ h => h.up s24).snoc ⟨tp, rfl, upd_same⟩, by simp [hRl], by omega, fun r hr => ?_, ?_⟩
      · have e : (((at_ + (1 + r3) + x.toNat : Nat)) : Int) = (at_ : Int) + (1 + (r3 : Int)) + x := by omega
        rw [e, show (0 : Int) + (i : Int) = (i : Int) from Int.zero_add _]
        rfl
      · have e : (((at_ + (1 + r3) + x.toNat : Nat)) : Int) = (at_ : Int) + (1 + (r3 : Int)) + x := by omega
        rw [e]
        rcases List.mem_append.mp hr with z | z
        · obtain ⟨a, b, c⟩ := hR r z
          exact ⟨a, b, by omega⟩
        · rw [List.mem_singleton.mp z]
          exact ⟨hp0, hp1, by show (at_ : Int) * sc + (1 + (r3 : Int)) * sc ≤ _; omega⟩
      · rw [List.pairwise_append]
        refine ⟨hpw, by simp, fun a ha b hb => ?_⟩
        rw [List.mem_singleton.mp hb]
        exact .inl (hR a ha).2.2
    · rintro σ H2 ⟨at_, x6, x7, F2, rv, R, rfl, g2, st2, hr2, hFr2, hal, hRl, hat, hR, hpw⟩
      have hRl : R.length = few := by simpa using hRl
      have hat : at_ ≤ 2 + 7 * few := by simpa using hat
      have hR2 : ∀ r, r ∈ R → 0 ≤ r.1 ∧ 1 ≤ r.2 ∧ r.1 + r.2 ≤ 4000000 := fun r hr => by
        obtain ⟨a, b, c⟩ := hR r hr
        have : (at_ : Int) * sc ≤ 37 * 100000 := Int.mul_le_mul (by omega) hsc.2 (by omega) (by omega)
        exact ⟨a, b, by omega⟩
      refine ⟨by decide, fun fb hfb => ?_⟩
      have g3 := g2.alloc (o := .lst []) hfb
      have nfb : fb ≠ s0 := st_ne st2 hfb
      have nrf : rb ≠ fb := ne_of_some hr2 hfb
      have hfb0 := g2.dom _ hfb
      refine ⟨_, rfl, (few : Int), rfl, by omega, by omega, ?_⟩
      refine for_range (fun i σ H' => ∃ (x6 x7 x9 x10 : Option V) (F' : Hp) (rv fv : List V) (R : List (Int × Int)) (ls : List LeafD), σ = [some (.ref s0), some (.int (wd : Int)), some (.int (few : Int)), some (.int sc), some (.ref rb), some (.int (at_ : Int)), x6, x7, some (.ref fb), x9, x10] ∧ Gw [s0] F H F' H' ∧ StOk s0 H' ∧ H' rb = some (.lst rv) ∧ F' rb = none ∧ Al (RunAt F') rv R ∧ R.length + i = few ∧
        (∀ r, r ∈ R → 0 ≤ r.1 ∧ 1 ≤ r.2 ∧ r.1 + r.2 ≤ 4000000) ∧ H' fb = some (.lst fv) ∧ F' fb = none ∧ Al (fun v (l : LeafD) => Dp K F' v l.dat) fv ls ∧ ls.length = i ∧ (ls.map LeafD.run ++ R).Pairwise Apt ∧ (∀ (j : Nat) (x : LeafD), ls[j]? = some x → OkL x ∧ Fits x j wd ∧ x.bg + x.sp ≤ 4000000)) ⟨_, _, none, none, F2, rv, [], R, [], rfl, g3, st2.upd hfb, keep_upd hr2 hfb, hFr2, hal, by omega, hR2, upd_same, g2.ffresh hfb, .nil, rfl, by simpa using hpw, fun j x e => by simp at e⟩ ?_ ?_
      · rintro i σ H4 hi ⟨x6, x7, x9, x10, F4, rv, fv, R, ls, rfl, g4, st4, hr4, hFr4, hal4, hRi, hR4, hf4, hFf4, hfl, hll, hpw4, hls⟩
        have hi5 : i < few := by simpa using hi
        have hFs4 := st.out g4 hFs
        have hrvl := hal4.len
        show gName 9 (.int (0 + (i : Int))) _ _ _
        rw [Int.zero_add]
        refine ⟨_, rfl, tyL hr4, _, rfl, _, rfl, _, _, rfl, .inl ⟨_, .inl (.inl hr4), rfl⟩, _, _, rfl, ?_⟩
        generalize hm : (if (3 : Int) < ((rv.length : Nat) : Int) then (3 : Int) else ((rv.length : Nat) : Int)) = mm
        have hmm : 1 ≤ mm ∧ mm ≤ rv.length := by
          by_cases z : (3 : Int) < ((rv.length : Nat) : Int)
          · rw [if_pos z] at hm
            omega
          · rw [if_neg z] at hm
            omega
        refine ⟨F4, s0, mm, rfl, g4.sub, hFs4, st4, by omega, by omega, fun H5 r5 g5 st5 hr5 => ?_⟩
        have g45 := g4.callM g5
        have hr5' := g5.keepS hr4 nrb
        have hf5 := g5.keepS hf4 nfb
        have hlt : r5 < rv.length := by omega
        have hv := List.getElem?_eq_getElem hlt
        obtain ⟨rr, hrr, ⟨t, ht, htt⟩⟩ := hal4.at1 hv
        rw [ht] at hv
        refine ⟨rb, rv, _, r5, _, rfl, rfl, hr5', by omega, by omega, seqIx hlt, hv, ?_⟩
        have g6 := g45.put (o' := .lst (rv.eraseIdx r5)) (.inl hrb) hFr4 hr5'
        have st6 := st5.updNe (o := .lst (rv.eraseIdx r5)) nrb.symm
        have hf6 : upd H5 rb (.lst (rv.eraseIdx r5)) fb = some (.lst fv) := by rw [upd_ne nrf.symm]; exact hf5
        obtain ⟨b0, b1, b2⟩ := hR4 rr (List.mem_of_getElem? hrr)
        refine ⟨_, _, rfl, SqT.of (g6.sub _ _ htt), rfl, _, _, rfl, _, _, rfl, rfl, ?_⟩
        refine ⟨_, rfl, tyL hf6, _, rfl, _, rfl, _, rfl, _, rfl, _, rfl, F4, s0, i, wd, rr.1, rr.2, rfl, g6.sub, hFs4, st6, by omega, hw, ⟨b0, by omega⟩, ⟨b1, by omega⟩, fun F7 H7 v l g7 st7 hl e1 e2 okl ftl => ?_⟩
        have g67 := g6.callM g7
        have hr7 := g7.keepS (upd_same (H := H5) (a := rb) (o := .lst (rv.eraseIdx r5))) nrb
        have hf7 := g7.keepS hf6 nfb
        have hFf7 := g7.out hf6 hFf4
        have hFr7 := g7.out (upd_same (H := H5) (a := rb) (o := .lst (rv.eraseIdx r5))) hFr4
        have hfvl := hfl.len
        refine ⟨fb, fv, v, rfl, rfl, hf7, lt_line (by omega), ?_⟩
        have hrun : l.run = rr := by
          unfold LeafD.run
          rw [e1, e2]
        refine ⟨x6, _, _, _, F7, rv.eraseIdx r5, fv ++ [v], R.eraseIdx r5, ls ++ [l], rfl, g67.put (.inl hfb0) hFf7 hf7, st7.updNe nfb.symm, by rw [upd_ne nrf]; exact hr7, hFr7, (hal4.erase r5).mono fun _ _ h => h.up g7.fs, ?_, ?_, upd_same, hFf7, (hfl.mono fun _ _ h => Dp.up h g7.fs).snoc hl, by simp [hll], ?_, fun j x e => ?_⟩
        · rw [List.length_eraseIdx, if_pos (by omega)]
          omega
        · intro r hr
          exact hR4 r (List.mem_of_mem_eraseIdx hr)
        · refine (List.Perm.pairwise_iff (fun h => Apt.symm h) ?_).mpr hpw4
          rw [List.map_append, List.map_singleton, hrun, List.append_assoc, List.singleton_append]
          exact (erase_perm hrr).append_left _
        · rcases Nat.lt_or_ge j ls.length with z | z
          · rw [List.getElem?_append_left z] at e
            exact hls j x e
          · rw [List.getElem?_append_right z] at e
            have hj : j = ls.length := by
              rcases Nat.eq_zero_or_pos (j - ls.length) with y | y
              · omega
              · rw [List.getElem?_eq_none (by simp; omega)] at e
                cases e
            subst hj
            have e : l = x := by simpa using e
            subst e
            rw [hll]
            exact ⟨okl, ftl, by omega⟩
      · rintro σ H4 ⟨x6, x7, x9, x10, F4, rv, fv, R, ls, rfl, g4, st4, hr4, hFr4, hal4, hRi, hR4, hf4, hFf4, hfl, hll, hpw4, hls⟩
        have hll : ls.length = few := by simpa using hll
        have s5 : Same F4 (upd F4 fb (.lst fv)) := same_new hFf4
        refine ⟨_, rfl, q _ _ _ ls (g4.hold hf4 hfb0 hFf4) st4 (.lst (.inl (.inl upd_same)) ?_) hll ⟨fun i x e => ⟨(hls i x e).1, (hls i x e).2.1⟩, fun i j x y e1 e2 hij => ?_, fun x hx => ?_⟩⟩
        · refine DpAll_of (by rw [List.length_map, hfl.len]) fun j y d e1 e2 => ?_
          obtain ⟨l, hl, rfl⟩ := map_at e2
          exact (hfl.rel j y l e1 hl).up s5
        · have hp := (List.pairwise_append.mp hpw4).1
          rw [List.pairwise_map, List.pairwise_iff_getElem] at hp
          obtain ⟨h1, e1⟩ := List.getElem?_eq_some_iff.mp e1
          obtain ⟨h2, e2⟩ := List.getElem?_eq_some_iff.mp e2
          have := hp j i h2 h1 hij
          rw [e1, e2] at this
          exact Or.symm this
        · obtain ⟨j, hj⟩ := List.getElem?_of_mem hx
          exact (hls j x hj).2.2
end
end Sc

namespace Sc
open PySem PySem.Spec PyProof.Rows L2
theorem low_ok {t b : Int} (t0 : 0 ≤ t) (t1 : t ≤ big) (b0 : 0 < b) (b1 : b ≤ big) : OkFr (low t b) := by
  obtain ⟨a1, a2⟩ := low_nn (k := t) b0 t0
  have l := low_lowest (k := t) b0
  have p := l.pos
  have c := low_le (k := t) b0
  exact ⟨a1, by omega, by omega, by omega, l.g⟩
theorem low_top {t b : Int} (t0 : 0 < t) (b0 : 0 < b) : 0 < (low t b).1 := by
  obtain ⟨g0, g1⟩ := low_pos (t := t) b0
  exact Int.ediv_pos_of_pos_of_dvd t0 (by omega) (Int.gcd_dvd_left t b)
theorem off_upd {F H : Hp} {a p : Addr} {o o' : HO} (h : H a = some o) (hp : H p = none) (f : F a = none) : L2.upd F p o' a = none := by
  rw [upd_ne (ne_of_some h hp)]
  exact f
theorem dp3 {K : PySem.W.Frag} {H : Hp} {p a b : Addr} {v : V} {x : EditD} (h : H p = some (.tup [.ref a, v, .ref b])) (h1 : Dp K H (.ref a) (frD x.span)) (h2 : Dp K H v (startD x.start)) (h3 : Dp K H (.ref b) (frD x.rate)) : Dp K H (.ref p) x.dat :=
  .tup (SqT.of h) (.cons h1 (.cons h2 (.cons h3 .nil)))
theorem fr01 : OkFr (0, 1) := ⟨by decide, by decide, by decide, by decide, by decide⟩
theorem fr11 : OkFr (1, 1) := ⟨by decide, by decide, by decide, by decide, by decide⟩
theorem fr21 : OkFr (2, 1) := ⟨by decide, by decide, by decide, by decide, by decide⟩
theorem fr12 : OkFr (1, 2) := ⟨by decide, by decide, by decide, by decide, by decide⟩
section
variable {P : Program} {w : World} {K : PySem.W.Frag} {mg : Str → Option Value} {base : Heap}
def sp_law_lane_edits (K : PySem.W.Frag) : Sp := fun vs H Q _ => ∃ (F : Hp) (s : Addr) (u e : Int), vs = [.ref s, .int u, .int e] ∧ Same F H ∧ F s = none ∧ StOk s H ∧ (1 ≤ u ∧ u ≤ 1000000) ∧ (0 ≤ e ∧ e ≤ 4000000) ∧
  ∀ (F' H' : Hp) (v : V) (es : List EditD), Gw [s] F H F' H' → StOk s H' → Dp K F' v (.list (es.map EditD.dat)) → es.length ≤ 60 → (∀ e, e ∈ es → OkEdit e) → Q v H'
abbrev N_law_lane_edits : List Str := ["_law_state", "_law_units", "_law_end", "_law_found", "_law_k", "_law_span", "_law_start", "_law_rate"]
theorem sc_law_lane_edits : FnScope N_law_lane_edits ["_law_state", "_law_units", "_law_end"] (defScope s_law_lane_edits) := ⟨rfl, rfl, rfl, by decide +kernel, rfl, by decide +kernel, by decide +kernel⟩
theorem ok_law_lane_edits (T : Ts K mg) (c_law_digit : C8.Cal P w K mg base 1 "_law_digit" sp_law_digit []) (c_law_lowest : C8.Cal P w K mg base 2 "_law_lowest" sp_law_lowest []) : C8.Cal P w K mg base 3 "_law_lane_edits" (sp_law_lane_edits K) [] := by
  refine cal_of T.f_law_lane_edits T.g_law_lane_edits sc_law_lane_edits (fun vs H Q E h => ?_) (fun _ _ _ _ _ _ us hl => match us, hl with | [_, _, _], _ => rfl) (fun cdv A outer s H vs Q E hr h => ⟨_, (pss_cons (ps_set (i := 3) sc_law_lane_edits.nd rfl (Or.inl rfl) (pe_lst pa_nil))
      (C8.pss_cut (ps_if (pt_cmpR op_eq (C8.pe_c c_law_digit hr (by decide) (by rfl) (pa_cons (pv 0) (pa_cons pe_int pa_nil))) pe_int (nomark _)) (pss_one (ps_expr (pe_bm PySem.F.plainAttrs_list PySem.F.slot_list_append PySem.F.type_list_append mt_append (pv 3) (pa_cons (pe_tup (pa_cons (C8.pe_c c_law_lowest hr (by decide) (by rfl) (pa_cons (pe_op op_add (pv 2) pe_int) (pa_cons (pv 1) pa_nil))) (pa_cons (pe_tup (pa_cons pe_int (pa_cons pe_int pa_nil))) (pa_cons (pe_tup (pa_cons pe_int (pa_cons pe_int pa_nil))) pa_nil)))) pa_nil)))) pss_nil)
      (pss_cons (ps_for PassesOwn.never rfl (pi_range1 (by rfl) T.m_range (pa_cons (C8.pe_c c_law_digit hr (by decide) (by rfl) (pa_cons (pv 0) (pa_cons pe_int pa_nil))) pa_nil)) (pg_name (i := 4) sc_law_lane_edits.nd rfl (Or.inl rfl)) (pss_cons (ps_set (i := 5) sc_law_lane_edits.nd rfl (Or.inl rfl) (C8.pe_c c_law_lowest hr (by decide) (by rfl) (pa_cons (pe_op op_add pe_int (C8.pe_c c_law_digit hr (by decide) (by rfl) (pa_cons (pv 0) (pa_cons (pe_op op_add (pv 2) pe_int) pa_nil)))) (pa_cons (pe_op op_mul (pv 1) (pe_op op_add pe_int (C8.pe_c c_law_digit hr (by decide) (by rfl) (pa_cons (pv 0) (pa_cons pe_int pa_nil))))) pa_nil))))
      (pss_cons (ps_set (i := 6) sc_law_lane_edits.nd rfl (Or.inl rfl) (C8.pe_c c_law_lowest hr (by decide) (by rfl) (pa_cons (C8.pe_c c_law_digit hr (by decide) (by rfl) (pa_cons (pv 0) (pa_cons (pe_op op_add (pe_op op_mul pe_int (pv 2)) pe_int) pa_nil))) (pa_cons (pe_op op_mul pe_int (pv 1)) pa_nil))))
      (pss_cons (ps_set (i := 7) sc_law_lane_edits.nd rfl (Or.inl rfl) (pe_ix ix_list (pe_lst (pa_cons (pe_tup (pa_cons pe_int (pa_cons pe_int pa_nil))) (pa_cons (pe_tup (pa_cons pe_int (pa_cons pe_int pa_nil))) (pa_cons (pe_tup (pa_cons pe_int (pa_cons pe_int pa_nil))) (pa_cons (pe_tup (pa_cons pe_int (pa_cons pe_int pa_nil))) (pa_cons (pe_tup (pa_cons pe_int (pa_cons pe_int pa_nil))) pa_nil)))))) (C8.pe_c c_law_digit hr (by decide) (by rfl) (pa_cons (pv 0) (pa_cons pe_int pa_nil))) (fun _ _ => rfl)))
      (C8.pss_cut (ps_if (pt_cmpR op_eq (C8.pe_c c_law_digit hr (by decide) (by rfl) (pa_cons (pv 0) (pa_cons pe_int pa_nil))) pe_int (nomark _)) (pss_one (ps_asg (pe_tup (pa_cons pe_non (pa_cons (pe_tup (pa_cons pe_int (pa_cons pe_int pa_nil))) pa_nil))) (pg_tup rfl (pgs_cons (pg_name (i := 6) sc_law_lane_edits.nd rfl (Or.inl rfl)) (pgs_cons (pg_name (i := 7) sc_law_lane_edits.nd rfl (Or.inl rfl)) pgs_nil))))) pss_nil)
      (pss_one (ps_expr (pe_bm PySem.F.plainAttrs_list PySem.F.slot_list_append PySem.F.type_list_append mt_append (pv 3) (pa_cons (pe_tup (pa_cons (pv 5) (pa_cons (pv 6) (pa_cons (pv 7) pa_nil)))) pa_nil)))))))))
      (pss_one (ps_ret (pv 3)))))), ?_⟩)
  · obtain ⟨F, s, u, e, rfl, _⟩ := h
    rfl
  · obtain ⟨F, s0, u, e, rfl, sF, hFs, st, hu, he, q⟩ := h
    refine ⟨by decide, fun fb hfb => ?_⟩
    have g0 := (Gw.refl (M := [s0]) sF).alloc (o := .lst []) hfb
    have nfb : fb ≠ s0 := st_ne st hfb
    have bg1 : (8000010 : Int) ≤ big := by decide
    have bg2 : (2000000 : Int) ≤ big := by decide
    refine ⟨fun σ H' => ∃ F' fv es, σ = [some (.ref s0), some (.int u), some (.int e), some (.ref fb), none, none, none, none] ∧ Gw [s0] F H F' H' ∧ StOk s0 H' ∧ H' fb = some (.lst fv) ∧ F' fb = none ∧ Al (fun v (x : EditD) => Dp K F' v x.dat) fv es ∧ es.length ≤ 1 ∧ ∀ x, x ∈ es → OkEdit x, ?_, ?_⟩
    · refine ⟨_, rfl, F, s0, 3, rfl, g0.sub, hFs, st.upd hfb, by decide, by decide, fun H1 r1 g1 st1 hr1 => ?_⟩
      have g01 := g0.callM g1
      have hf1 := g1.keepS (upd_same (H := H) (a := fb) (o := .lst [])) nfb
      refine ⟨rfl, _, rfl, ite2 (fun c => ?_) fun c => ⟨F, [], [], rfl, g01, st1, hf1, sF.free hfb, .nil, by decide, fun x h => by simp at h⟩⟩
      refine ⟨_, rfl, tyL hf1, _, rfl, _, _, rfl, rfl, _, rfl, _, _, rfl, by omega, by omega, fun t1 ht1 => ⟨by show 2 ≤ sizeLine; decide, fun t2 ht2 => ⟨by show 2 ≤ sizeLine; decide, fun t3 ht3 => ⟨by show 3 ≤ sizeLine; decide, fun t4 ht4 => ?_⟩⟩⟩⟩
      have g2 := g01.frz (o := .tup [.int (low (e + 1) u).1, .int (low (e + 1) u).2]) ht1
      have g3 := g2.frz (o := .tup [.int 0, .int 1]) ht2
      have g4 := g3.frz (o := .tup [.int 1, .int 1]) ht3
      have g5 := g4.frz (o := .tup [.ref t1, .ref t2, .ref t3]) ht4
      have hf5 := keep_upd (keep_upd (keep_upd (keep_upd hf1 ht1 (o' := .tup [.int (low (e + 1) u).1, .int (low (e + 1) u).2])) ht2 (o' := .tup [.int 0, .int 1])) ht3 (o' := .tup [.int 1, .int 1])) ht4 (o' := .tup [.ref t1, .ref t2, .ref t3])
      have hF1 := sF.free hfb
      have hF2 := off_upd hf1 ht1 hF1 (o' := .tup [.int (low (e + 1) u).1, .int (low (e + 1) u).2])
      have hF3 := off_upd (keep_upd hf1 ht1 (o' := .tup [.int (low (e + 1) u).1, .int (low (e + 1) u).2])) ht2 hF2 (o' := .tup [.int 0, .int 1])
      have hF4 := off_upd (keep_upd (keep_upd hf1 ht1 (o' := .tup [.int (low (e + 1) u).1, .int (low (e + 1) u).2])) ht2 (o' := .tup [.int 0, .int 1])) ht3 hF3 (o' := .tup [.int 1, .int 1])
      have hF5 := off_upd (keep_upd (keep_upd (keep_upd hf1 ht1 (o' := .tup [.int (low (e + 1) u).1, .int (low (e + 1) u).2])) ht2 (o' := .tup [.int 0, .int 1])) ht3 (o' := .tup [.int 1, .int 1])) ht4 hF4 (o' := .tup [.ref t1, .ref t2, .ref t3])
      refine ⟨fb, [], _, rfl, rfl, hf5, lt_line (by decide), ?_⟩
      have s1 : Same (upd F t1 (.tup [.int (low (e + 1) u).1, .int (low (e + 1) u).2])) (upd (upd F t1 (.tup [.int (low (e + 1) u).1, .int (low (e + 1) u).2])) t2 (.tup [.int 0, .int 1])) := same_new (g2.ffresh ht2)
      have s2 := same_new (o := .tup [.int 1, .int 1]) (g3.ffresh ht3)
      have s3 := same_new (o := .tup [.ref t1, .ref t2, .ref t3]) (g4.ffresh ht4)
      refine ⟨_, _, [⟨low (e + 1) u, some (0, 1), (1, 1)⟩], rfl, g5.put (.inl hfb) hF5 hf5, ((((st1.upd ht1).upd ht2).upd ht3).upd ht4).updNe nfb.symm, upd_same, hF5, Al.nil.snoc ?_, Nat.le_refl _, fun x hx => ?_⟩
      · exact dp3 upd_same (Dp.fr (s3 _ _ (s2 _ _ (s1 _ _ upd_same)))) (Dp.fr (p := (0, 1)) (s3 _ _ (s2 _ _ upd_same))) (Dp.fr (p := (1, 1)) (s3 _ _ upd_same))
      · rw [List.mem_singleton.mp hx]
        exact ⟨low_ok (by omega) (by omega) (by omega) (by omega), low_top (by omega) (by omega), fr11, fun y hy => by cases hy; exact fr01, fun z => by cases z⟩
    · rintro σ H1 ⟨F1, fv, es, rfl, g1, st1, hf1, hF1, hal, hel, hok⟩
      have hFs1 := st.out g1 hFs
      refine ⟨_, rfl, F1, s0, 4, rfl, g1.sub, hFs1, st1, by decide, by decide, fun H2 r2 g2 st2 hr2 => ?_⟩
      have g12 := g1.callM g2
      refine ⟨(r2 : Int), rfl, by omega, by omega, ?_⟩
      refine for_range (fun i σ H' => ∃ x4 x5 x6 x7 F' fv es, σ = [some (.ref s0), some (.int u), some (.int e), some (.ref fb), x4, x5, x6, x7] ∧ Gw [s0] F H F' H' ∧ StOk s0 H' ∧ H' fb = some (.lst fv) ∧ F' fb = none ∧ Al (fun v (x : EditD) => Dp K F' v x.dat) fv es ∧ es.length ≤ 1 + i ∧ ∀ x, x ∈ es → OkEdit x) ⟨none, none, none, none, F1, fv, es, rfl, g12, st2, g2.keepS hf1 nfb, hF1, hal, by omega, hok⟩ ?_ ?_
      · rintro i σ H3 hi ⟨x4, x5, x6, x7, F3, fv, es, rfl, g3, st3, hf3, hF3, hal, hel, hok⟩
        have hFs3 := st.out g3 hFs
        refine ⟨_, rfl, _, rfl, _, _, rfl, rfl, F3, s0, e + 2, rfl, g3.sub, hFs3, st3, by omega, by omega, fun H4 r4 g4 st4 hr4 => ?_⟩
        have hf4 := g4.keepS hf3 nfb
        refine ⟨_, _, rfl, rfl, _, rfl, _, rfl, F3, s0, 2, rfl, (g3.callM g4).sub, hFs3, st4, by decide, by decide, fun H5 r5 g5 st5 hr5 => ?_⟩
        have g35 := (g3.callM g4).callM g5
        have hf5 := g5.keepS hf4 nfb
        have r501 : r5 = 0 ∨ r5 = 1 := by omega
        have hub : 0 < u * (1 + (r5 : Int)) ∧ u * (1 + (r5 : Int)) ≤ 2000000 := by
          rcases r501 with rfl | rfl
          · simp
            omega
          · simp
            omega
        refine ⟨_, _, rfl, rfl, _, _, rfl, rfl, .inl ⟨by omega, by omega⟩, _, _, rfl, hub.1, by omega, fun t1 ht1 => ?_⟩
        have g6 := g35.frz (o := .tup [.int (low (1 + (r4 : Int)) (u * (1 + (r5 : Int)))).1, .int (low (1 + (r4 : Int)) (u * (1 + (r5 : Int)))).2]) ht1
        have hf6 := keep_upd hf5 ht1 (o' := .tup [.int (low (1 + (r4 : Int)) (u * (1 + (r5 : Int)))).1, .int (low (1 + (r4 : Int)) (u * (1 + (r5 : Int)))).2])
        have hF6 := off_upd hf5 ht1 hF3 (o' := .tup [.int (low (1 + (r4 : Int)) (u * (1 + (r5 : Int)))).1, .int (low (1 + (r4 : Int)) (u * (1 + (r5 : Int)))).2])
        have st6 := st5.upd ht1 (o := .tup [.int (low (1 + (r4 : Int)) (u * (1 + (r5 : Int)))).1, .int (low (1 + (r4 : Int)) (u * (1 + (r5 : Int)))).2])
        have s36 : Same F3 (upd F3 t1 (.tup [.int (low (1 + (r4 : Int)) (u * (1 + (r5 : Int)))).1, .int (low (1 + (r4 : Int)) (u * (1 + (r5 : Int)))).2])) := same_new (g35.ffresh ht1)
        have dspan : Dp K (upd F3 t1 (.tup [.int (low (1 + (r4 : Int)) (u * (1 + (r5 : Int)))).1, .int (low (1 + (r4 : Int)) (u * (1 + (r5 : Int)))).2])) (.ref t1) (frD (low (1 + (r4 : Int)) (u * (1 + (r5 : Int))))) := Dp.fr upd_same
        have okspan : OkFr (low (1 + (r4 : Int)) (u * (1 + (r5 : Int)))) ∧ 0 < (low (1 + (r4 : Int)) (u * (1 + (r5 : Int)))).1 := ⟨low_ok (by omega) (by omega) (by omega) (by omega), low_top (by omega) (by omega)⟩
        generalize low (1 + (r4 : Int)) (u * (1 + (r5 : Int))) = sp at *
        have hFs6 := st.out g6 hFs
        refine ⟨_, rfl, _, rfl, _, _, rfl, rfl, .inl ⟨by decide, by decide⟩, _, _, rfl, rfl, _, s0, 2 * e + 2, rfl, g6.sub, hFs6, st6, by omega, by omega, fun H7 r7 g7 st7 hr7 => ?_⟩
        have hf7 := g7.keepS hf6 nfb
        refine ⟨_, rfl, _, _, rfl, rfl, .inl ⟨by decide, by decide⟩, _, _, rfl, by omega, by omega, fun t2 ht2 => ?_⟩
        have g8 := (g6.callM g7).frz (o := .tup [.int (low (r7 : Int) (2 * u)).1, .int (low (r7 : Int) (2 * u)).2]) ht2
        have hf8 := keep_upd hf7 ht2 (o' := .tup [.int (low (r7 : Int) (2 * u)).1, .int (low (r7 : Int) (2 * u)).2])
        have hF8 := off_upd hf7 ht2 hF6 (o' := .tup [.int (low (r7 : Int) (2 * u)).1, .int (low (r7 : Int) (2 * u)).2])
        have st8 := st7.upd ht2 (o := .tup [.int (low (r7 : Int) (2 * u)).1, .int (low (r7 : Int) (2 * u)).2])
        have s68 := same_new (o := .tup [.int (low (r7 : Int) (2 * u)).1, .int (low (r7 : Int) (2 * u)).2]) ((g6.callM g7).ffresh ht2)
        have dstart : Dp K (upd (upd F3 t1 (.tup [.int sp.1, .int sp.2])) t2 (.tup [.int (low (r7 : Int) (2 * u)).1, .int (low (r7 : Int) (2 * u)).2])) (.ref t2) (frD (low (r7 : Int) (2 * u))) := Dp.fr upd_same
        have okstart : OkFr (low (r7 : Int) (2 * u)) := low_ok (by omega) (by omega) (by omega) (by omega)
        have dspan8 := dspan.up s68
        have s38 := s36.trans s68
        generalize low (r7 : Int) (2 * u) = sta at *
        generalize hF8e : upd (upd F3 t1 (.tup [.int sp.1, .int sp.2])) t2 (.tup [.int sta.1, .int sta.2]) = F8 at *
        generalize hH8e : upd H7 t2 (.tup [.int sta.1, .int sta.2]) = H8 at *
        clear hF8e hH8e
        refine ⟨by show 2 ≤ sizeLine; decide, fun a1 ha1 => ⟨by show 2 ≤ sizeLine; decide, fun a2 ha2 => ⟨by show 2 ≤ sizeLine; decide, fun a3 ha3 => ⟨by show 2 ≤ sizeLine; decide, fun a4 ha4 => ⟨by show 2 ≤ sizeLine; decide, fun a5 ha5 => ⟨by show 5 ≤ sizeLine; decide, fun le hle => ?_⟩⟩⟩⟩⟩⟩
        have k1 := g8.frz (o := .tup [.int 1, .int 1]) ha1
        have k2 := k1.frz (o := .tup [.int 1, .int 1]) ha2
        have k3 := k2.frz (o := .tup [.int 0, .int 1]) ha3
        have k4 := k3.frz (o := .tup [.int 2, .int 1]) ha4
        have k5 := k4.frz (o := .tup [.int 1, .int 2]) ha5
        have k6 := k5.alloc (o := .lst [.ref a1, .ref a2, .ref a3, .ref a4, .ref a5]) hle
        have z1 := same_new (o := .tup [.int 1, .int 1]) (g8.ffresh ha1)
        have z2 := same_new (o := .tup [.int 1, .int 1]) (k1.ffresh ha2)
        have z3 := same_new (o := .tup [.int 0, .int 1]) (k2.ffresh ha3)
        have z4 := same_new (o := .tup [.int 2, .int 1]) (k3.ffresh ha4)
        have z5 := same_new (o := .tup [.int 1, .int 2]) (k4.ffresh ha5)
        have st9 := (((((st8.upd ha1 (o := .tup [.int 1, .int 1])).upd ha2 (o := .tup [.int 1, .int 1])).upd ha3 (o := .tup [.int 0, .int 1])).upd ha4 (o := .tup [.int 2, .int 1])).upd ha5 (o := .tup [.int 1, .int 2]))
        have nle := st_ne st9 hle
        have st10 := st9.upd hle (o := .lst [.ref a1, .ref a2, .ref a3, .ref a4, .ref a5])
        have hf9 := keep_upd (keep_upd (keep_upd (keep_upd (keep_upd (keep_upd hf8 ha1 (o' := .tup [.int 1, .int 1])) ha2 (o' := .tup [.int 1, .int 1])) ha3 (o' := .tup [.int 0, .int 1])) ha4 (o' := .tup [.int 2, .int 1])) ha5 (o' := .tup [.int 1, .int 2])) hle (o' := .lst [.ref a1, .ref a2, .ref a3, .ref a4, .ref a5])
        have hFs9 := st.out k6 hFs
        have hF9 := off_upd (keep_upd (keep_upd (keep_upd (keep_upd hf8 ha1 (o' := .tup [.int 1, .int 1])) ha2 (o' := .tup [.int 1, .int 1])) ha3 (o' := .tup [.int 0, .int 1])) ha4 (o' := .tup [.int 2, .int 1])) ha5
          (off_upd (keep_upd (keep_upd (keep_upd hf8 ha1 (o' := .tup [.int 1, .int 1])) ha2 (o' := .tup [.int 1, .int 1])) ha3 (o' := .tup [.int 0, .int 1])) ha4
            (off_upd (keep_upd (keep_upd hf8 ha1 (o' := .tup [.int 1, .int 1])) ha2 (o' := .tup [.int 1, .int 1])) ha3
              (off_upd (keep_upd hf8 ha1 (o' := .tup [.int 1, .int 1])) ha2
                (off_upd hf8 ha1 hF8 (o' := .tup [.int 1, .int 1])) (o' := .tup [.int 1, .int 1])) (o' := .tup [.int 0, .int 1])) (o' := .tup [.int 2, .int 1])) (o' := .tup [.int 1, .int 2])
        have dr : ∀ r : Nat, (r : Int) < 5 → ∃ (b : Addr) (p : Int × Int), atI [V.ref a1, .ref a2, .ref a3, .ref a4, .ref a5] (r : Int) = some (.ref b) ∧ OkFr p ∧ Dp K (upd (upd (upd (upd (upd F8 a1 (.tup [.int 1, .int 1])) a2 (.tup [.int 1, .int 1])) a3 (.tup [.int 0, .int 1])) a4 (.tup [.int 2, .int 1])) a5 (.tup [.int 1, .int 2])) (.ref b) (frD p) := fun r hr => by
          have : r = 0 ∨ r = 1 ∨ r = 2 ∨ r = 3 ∨ r = 4 := by omega
          rcases this with rfl | rfl | rfl | rfl | rfl
          · exact ⟨a1, (1, 1), rfl, fr11, Dp.fr (z5 _ _ (z4 _ _ (z3 _ _ (z2 _ _ upd_same))))⟩
          · exact ⟨a2, (1, 1), rfl, fr11, Dp.fr (z5 _ _ (z4 _ _ (z3 _ _ upd_same)))⟩
          · exact ⟨a3, (0, 1), rfl, fr01, Dp.fr (z5 _ _ (z4 _ _ upd_same))⟩
          · exact ⟨a4, (2, 1), rfl, fr21, Dp.fr (z5 _ _ upd_same)⟩
          · exact ⟨a5, (1, 2), rfl, fr12, Dp.fr upd_same⟩
        have z9 := (((z1.trans z2).trans z3).trans z4).trans z5
        have dspan9 := dspan8.up z9
        have dstart9 := dstart.up z9
        have s39 := s38.trans z9
        generalize hF9e : upd (upd (upd (upd (upd F8 a1 (.tup [.int 1, .int 1])) a2 (.tup [.int 1, .int 1])) a3 (.tup [.int 0, .int 1])) a4 (.tup [.int 2, .int 1])) a5 (.tup [.int 1, .int 2]) = F9 at *
        clear hF9e
        refine ⟨_, rfl, F9, s0, 5, rfl, k6.sub, hFs9, st10, by decide, by decide, fun H10 r10 g10 st10' hr10 => ?_⟩
        have hle10 := g10.keepS (upd_same (a := le) (o := .lst [.ref a1, .ref a2, .ref a3, .ref a4, .ref a5])) nle
        have hf10 := g10.keepS hf9 nfb
        have k10 := k6.callM g10
        obtain ⟨br, pr, hbr, okr, drr⟩ := dr r10 hr10
        refine ⟨le, _, _, _, rfl, rfl, .inl (.inl hle10), hbr, ?_⟩
        refine ⟨fun σ H' => ∃ vs so vr rt F' , σ = [some (.ref s0), some (.int u), some (.int e), some (.ref fb), some (.int (0 + (i : Int))), some (.ref t1), some vs, some (.ref vr)] ∧ Gw [s0] F H F' H' ∧ Same F9 F' ∧ StOk s0 H' ∧ H' fb = some (.lst fv) ∧ F' fb = none ∧ Dp K F' vs (startD so) ∧ Dp K F' (.ref vr) (frD rt) ∧ OkFr rt ∧ (∀ x, so = some x → OkFr x) ∧ (so = none → rt = (0, 1)), ?_, ?_⟩
        · refine ⟨_, rfl, F9, s0, 5, rfl, k10.sub, hFs9, st10', by decide, by decide, fun H11 r11 g11 st11 hr11 => ?_⟩
          have k11 := k10.callM g11
          have hf11 := g11.keepS hf10 nfb
          refine ⟨rfl, _, rfl, ite2 (fun c => ?_) fun c => ⟨.ref t2, some sta, br, pr, F9, rfl, k11, Same.refl _, st11, hf11, hF9, dstart9, drr, okr, fun x hx => by cases hx; exact okstart, fun z => by cases z⟩⟩
          refine ⟨by show 2 ≤ sizeLine; decide, fun b1 hb1 => ⟨by show 2 ≤ sizeLine; decide, fun b2 hb2 => ?_⟩⟩
          have k12 := k11.frz (o := .tup [.int 0, .int 1]) hb1
          have k13 := k12.alloc (o := .tup [.non, .ref b1]) hb2
          refine ⟨_, _, rfl, SqT.of upd_same, rfl, _, _, rfl, _, _, rfl, rfl, ?_⟩
          exact ⟨.non, none, b1, (0, 1), _, rfl, k13, same_new (k11.ffresh hb1), (st11.upd hb1).upd hb2, keep_upd (keep_upd hf11 hb1) hb2, off_upd hf11 hb1 hF9, .non, Dp.fr upd_same, fr01, (fun x hx => nomatch hx), fun _ => rfl⟩
        · rintro σ H12 ⟨vs, so, vr, rt, F12, rfl, k12, z12, st12, hf12, hF12, dso, drt, okrt, okso, sn⟩
          refine ⟨_, rfl, tyL hf12, _, rfl, _, rfl, _, rfl, by show 3 ≤ sizeLine; decide, fun tp htp => ?_⟩
          have k13 := k12.frz (o := .tup [.ref t1, vs, .ref vr]) htp
          have hf13 := keep_upd hf12 htp (o' := .tup [.ref t1, vs, .ref vr])
          have hF13 := off_upd hf12 htp hF12 (o' := .tup [.ref t1, vs, .ref vr])
          have z13 := same_new (o := .tup [.ref t1, vs, .ref vr]) (k12.ffresh htp)
          have hfvl := hal.len
          have hi4 : i < r2 := by simpa using hi
          refine ⟨fb, fv, _, rfl, rfl, hf13, lt_line (by omega), ?_⟩
          refine ⟨_, _, _, _, _, fv ++ [.ref tp], es ++ [⟨sp, so, rt⟩], rfl, k13.put (.inl hfb) hF13 hf13, (st12.upd htp).updNe nfb.symm, upd_same, hF13, (hal.mono fun _ _ h => Dp.up h ((s39.trans z12).trans z13)).snoc (dp3 upd_same ((dspan9.up z12).up z13) (dso.up z13) (drt.up z13)), by simp; omega, fun x hx => ?_⟩
          rcases List.mem_append.mp hx with y | y
          · exact hok x y
          · rw [List.mem_singleton.mp y]
            exact ⟨okspan.1, okspan.2, okrt, okso, sn⟩
      · rintro σ H3 ⟨x4, x5, x6, x7, F3, fv, es, rfl, g3, st3, hf3, hF3, hal, hel, hok⟩
        have hel : es.length ≤ 1 + r2 := by simpa using hel
        have s4 : Same F3 (upd F3 fb (.lst fv)) := same_new hF3
        refine ⟨_, rfl, q _ _ _ es (g3.hold hf3 hfb hF3) st3 (.lst (.inl (.inl upd_same)) ?_) (by omega) hok⟩
        refine DpAll_of (by rw [List.length_map, hal.len]) fun j y d e1 e2 => ?_
        obtain ⟨l, hl, rfl⟩ := map_at e2
        exact (hal.rel j y l e1 hl).up s4
end
end Sc

namespace Sc
open PySem PySem.Spec PyProof.Rows L2
theorem at6 {x : Int} {r : Nat} (h : (r : Int) < 6) (h1 : 1 ≤ x) (h2 : x ≤ 1000000) : ∃ y : Int, atI [V.int 1, .int 2, .int 3, .int 10, .int 1000, .int x] (r : Int) = some (.int y) ∧ 1 ≤ y ∧ y ≤ 1000000 := by
  have : r = 0 ∨ r = 1 ∨ r = 2 ∨ r = 3 ∨ r = 4 ∨ r = 5 := by omega
  rcases this with rfl | rfl | rfl | rfl | rfl | rfl
  · exact ⟨1, rfl, by decide, by decide⟩
  · exact ⟨2, rfl, by decide, by decide⟩
  · exact ⟨3, rfl, by decide, by decide⟩
  · exact ⟨10, rfl, by decide, by decide⟩
  · exact ⟨1000, rfl, by decide, by decide⟩
  · exact ⟨x, rfl, h1, h2⟩
section
variable {P : Program} {w : World} {K : PySem.W.Frag} {mg : Str → Option Value} {base : Heap}
theorem dp_leaf {H : Hp} {v : V} {l : LeafD} (h : Dp K H v l.dat) : ∃ t u, v = .ref t ∧ SqT K H t [.str l.body.word, .int l.bg, .int l.sp, u] ∧ Dp K H u l.body.dat := by
  obtain ⟨t, ts, rfl, t1, t2⟩ := h.tupE
  obtain ⟨v1, _, rfl, e1, t2⟩ := t2.consE
  obtain ⟨v2, _, rfl, e2, t2⟩ := t2.consE
  obtain ⟨v3, _, rfl, e3, t2⟩ := t2.consE
  obtain ⟨v4, _, rfl, e4, t2⟩ := t2.consE
  cases t2.nilE
  cases e1.strE
  cases e2.intE
  cases e3.intE
  exact ⟨t, _, rfl, t1, e4⟩
def sp_law_lane (K : PySem.W.Frag) : Sp := fun vs H Q _ => ∃ (F : Hp) (s : Addr) (wd : Nat), vs = [.ref s, .int (wd : Int), .int 5] ∧ Same F H ∧ F s = none ∧ StOk s H ∧ (1 ≤ wd ∧ wd ≤ 4) ∧
  ∀ (F' H' : Hp) (v : V) (l : LaneD), Gw [s] F H F' H' → StOk s H' → Dp K F' v l.dat → OkLane l wd → Q v H'
def sp_law_film (K : PySem.W.Frag) : Sp := fun vs H Q _ => ∃ (F : Hp) (a : Addr) (x y z u : Int), vs = [.ref a, .int 5] ∧ Same F H ∧ SqL K F a [.int x, .int y, .int z, .int u] ∧
  ∀ (F' H' : Hp) (v : V) (f : FilmD), Gw [] F H F' H' → Dp K F' v f.dat → OkFilm f → Q v H'
abbrev N_law_lane : List Str := ["_law_state", "_law_wide", "_law_few", "_law_units", "_law_scale", "_law_leaves_here", "_law_end", "_law_leaf_here"]
theorem sc_law_lane : FnScope N_law_lane ["_law_state", "_law_wide", "_law_few"] (defScope s_law_lane) := ⟨rfl, rfl, rfl, by decide +kernel, rfl, by decide +kernel, by decide +kernel⟩
theorem ok_law_lane (T : Ts K mg) (c_law_digit : C8.Cal P w K mg base 1 "_law_digit" sp_law_digit []) (c_law_leaves : C8.Cal P w K mg base 4 "_law_leaves" (sp_law_leaves K) []) (c_law_lane_edits : C8.Cal P w K mg base 3 "_law_lane_edits" (sp_law_lane_edits K) []) : C8.Cal P w K mg base 5 "_law_lane" (sp_law_lane K) [] := by
  refine cal_of T.f_law_lane T.g_law_lane sc_law_lane (fun vs H Q E h => ?_) (fun _ _ _ _ _ _ us hl => match us, hl with | [_, _, _], _ => rfl) (fun cdv A outer s H vs Q E hr h => ⟨_, (pss_cons (ps_set (i := 3) sc_law_lane.nd rfl (Or.inl rfl) (pe_ix ix_list (pe_lst (pa_cons pe_int (pa_cons pe_int (pa_cons pe_int (pa_cons pe_int (pa_cons pe_int (pa_cons (pe_op op_add pe_int (C8.pe_c c_law_digit hr (by decide) (by rfl) (pa_cons (pv 0) (pa_cons (pe_op op_pow pe_int pe_int) pa_nil)))) pa_nil))))))) (C8.pe_c c_law_digit hr (by decide) (by rfl) (pa_cons (pv 0) (pa_cons pe_int pa_nil))) (fun _ _ => rfl)))
      (pss_cons (ps_set (i := 4) sc_law_lane.nd rfl (Or.inl rfl) (pe_ix ix_list (pe_lst (pa_cons pe_int (pa_cons pe_int (pa_cons (pe_op op_add pe_int (C8.pe_c c_law_digit hr (by decide) (by rfl) (pa_cons (pv 0) (pa_cons (pe_op op_pow pe_int pe_int) pa_nil)))) pa_nil)))) (C8.pe_c c_law_digit hr (by decide) (by rfl) (pa_cons (pv 0) (pa_cons pe_int pa_nil))) (fun _ _ => rfl)))
      (pss_cons (ps_set (i := 5) sc_law_lane.nd rfl (Or.inl rfl) (C8.pe_c c_law_leaves hr (by decide) (by rfl) (pa_cons (pv 0) (pa_cons (pv 1) (pa_cons (C8.pe_c c_law_digit hr (by decide) (by rfl) (pa_cons (pv 0) (pa_cons (pe_op op_add (pv 2) pe_int) pa_nil))) (pa_cons (pv 4) pa_nil))))))
      (pss_cons (ps_set (i := 6) sc_law_lane.nd rfl (Or.inl rfl) (pe_callBK (cr_maxD rfl) (by rfl) T.m_max (by decide +kernel) (pa_cons (pe_lc (own := [("_law_leaf_here", 7)]) rfl sc_law_lane.nd (pi_list (pv 5)) (blkOk_by (N := N_law_lane) (sc := defScope s_law_lane) (by decide +kernel)) (fun _ _ _ _ _ => (pg_name (i := 7) sc_law_lane.nd rfl (Or.inl rfl) (Or.inr rfl))) (fun _ _ _ _ _ => pts_nil) (fun _ _ _ _ _ => (pe_op op_add (pe_ix (ix_tupK (K0 := K) rfl) (pv 7) pe_int (fun _ _ => rfl)) (pe_ix (ix_tupK (K0 := K) rfl) (pv 7) pe_int (fun _ _ => rfl))))) pa_nil) (pk_cons pe_int pk_nil)))
      (pss_one (ps_ret (pe_tup (pa_cons (pv 3) (pa_cons (pv 5) (pa_cons (C8.pe_c c_law_lane_edits hr (by decide) (by rfl) (pa_cons (pv 0) (pa_cons (pv 3) (pa_cons (pv 6) pa_nil)))) pa_nil)))))))))), ?_⟩)
  · obtain ⟨F, s, wd, rfl, _⟩ := h
    rfl
  · obtain ⟨F, s0, wd, rfl, sF, hFs, st, hw, q⟩ := h
    have p6 : ((10 : Int) ^ (6 : Int).toNat) = 1000000 := by decide
    have p5 : ((10 : Int) ^ (5 : Int).toNat) = 100000 := by decide
    refine ⟨_, rfl, _, _, rfl, rfl, ⟨by decide, by decide, by decide⟩, F, s0, _, rfl, sF, hFs, st, by rw [p6]; decide, by rw [p6]; decide, fun H1 r1 g1 st1 hr1 => ?_⟩
    rw [p6] at hr1
    refine ⟨_, _, rfl, rfl, by show 6 ≤ sizeLine; decide, fun e he => ?_⟩
    have g2 := g1.alloc (o := .lst [.int 1, .int 2, .int 3, .int 10, .int 1000, .int (1 + (r1 : Int))]) he
    have nes := st_ne st1 he
    refine ⟨_, rfl, F, s0, 6, rfl, g2.sub, hFs, st1.upd he, by decide, by decide, fun H3 r3 g3 st3 hr3 => ?_⟩
    have g23 := g2.callM g3
    have he3 := g3.keepS (upd_same (H := H1) (a := e) (o := .lst [.int 1, .int 2, .int 3, .int 10, .int 1000, .int (1 + (r1 : Int))])) nes
    obtain ⟨un, hun, u0, u1⟩ := at6 (x := 1 + (r1 : Int)) hr3 (by omega) (by omega)
    refine ⟨e, _, _, _, rfl, rfl, .inl (.inl he3), hun, ?_⟩
    refine ⟨_, rfl, _, _, rfl, rfl, ⟨by decide, by decide, by decide⟩, F, s0, _, rfl, g23.sub, hFs, st3, by rw [p5]; decide, by rw [p5]; decide, fun H4 r4 g4 st4 hr4 => ?_⟩
    rw [p5] at hr4
    refine ⟨_, _, rfl, rfl, by show 3 ≤ sizeLine; decide, fun e2 he2 => ?_⟩
    have g5 := (g23.callM g4).alloc (o := .lst [.int 1, .int 1, .int (1 + (r4 : Int))]) he2
    have nes2 := st_ne st4 he2
    refine ⟨_, rfl, F, s0, 3, rfl, g5.sub, hFs, st4.upd he2, by decide, by decide, fun H6 r6 g6 st6 hr6 => ?_⟩
    have g56 := g5.callM g6
    have he6 := g6.keepS (upd_same (H := H4) (a := e2) (o := .lst [.int 1, .int 1, .int (1 + (r4 : Int))])) nes2
    obtain ⟨sc, hsc, hscx⟩ := at3 (a := 1) (b := 1) (c := 1 + (r4 : Int)) hr6
    have hsc2 : 1 ≤ sc ∧ sc ≤ 100000 := by
      rcases hscx with rfl | rfl | rfl
      · decide
      · decide
      · omega
    refine ⟨e2, _, _, _, rfl, rfl, .inl (.inl he6), hsc, ?_⟩
    refine ⟨_, rfl, _, rfl, _, rfl, _, rfl, _, _, rfl, rfl, F, s0, _, rfl, g56.sub, hFs, st6, by decide, by decide, fun H7 r7 g7 st7 hr7 => ?_⟩
    have hr7' : (r7 : Int) < 6 := hr7
    refine ⟨_, rfl, F, s0, wd, r7, sc, rfl, (g56.callM g7).sub, hFs, st7, by omega, hw, hsc2, fun F8 H8 v8 ls g8 st8 hls hll hok => ?_⟩
    have g78 := (g56.callM g7).callM g8
    obtain ⟨lb, vs, rfl, t1, t2⟩ := hls.lstE
    have hvl := t2.len
    rw [List.length_map] at hvl
    refine ⟨_, rfl, lb, rfl, ⟨vs, g78.sub.seq t1⟩, fun D hD => ?_⟩
    refine lc_gw (M := []) (F1 := F8) (walk_list (xs := vs)) (fun _ => True) (fun i _ y => ∃ l, ls[i]? = some l ∧ y = .int (l.bg + l.sp)) g78.sub hD (by simp) (by omega) trivial (fun _ _ _ => trivial) (fun _ _ _ _ _ h => h) (fun H s => s.seq t1) ?_ ?_
    · rintro i y F9 H9 _ Q' hi sub fs9 _ ⟨rfl, hy⟩ k
      obtain ⟨d, hd, dp⟩ := (t2.up (fs9.trans sub)).at hy
      obtain ⟨l, hl, rfl⟩ := map_at hd
      obtain ⟨t, u, rfl, k1, k2⟩ := dp_leaf dp
      exact ⟨rfl, _, rfl, _, _, _, _, rfl, rfl, k1, rfl, _, rfl, _, _, _, _, rfl, rfl, k1, rfl, _, _, rfl, rfl, k _ F9 _ (Gw.refl sub) trivial ⟨l, hl, rfl⟩⟩
    · intro F9 H9 acc g9 fs9 _ hDa hFD hlen hres
      have e9 : acc = (ls.map fun l => l.bg + l.sp).map V.int := by
        apply List.ext_getElem?
        intro j
        rcases Nat.lt_or_ge j acc.length with z | z
        · obtain ⟨l, hl, e⟩ := hres j _ (List.getElem?_eq_getElem z)
          rw [List.getElem?_eq_getElem z, e, List.getElem?_map, List.getElem?_map, hl]
          rfl
        · rw [List.getElem?_eq_none z, List.getElem?_eq_none (by simp; omega)]
      rw [e9] at hDa
      refine ⟨D, _, 0, rfl, rfl, .inl (.inl hDa), fun m hm => ?_⟩
      have g99 := g78.call g9
      have st9 : StOk s0 H9 := by
        obtain ⟨ns, a, b⟩ := st8
        exact ⟨ns, g9.same _ _ a, b⟩
      have hm2 : 0 ≤ m ∧ m ≤ 4000000 := by
        rcases hm with hm | ⟨_, rfl⟩
        · obtain ⟨l, hl, rfl⟩ := List.mem_map.mp hm
          obtain ⟨j, hj⟩ := List.getElem?_of_mem hl
          have := (hok.leaf j l hj).1
          have := this.b0
          have := (hok.leaf j l hj).1.s0
          exact ⟨by omega, hok.ends l hl⟩
        · decide
      refine ⟨_, rfl, _, rfl, _, rfl, _, rfl, _, rfl, F9, s0, un, m, rfl, g99.sub, st.out g99 hFs, st9, ⟨u0, u1⟩, hm2, fun F10 H10 v10 es g10 st10 hes hel hek => ⟨by show 3 ≤ sizeLine; decide, fun tp htp => ?_⟩⟩
      have g11 := (g99.callM g10).frz (o := .tup [.int un, .ref lb, v10]) htp
      have s11 := same_new (o := .tup [.int un, .ref lb, v10]) ((g99.callM g10).ffresh htp)
      exact q _ _ _ ⟨un, ls, es⟩ g11 (st10.upd htp) (.tup (SqT.of upd_same) (.cons (.int _) (.cons (((hls.up fs9).up g10.fs).up s11) (.cons (hes.up s11) .nil)))) ⟨u0, u1, by show ls.length ≤ 5; omega, hok.leaf, hok.apart, hel, hek⟩
abbrev N_law_film : List Str := ["_law_cells", "_law_few", "_law_state", "_law_wide", "_law_lanes", "_law_cell"]
theorem sc_law_film : FnScope N_law_film ["_law_cells", "_law_few"] (defScope s_law_film) := ⟨rfl, rfl, rfl, by decide +kernel, rfl, by decide +kernel, by decide +kernel⟩
theorem ok_law_film (T : Ts K mg) (c_law_digit : C8.Cal P w K mg base 1 "_law_digit" sp_law_digit []) (c_law_lane : C8.Cal P w K mg base 5 "_law_lane" (sp_law_lane K) []) : C8.Cal P w K mg base 6 "_law_film" (sp_law_film K) [] := by
  refine cal_of T.f_law_film T.g_law_film sc_law_film (fun vs H Q E h => ?_) (fun _ _ _ _ _ _ us hl => match us, hl with | [_, _], _ => rfl) (fun cdv A outer s H vs Q E hr h => ⟨_, (pss_cons (ps_set (i := 2) sc_law_film.nd rfl (Or.inl rfl) (pe_lst (pa_cons (pe_ix ix_list (pv 0) pe_int (fun _ _ => rfl)) pa_nil)))
      (pss_cons (ps_set (i := 3) sc_law_film.nd rfl (Or.inr rfl) (pe_op op_add pe_int (C8.pe_c c_law_digit hr (by decide) (by rfl) (pa_cons (pv 2) (pa_cons pe_int pa_nil)))))
      (pss_cons (ps_setLc (i := 4) (own := [("_law_cell", 5)]) rfl sc_law_film.nd rfl rfl (sw_true rfl rfl rfl (by decide +kernel)) (pi_list (pe_slice sl_list (pv 0) (po_some pe_int) (po_some (pe_op op_add pe_int (C8.pe_c c_law_digit hr (by decide) (by rfl) (pa_cons (pv 2) (pa_cons pe_int pa_nil))))))) (blkOk_by (N := N_law_film) (sc := defScope s_law_film) (by decide +kernel)) (fun _ _ _ _ _ => (pg_name (i := 5) sc_law_film.nd rfl (Or.inl rfl) (Or.inr rfl))) (fun _ _ _ _ _ => pts_nil) (fun _ _ _ _ _ => (C8.pe_c c_law_lane hr (by decide) (by rfl) (pa_cons (pe_lst (pa_cons (pv 5) pa_nil)) (pa_cons (pv 3) (pa_cons (pv 1) pa_nil))))))
      (pss_one (ps_ret (pe_tup (pa_cons (C8.pe_c c_law_digit hr (by decide) (by rfl) (pa_cons (pv 2) (pa_cons (pe_op op_add (pe_op op_pow pe_int pe_int) pe_int) pa_nil))) (pa_cons (pv 3) (pa_cons (pv 4) pa_nil))))))))), ?_⟩)
  · obtain ⟨F, a, x, y, z, u, rfl, _⟩ := h
    rfl
  · obtain ⟨F, a, x, y, z, u, rfl, sF, hq, q⟩ := h
    refine ⟨_, rfl, a, _, _, _, rfl, rfl, sF.seq hq, rfl, by show 1 ≤ sizeLine; decide, fun s0 hs0 => ?_⟩
    have g0 := (Gw.refl (M := []) sF).alloc (o := .lst [.int x]) hs0
    have st0 : StOk s0 (upd H s0 (.lst [.int x])) := ⟨[x], upd_same, .inl rfl⟩
    have hFs := sF.free hs0
    have tr : ∀ {F1 H1 F2 H2 : Hp}, Gw [] F H F1 H1 → Gw [s0] F1 H1 F2 H2 → Gw [] F H F2 H2 := fun g g2 => g.trans g2 fun a ha => .inr (by rw [List.mem_singleton.mp ha]; exact hs0)
    refine ⟨_, rfl, F, s0, 4, rfl, g0.sub, hFs, st0, by decide, by decide, fun H1 r1 g1 st1 hr1 => ?_⟩
    have g01 := tr g0 g1
    refine ⟨_, _, rfl, rfl, ?_⟩
    refine ⟨_, rfl, 1, rfl, _, rfl, F, s0, 3, rfl, g01.sub, hFs, st1, by decide, by decide, fun H2 r2 g2 st2 hr2 => ?_⟩
    have g02 := tr g01 g2
    refine ⟨_, _, rfl, rfl, 2 + (r2 : Int), rfl, a, _, rfl, g02.sub.seq hq, fun cb hcb => ?_⟩
    have hcut : ∃ l : List Int, cutV [.int x, .int y, .int z, .int u] (some 1) (some (2 + (r2 : Int))) = l.map V.int ∧ 1 ≤ l.length ∧ l.length ≤ 3 := by
      have : r2 = 0 ∨ r2 = 1 ∨ r2 = 2 := by omega
      rcases this with rfl | rfl | rfl
      · exact ⟨[y], rfl, Nat.le_refl _, by simp⟩
      · exact ⟨[y, z], rfl, by simp, by simp⟩
      · exact ⟨[y, z, u], rfl, by simp, by simp⟩
    obtain ⟨cl, ecl, hcl1, hcl2⟩ := hcut
    have ecl : cutV [.int x, .int y, .int z, .int u] (some (1 : Int)) (some (2 + (r2 : Int))) = cl.map V.int := ecl
    have g3 := g02.frz (o := .lst (cl.map V.int)) hcb
    have st3 := st2.upd hcb (o := .lst (cl.map V.int))
    have s3 := same_new (o := .lst (cl.map V.int)) (g02.ffresh hcb)
    rw [ecl]
    have hw : 1 ≤ 1 + r1 ∧ 1 + r1 ≤ 4 := by omega
    refine ⟨cb, rfl, ⟨_, .inl (.inl upd_same)⟩, fun D hD => ?_⟩
    have neD := st_ne st3 hD
    have hFs3 := off_upd (o' := .lst (cl.map V.int)) st2.some.choose_spec hcb hFs
    refine lc_gwG (M := []) (F1 := upd F cb (.lst (cl.map V.int))) (walk_list (xs := cl.map V.int)) (fun _ => True) (fun i F' y => ∃ l : LaneD, Dp K F' y l.dat ∧ OkLane l (1 + r1)) g3.sub hD (by simp) (by rw [List.length_map]; omega) trivial (fun _ _ _ => trivial) (fun i F F' v s h => by
      obtain ⟨l, a, b⟩ := h
      exact ⟨l, a.up s, b⟩) (fun H s _ => .inl (.inl (s _ _ upd_same))) ?_ ?_
    · rintro i v F4 H4 _ Q' hi gw fs4 _ ⟨rfl, hy⟩ k
      obtain ⟨c, hc, rfl⟩ := map_at hy
      refine ⟨rfl, _, rfl, by show 1 ≤ sizeLine; decide, fun ns hns => ?_⟩
      have g5 := (Gw.refl (M := []) gw.sub).alloc (o := .lst [.int c]) hns
      refine ⟨_, rfl, _, rfl, F4, ns, 1 + r1, rfl, g5.sub, gw.sub.free hns, ⟨[c], upd_same, .inl rfl⟩, hw, fun F6 H6 v l g6 st6 hl hok => ?_⟩
      exact k v F6 H6 (g5.trans g6 fun a ha => .inr (by rw [List.mem_singleton.mp ha]; exact hns)) trivial ⟨l, hl, hok⟩
    · intro F4 H4 acc g4 fs4 _ hDa hFD hlen hres
      obtain ⟨ls, hls⟩ := exists_list (R := fun v (l : LaneD) => Dp K F4 v l.dat ∧ OkLane l (1 + r1)) hres
      rw [List.length_map] at hlen
      have hll : ls.length = cl.length := by rw [← hls.len, hlen]
      have g34 := (g3.call g4).hold hDa (g3.dom _ hD) hFD
      have st4 : StOk s0 H4 := by
        obtain ⟨ns, a, b⟩ := st3
        exact ⟨ns, g4.same _ _ a, b⟩
      have hFs4 : upd F4 D (.lst acc) s0 = none := by
        obtain ⟨o, ho⟩ := st3.some
        have h1 := g4.out ho hFs3
        rw [upd_ne neD.symm]
        exact h1
      have s45 := same_new (o := .lst acc) hFD
      have p9 : ((10 : Int) ^ (9 : Int).toNat) = 1000000000 := by decide
      refine ⟨_, rfl, _, _, rfl, rfl, ⟨by decide, by decide, by decide⟩, _, _, rfl, rfl, _, s0, _, rfl, g34.sub, hFs4, st4, by rw [p9]; decide, by rw [p9]; decide, fun H5 r5 g5 st5 hr5 => ?_⟩
      rw [p9] at hr5
      refine ⟨_, rfl, _, rfl, by show 3 ≤ sizeLine; decide, fun tp htp => ?_⟩
      have g6 := (tr g34 g5).frz (o := .tup [.int (r5 : Int), .int (1 + (r1 : Int)), .ref D]) htp
      have s6 := same_new (o := .tup [.int (r5 : Int), .int (1 + (r1 : Int)), .ref D]) ((tr g34 g5).ffresh htp)
      refine q _ _ _ ⟨(r5 : Int), 1 + r1, ls⟩ g6 (.tup (SqT.of upd_same) (.cons (.int _) (.cons (.int _) (.cons (.lst (.inl (.inl (s6 _ _ upd_same))) ?_) .nil)))) ⟨by show (0 : Int) ≤ (r5 : Int); omega, by show (r5 : Int) ≤ 1000000000; omega, hw.1, hw.2, by show 1 ≤ ls.length; omega, by show ls.length ≤ 3; omega, fun l hl => ?_⟩
      · refine DpAll_of (by rw [List.length_map, hls.len]) fun j y d e1 e2 => ?_
        obtain ⟨l, hl, rfl⟩ := map_at e2
        exact ((hls.rel j y l e1 hl).1.up s45).up s6
      · obtain ⟨j, hj⟩ := List.getElem?_of_mem hl
        obtain ⟨y, hy, _, b⟩ := hls.at2 hj
        exact b
end
end Sc

namespace Sc
open PySem PySem.Spec PyProof.Rows L2
/-- all rules of a body -/
def BodyD.rules (wd : Nat) : BodyD → List RuleD
  | .full vs => vs.map .plain
  | .still b => (List.range wd).map fun c => .moved b c 0
  | .woven rs => rs
theorem Fits.rules {l : LeafD} {n wd : Nat} (h : Fits l n wd) : (l.body.rules wd).length = wd ∧ ∀ c, c < wd → (l.body.rules wd)[c]? = l.body.rule c := by
  obtain ⟨bg, sp, body⟩ := l
  cases body with
  | full vs =>
    have h : vs.length = wd := h
    exact ⟨by show (vs.map _).length = wd; rw [List.length_map, h], fun c hc => List.getElem?_map ..⟩
  | still b =>
    refine ⟨by show ((List.range wd).map _).length = wd; simp, fun c hc => ?_⟩
    show ((List.range wd).map _)[c]? = _
    rw [List.getElem?_map, List.getElem?_range hc]
    rfl
  | woven rs =>
    have h : rs.length = wd ∧ _ := h
    exact ⟨h.1, fun c hc => rfl⟩
section
variable {P : Program} {w : World} {K : PySem.W.Frag} {mg : Str → Option Value} {base : Heap}
def sp_law_rules (K : PySem.W.Frag) : Sp := fun vs H Q _ => ∃ (F : Hp) (v : V) (l : LeafD) (n wd : Nat), vs = [v, .int (wd : Int)] ∧ Same F H ∧ Dp K F v l.dat ∧ OkL l ∧ Fits l n wd ∧ wd ≤ 4 ∧
  ∀ (F' H' : Hp) (u : V), Gw [] F H F' H' → Dp K F' u (.list ((l.body.rules wd).map RuleD.dat)) → Q u H'
abbrev N_law_rules : List Str := ["_law_leaf_here", "_law_wide", "_law_worth", "_law_cell"]
theorem sc_law_rules : FnScope N_law_rules ["_law_leaf_here", "_law_wide"] (defScope s_law_rules) := ⟨rfl, rfl, rfl, by decide +kernel, rfl, by decide +kernel, by decide +kernel⟩
theorem ok_law_rules (T : Ts K mg) : C8.Cal P w K mg base 1 "_law_rules" (sp_law_rules K) [] := by
  refine cal_of T.f_law_rules T.g_law_rules sc_law_rules (fun vs H Q E h => ?_) (fun _ _ _ _ _ _ us hl => match us, hl with | [_, _], _ => rfl) (fun cdv A outer s H vs Q E hr h => ⟨_, (pss_cons (ps_if (pt_cmpR op_eq (pe_ix ix_tup (pv 0) pe_int (fun _ _ => rfl)) pe_str (nomark _)) (pss_one (ps_ret (pe_lc (own := [("_law_worth", 2)]) rfl sc_law_rules.nd (pi_tup (pe_ix ix_tup (pv 0) pe_int (fun _ _ => rfl))) (blkOk_by (N := N_law_rules) (sc := defScope s_law_rules) (by decide +kernel)) (fun _ _ _ _ _ => (pg_name (i := 2) sc_law_rules.nd rfl (Or.inl rfl) (Or.inr rfl))) (fun _ _ _ _ _ => pts_nil) (fun _ _ _ _ _ => (pe_tup (pa_cons pe_str (pa_cons (pv 2) pa_nil))))))) pss_nil)
      (pss_cons (ps_if (pt_cmpR op_eq (pe_ix ix_tup (pv 0) pe_int (fun _ _ => rfl)) pe_str (nomark _)) (pss_one (ps_ret (pe_lc (own := [("_law_cell", 3)]) rfl sc_law_rules.nd (pi_range1 (by rfl) T.m_range (pa_cons (pv 1) pa_nil)) (blkOk_by (N := N_law_rules) (sc := defScope s_law_rules) (by decide +kernel)) (fun _ _ _ _ _ => (pg_name (i := 3) sc_law_rules.nd rfl (Or.inl rfl) (Or.inr rfl))) (fun _ _ _ _ _ => pts_nil) (fun _ _ _ _ _ => (pe_tup (pa_cons pe_str (pa_cons (pe_ix (ix_tupK (K0 := K) rfl) (pv 0) pe_int (fun _ _ => rfl)) (pa_cons (pv 3) (pa_cons pe_int pa_nil))))))))) pss_nil)
      (pss_one (ps_ret (pe_callTy call_list_of (by rfl) T.m_list (by decide +kernel) (pa_cons (pe_ix ix_tup (pv 0) pe_int (fun _ _ => rfl)) pa_nil)))))), ?_⟩)
  · obtain ⟨F, v, l, n, wd, rfl, _⟩ := h
    rfl
  · obtain ⟨F, v, l, n, wd, rfl, sF, hv, okl, ft, hw, q⟩ := h
    obtain ⟨t, u, rfl, t1, t2⟩ := dp_leaf hv
    have t1' := Same.tup sF t1
    obtain ⟨bg, sp, body⟩ := l
    cases body with
    | full ns =>
      have hl : ns.length = wd := ft
      obtain ⟨b, xs, rfl, k1, k2⟩ := t2.tupE
      obtain rfl := k2.intsE
      refine ⟨_, rfl, _, _, _, _, rfl, rfl, t1', rfl, rfl, true, rfl, iteT ?_⟩
      refine ⟨_, rfl, _, _, _, _, rfl, rfl, t1', rfl, b, rfl, ⟨_, Same.tup sF k1⟩, fun D hD => ?_⟩
      refine lc_gw (M := []) (F1 := F) (walk_tup (xs := ns.map V.int)) (fun _ => True) (fun i F' y => ∃ x, ns[i]? = some x ∧ Dp K F' y (RuleD.dat (.plain x))) sF hD (by simp) (by rw [List.length_map]; omega) trivial (fun _ _ _ => trivial) (fun i F F' v s h => by
        obtain ⟨x, a, b⟩ := h
        exact ⟨x, a, b.up s⟩) (fun H s => Same.tup s k1) ?_ ?_
      · rintro i y F2 H2 _ Q' hi sub fs2 _ ⟨rfl, hy⟩ k
        obtain ⟨x, hx, rfl⟩ := map_at hy
        refine ⟨rfl, _, rfl, by show 2 ≤ sizeLine; decide, fun tp htp => ?_⟩
        exact k _ _ _ ((Gw.refl (M := []) sub).frz htp) trivial ⟨x, hx, .tup (SqT.of upd_same) (.cons (.str _) (.cons (.int _) .nil))⟩
      · intro F2 H2 acc g2 fs2 _ hDa hFD hlen hres
        rw [List.length_map] at hlen
        refine q _ _ _ (((Gw.refl (M := []) sF).call g2).hold hDa hD hFD) (.lst (.inl (.inl upd_same)) ?_)
        refine DpAll_of (by show acc.length = ((ns.map RuleD.plain).map RuleD.dat).length; simp [hlen]) fun j y d e1 e2 => ?_
        obtain ⟨x, hx, r⟩ := hres j y e1
        have e2 : ((ns.map RuleD.plain).map RuleD.dat)[j]? = some d := e2
        rw [List.getElem?_map, List.getElem?_map, hx] at e2
        cases e2
        exact r.up (same_new hFD)
    | still b =>
      obtain rfl := t2.intE
      refine ⟨_, rfl, _, _, _, _, rfl, rfl, t1', rfl, rfl, false, rfl, iteF ?_⟩
      refine ⟨_, rfl, _, _, _, _, rfl, rfl, t1', rfl, rfl, true, rfl, iteT ?_⟩
      refine ⟨_, rfl, (wd : Int), rfl, by omega, by omega, fun D hD => ?_⟩
      refine lc_gw (M := []) (F1 := F) (walk_range (lo := 0) (n := ((wd : Nat) : Int).toNat)) (fun _ => True) (fun i F' y => Dp K F' y (RuleD.dat (.moved b i 0))) sF hD (by simp) (by omega) trivial (fun _ _ _ => trivial) (fun i F F' v s h => h.up s) (fun _ _ => trivial) ?_ ?_
      · rintro i y F2 H2 _ Q' hi sub fs2 _ ⟨rfl, hy⟩ k
        obtain rfl : y = .int (i : Int) := hy.trans (congrArg V.int (Int.zero_add _))
        refine ⟨rfl, _, rfl, _, _, _, _, rfl, rfl, Same.tup (fs2.trans sub) t1, rfl, _, rfl, by show 4 ≤ sizeLine; decide, fun tp htp => ?_⟩
        exact k _ _ _ ((Gw.refl (M := []) sub).frz htp) trivial (.tup (SqT.of upd_same) (.cons (.str _) (.cons (.int _) (.cons (.int _) (.cons (.int _) .nil)))))
      · intro F2 H2 acc g2 fs2 _ hDa hFD hlen hres
        refine q _ _ _ (((Gw.refl (M := []) sF).call g2).hold hDa hD hFD) (.lst (.inl (.inl upd_same)) ?_)
        refine DpAll_of (by show acc.length = (((List.range wd).map fun c => RuleD.moved b c 0).map RuleD.dat).length; rw [hlen]; simp) fun j y d e1 e2 => ?_
        have e2 : (((List.range wd).map fun c => RuleD.moved b c 0).map RuleD.dat)[j]? = some d := e2
        have hj := (List.getElem?_eq_some_iff.mp e1).1
        rw [List.getElem?_map, List.getElem?_map, List.getElem?_range (by rw [hlen] at hj; simpa using hj)] at e2
        cases e2
        exact (hres j y e1).up (same_new hFD)
    | woven rs =>
      obtain ⟨b, xs, rfl, k1, k2⟩ := t2.tupE
      refine ⟨_, rfl, _, _, _, _, rfl, rfl, t1', rfl, rfl, false, rfl, iteF ?_⟩
      refine ⟨_, rfl, _, _, _, _, rfl, rfl, t1', rfl, rfl, false, rfl, iteF ?_⟩
      refine ⟨_, rfl, _, _, _, _, rfl, rfl, t1', rfl, b, xs, rfl, .inr (Same.tup sF k1), fun l1 hl1 => ?_⟩
      exact q _ _ _ ((Gw.refl (M := []) sF).frz hl1) (.lst (.inl (.inl upd_same)) (k2.up (same_new (sF.free hl1))))
def sp_law_needs (K : PySem.W.Frag) : Sp := fun vs H Q _ => ∃ (F : Hp) (v : V) (r : RuleD) (n : Nat), vs = [v, .int (n : Int)] ∧ Same F H ∧ Dp K F v r.dat ∧ (∀ p, p ∈ r.needs → p.1 ≤ n) ∧
  ∀ (F' H' : Hp) (b : Addr) (zs : List V), Gw [] F H F' H' → F' b = some (.lst zs) → Al (PairAt F') zs (r.needs.map fun p : Nat × Nat => (n - p.1, p.2)) → Q (.ref b) H'
theorem dp_rule {H : Hp} {v : V} {r : RuleD} (h : Dp K H v r.dat) : ∃ t xs, v = .ref t ∧ SqT K H t xs ∧ match r with
    | .plain w => xs = [.str "plain", .int w]
    | .moved b c a => xs = [.str "moved", .int (b : Int), .int (c : Int), .int a]
    | .mixed b c ob oc => xs = [.str "mixed", .int (b : Int), .int (c : Int), .int (ob : Int), .int (oc : Int)] := by
  cases r with
  | plain x =>
    obtain ⟨t, xs, rfl, h1, h2⟩ := h.tupE
    obtain ⟨v1, _, rfl, e1, h2⟩ := h2.consE
    obtain ⟨v2, _, rfl, e2, h2⟩ := h2.consE
    cases h2.nilE
    cases e1.strE
    cases e2.intE
    exact ⟨t, _, rfl, h1, rfl⟩
  | moved b c x =>
    obtain ⟨t, xs, rfl, h1, h2⟩ := h.tupE
    obtain ⟨v1, _, rfl, e1, h2⟩ := h2.consE
    obtain ⟨v2, _, rfl, e2, h2⟩ := h2.consE
    obtain ⟨v3, _, rfl, e3, h2⟩ := h2.consE
    obtain ⟨v4, _, rfl, e4, h2⟩ := h2.consE
    cases h2.nilE
    cases e1.strE
    cases e2.intE
    cases e3.intE
    cases e4.intE
    exact ⟨t, _, rfl, h1, rfl⟩
  | mixed b c ob oc =>
    obtain ⟨t, xs, rfl, h1, h2⟩ := h.tupE
    obtain ⟨v1, _, rfl, e1, h2⟩ := h2.consE
    obtain ⟨v2, _, rfl, e2, h2⟩ := h2.consE
    obtain ⟨v3, _, rfl, e3, h2⟩ := h2.consE
    obtain ⟨v4, _, rfl, e4, h2⟩ := h2.consE
    obtain ⟨v5, _, rfl, e5, h2⟩ := h2.consE
    cases h2.nilE
    cases e1.strE
    cases e2.intE
    cases e3.intE
    cases e4.intE
    cases e5.intE
    exact ⟨t, _, rfl, h1, rfl⟩
abbrev N_law_needs : List Str := ["_law_rule_here", "_law_number"]
theorem sc_law_needs : FnScope N_law_needs ["_law_rule_here", "_law_number"] (defScope s_law_needs) := ⟨rfl, rfl, rfl, by decide +kernel, rfl, by decide +kernel, by decide +kernel⟩
theorem ok_law_needs (T : Ts K mg) : C8.Cal P w K mg base 1 "_law_needs" (sp_law_needs K) [] := by
  refine cal_of T.f_law_needs T.g_law_needs sc_law_needs (fun vs H Q E h => ?_) (fun _ _ _ _ _ _ us hl => match us, hl with | [_, _], _ => rfl) (fun cdv A outer s H vs Q E hr h => ⟨_, (pss_cons (ps_if (pt_cmpR op_eq (pe_ix ix_tup (pv 0) pe_int (fun _ _ => rfl)) pe_str (nomark _)) (pss_one (ps_ret (pe_lst pa_nil))) pss_nil)
      (pss_cons (ps_if (pt_cmpR op_eq (pe_ix ix_tup (pv 0) pe_int (fun _ _ => rfl)) pe_str (nomark _)) (pss_one (ps_ret (pe_lst (pa_cons (pe_tup (pa_cons (pe_op op_sub (pv 1) (pe_ix ix_tup (pv 0) pe_int (fun _ _ => rfl))) (pa_cons (pe_ix ix_tup (pv 0) pe_int (fun _ _ => rfl)) pa_nil))) pa_nil)))) pss_nil)
      (pss_one (ps_ret (pe_lst (pa_cons (pe_tup (pa_cons (pe_op op_sub (pv 1) (pe_ix ix_tup (pv 0) pe_int (fun _ _ => rfl))) (pa_cons (pe_ix ix_tup (pv 0) pe_int (fun _ _ => rfl)) pa_nil))) (pa_cons (pe_tup (pa_cons (pe_op op_sub (pv 1) (pe_ix ix_tup (pv 0) pe_int (fun _ _ => rfl))) (pa_cons (pe_ix ix_tup (pv 0) pe_int (fun _ _ => rfl)) pa_nil))) pa_nil))))))), ?_⟩)
  · obtain ⟨F, v, r, n, rfl, _⟩ := h
    rfl
  · obtain ⟨F, v, r, n, rfl, sF, hv, hn, q⟩ := h
    obtain ⟨t, xs, rfl, t1, e⟩ := dp_rule hv
    have g0 := Gw.refl (M := []) sF
    cases r with
    | plain x =>
      have e : xs = _ := e
      subst e
      have t1' := Same.tup sF t1
      refine ⟨_, rfl, _, _, _, _, rfl, rfl, t1', rfl, rfl, true, rfl, iteT ⟨by decide, fun p hp => ?_⟩⟩
      exact q _ _ _ _ (g0.frz hp) upd_same .nil
    | moved b c x =>
      have e : xs = _ := e
      subst e
      have t1' := Same.tup sF t1
      have hb : b ≤ n := hn (b, c) (by simp [RuleD.needs])
      refine ⟨_, rfl, _, _, _, _, rfl, rfl, t1', rfl, rfl, false, rfl, iteF ?_⟩
      refine ⟨_, rfl, _, _, _, _, rfl, rfl, t1', rfl, rfl, true, rfl, iteT ?_⟩
      refine ⟨_, rfl, _, rfl, _, _, _, _, rfl, rfl, t1', rfl, _, _, rfl, rfl, _, rfl, _, _, _, _, rfl, rfl, t1', rfl, by show 2 ≤ sizeLine; decide, fun p hp => ⟨by show 1 ≤ sizeLine; decide, fun p2 hp2 => ?_⟩⟩
      have g1 := g0.frz (o := .tup [.int ((n : Int) - (b : Int)), .int (c : Int)]) hp
      refine q _ _ _ _ (g1.frz hp2) upd_same (Al.nil.snoc ⟨p, rfl, ?_⟩)
      have e : ((n - b : Nat) : Int) = (n : Int) - (b : Int) := Int.ofNat_sub hb
      show _ = some (HO.tup [.int ((n - b : Nat) : Int), .int (c : Int)])
      rw [e]
      exact same_new (g1.ffresh hp2) _ _ upd_same
    | mixed b c ob oc =>
      have e : xs = _ := e
      subst e
      have t1' := Same.tup sF t1
      have hb : b ≤ n := hn (b, c) (by simp [RuleD.needs])
      have hob : ob ≤ n := hn (ob, oc) (by simp [RuleD.needs])
      refine ⟨_, rfl, _, _, _, _, rfl, rfl, t1', rfl, rfl, false, rfl, iteF ?_⟩
      refine ⟨_, rfl, _, _, _, _, rfl, rfl, t1', rfl, rfl, false, rfl, iteF ?_⟩
      refine ⟨_, rfl, _, rfl, _, _, _, _, rfl, rfl, t1', rfl, _, _, rfl, rfl, _, rfl, _, _, _, _, rfl, rfl, t1', rfl, by show 2 ≤ sizeLine; decide, fun p hp => ?_⟩
      have g1 := g0.frz (o := .tup [.int ((n : Int) - (b : Int)), .int (c : Int)]) hp
      have t2' := Same.tup (same_new (o := .tup [.int ((n : Int) - (b : Int)), .int (c : Int)]) hp) t1'
      refine ⟨_, rfl, _, rfl, _, _, _, _, rfl, rfl, t2', rfl, _, _, rfl, rfl, _, rfl, _, _, _, _, rfl, rfl, t2', rfl, by show 2 ≤ sizeLine; decide, fun p2 hp2 => ⟨by show 2 ≤ sizeLine; decide, fun p3 hp3 => ?_⟩⟩
      have g2 := g1.frz (o := .tup [.int ((n : Int) - (ob : Int)), .int (oc : Int)]) hp2
      have g3 := g2.frz (o := .lst [.ref p, .ref p2]) hp3
      refine q _ _ _ _ g3 upd_same ((Al.nil.snoc (x := V.ref p) (y := (n - b, c)) ⟨p, rfl, ?za⟩).snoc (x := V.ref p2) (y := (n - ob, oc)) ⟨p2, rfl, ?zb⟩)
      case za =>
        have e : ((n - b : Nat) : Int) = (n : Int) - (b : Int) := Int.ofNat_sub hb
        show _ = some (HO.tup [.int ((n - b : Nat) : Int), .int (c : Int)])
        rw [e]
        exact same_new (g2.ffresh hp3) _ _ (same_new (g1.ffresh hp2) _ _ upd_same)
      case zb =>
        have e : ((n - ob : Nat) : Int) = (n : Int) - (ob : Int) := Int.ofNat_sub hob
        show _ = some (HO.tup [.int ((n - ob : Nat) : Int), .int (oc : Int)])
        rw [e]
        exact same_new (g2.ffresh hp3) _ _ upd_same
end
end Sc

namespace Sc
open PySem PySem.Spec PyProof.Rows L2
theorem OkB.pos {b : BodyD} {c : Nat} {r : RuleD} (h : OkB b) (e : b.rule c = some r) : ∀ q, q ∈ r.needs → 1 ≤ q.1 := by
  cases b with
  | full vs =>
    have e : (vs[c]?).map RuleD.plain = some r := e
    cases e2 : vs[c]? with
    | none => rw [e2] at e; cases e
    | some x =>
      rw [e2] at e
      cases e
      intro q hq
      cases hq
  | still b =>
    cases e
    intro q hq
    have : q = (b, c) := by simpa [RuleD.needs] using hq
    rw [this]
    exact h.1
  | woven rs =>
    have hr := h.2 r (List.mem_of_getElem? (show rs[c]? = some r from e))
    intro q hq
    cases r with
    | plain _ => cases hq
    | moved b c a =>
      have : q = (b, c) := by simpa [RuleD.needs] using hq
      rw [this]
      exact hr.1.1
    | mixed b c ob oc =>
      have : q = (b, c) ∨ q = (ob, oc) := by simpa [RuleD.needs] using hq
      rcases this with z | z <;> rw [z]
      · exact hr.1.1
      · exact hr.2.1
theorem OkLs.strict {ls : List LeafD} {wd : Nat} (ok : OkLs ls wd) {p r : Nat × Nat} (h1 : p.1 < ls.length) (h2 : p.2 < wd) (h : r ∈ cellNeeds ls p) : r.1 < p.1 ∧ r.2 < wd := by
  obtain ⟨l, ru, _, okl, hr, hn, e⟩ := ok.rule h1 h2
  rw [e] at h
  obtain ⟨q, hq, rfl⟩ := List.mem_map.mp h
  have a := okl.body.pos hr q hq
  have b := hn q hq
  exact ⟨by show p.1 - q.1 < p.1; omega, b.2⟩
theorem hang_first {ls : List LeafD} {A j m c' : Nat} (h : m < A) : Hang ls (A, j) (m, c') ↔ ∃ r, r ∈ cellNeeds ls (A, j) ∧ Hang ls r (m, c') := by
  constructor
  · intro hg
    cases hg with
    | refl => omega
    | step a b => exact ⟨_, a, b⟩
  · rintro ⟨r, a, b⟩
    exact .step a b
/-- seen: the cells of the leaves below A, and of A's below j -/
def Seen (A j : Nat) (q : Nat × Nat) : Prop := q.1 < A ∨ (q.1 = A ∧ q.2 < j)
structure BD (ls : List LeafD) (wd m A j : Nat) (ks : List (Nat × Nat)) (x : Int) : Prop where
  nd : ks.Nodup
  mem : ∀ q, q ∈ ks ↔ (q.1 < ls.length ∧ q.2 < wd ∧ Seen A j q ∧ ∃ c', Hang ls q (m, c'))
  is : ∃ (q : Nat × Nat) (l : LeafD), q ∈ ks ∧ ls[q.1]? = some l ∧ x = l.bg
  le : ∀ (q : Nat × Nat) (l : LeafD), q ∈ ks → ls[q.1]? = some l → x ≤ l.bg
theorem BD.start {ls : List LeafD} {wd m : Nat} {l : LeafD} {ks : List (Nat × Nat)} (ok : OkLs ls wd) (hl : ls[m]? = some l) (nd : ks.Nodup) (hk : ∀ q, q ∈ ks ↔ q.1 = m ∧ q.2 < wd) : BD ls wd m (m + 1) 0 ks l.bg := by
  have hm := (List.getElem?_eq_some_iff.mp hl).1
  have w0 := ok.w0
  refine ⟨nd, fun q => ?_, ⟨(m, 0), l, (hk _).mpr ⟨rfl, by show 0 < wd; omega⟩, hl, rfl⟩, fun q l' hq e => ?_⟩
  · rw [hk q]
    constructor
    · rintro ⟨a, b⟩
      refine ⟨by omega, b, .inl (by omega), q.2, ?_⟩
      have : (m, q.2) = q := Prod.ext a.symm rfl
      rw [this]
      exact .refl q
    · rintro ⟨a, b, c, c', hg⟩
      have := (hg.in ok a b).1
      rcases c with c | ⟨c, d⟩
      · exact ⟨by show q.1 = m; have : m ≤ q.1 := this; omega, b⟩
      · omega
  · obtain ⟨a, _⟩ := (hk q).mp hq
    rw [a, hl] at e
    cases e
    exact Int.le_refl _
/-- the next cell hangs, or not -/
theorem BD.yes {ls : List LeafD} {wd m A j : Nat} {ks : List (Nat × Nat)} {x : Int} {l : LeafD} (h : BD ls wd m A j ks x) (hA : ls[A]? = some l) (hj : j < wd) (hh : ∃ c', Hang ls (A, j) (m, c')) : BD ls wd m A (j + 1) (ks ++ [(A, j)]) (if l.bg < x then l.bg else x) := by
  have hAl := (List.getElem?_eq_some_iff.mp hA).1
  have nin : (A, j) ∉ ks := fun z => by
    obtain ⟨_, _, s, _⟩ := (h.mem _).mp z
    rcases s with s | ⟨_, s⟩
    · exact Nat.lt_irrefl _ s
    · exact Nat.lt_irrefl _ s
  refine ⟨List.nodup_append.mpr ⟨h.nd, by simp, ?_⟩, fun q => ?_, ?_, fun q l' hq e => ?_⟩
  · intro a ha b hb e
    rw [List.mem_singleton.mp hb] at e
    rw [e] at ha
    exact nin ha
  · rw [List.mem_append, List.mem_singleton, h.mem q]
    constructor
    · rintro (⟨a, b, c, d⟩ | rfl)
      · refine ⟨a, b, ?_, d⟩
        rcases c with c | ⟨c, e⟩
        · exact .inl c
        · exact .inr ⟨c, by omega⟩
      · exact ⟨hAl, hj, .inr ⟨rfl, Nat.lt_succ_self _⟩, hh⟩
    · rintro ⟨a, b, c, d⟩
      rcases c with c | ⟨c, e⟩
      · exact .inl ⟨a, b, .inl c, d⟩
      · rcases Nat.lt_or_ge q.2 j with z | z
        · exact .inl ⟨a, b, .inr ⟨c, z⟩, d⟩
        · exact .inr (Prod.ext c (by show q.2 = j; omega))
  · by_cases c : l.bg < x
    · rw [if_pos c]
      exact ⟨(A, j), l, by simp, hA, rfl⟩
    · rw [if_neg c]
      obtain ⟨q, l', a, b, d⟩ := h.is
      exact ⟨q, l', List.mem_append_left _ a, b, d⟩
  · have : (if l.bg < x then l.bg else x) ≤ x ∧ (if l.bg < x then l.bg else x) ≤ l.bg := by
      by_cases c : l.bg < x
      · rw [if_pos c]; omega
      · rw [if_neg c]; omega
    rcases List.mem_append.mp hq with z | z
    · have := h.le q l' z e
      omega
    · rw [List.mem_singleton.mp z] at e
      have e : ls[A]? = some l' := e
      rw [hA] at e
      cases e
      exact this.2
theorem BD.no {ls : List LeafD} {wd m A j : Nat} {ks : List (Nat × Nat)} {x : Int} (h : BD ls wd m A j ks x) (hh : ¬ ∃ c', Hang ls (A, j) (m, c')) : BD ls wd m A (j + 1) ks x := by
  refine ⟨h.nd, fun q => ?_, h.is, h.le⟩
  rw [h.mem q]
  constructor
  · rintro ⟨a, b, c, d⟩
    refine ⟨a, b, ?_, d⟩
    rcases c with c | ⟨c, e⟩
    · exact .inl c
    · exact .inr ⟨c, by omega⟩
  · rintro ⟨a, b, c, d⟩
    refine ⟨a, b, ?_, d⟩
    rcases c with c | ⟨c, e⟩
    · exact .inl c
    · rcases Nat.lt_or_ge q.2 j with z | z
      · exact .inr ⟨c, z⟩
      · have : q = (A, j) := Prod.ext c (by show q.2 = j; omega)
        rw [this] at d
        exact absurd d hh
theorem BD.next {ls : List LeafD} {wd m A : Nat} {ks : List (Nat × Nat)} {x : Int} (h : BD ls wd m A wd ks x) : BD ls wd m (A + 1) 0 ks x := by
  refine ⟨h.nd, fun q => ?_, h.is, h.le⟩
  rw [h.mem q]
  constructor
  · rintro ⟨a, b, c, d⟩
    refine ⟨a, b, .inl ?_, d⟩
    rcases c with c | ⟨c, e⟩ <;> omega
  · rintro ⟨a, b, c, d⟩
    refine ⟨a, b, ?_, d⟩
    rcases c with c | ⟨c, e⟩
    · rcases Nat.lt_or_ge q.1 A with z | z
      · exact .inl z
      · exact .inr ⟨by omega, b⟩
    · omega
theorem BD.due {ls : List LeafD} {wd m : Nat} {ks : List (Nat × Nat)} {x : Int} (h : BD ls wd m ls.length 0 ks x) : IsDue ls wd m x := by
  refine ⟨?_, fun n l e ⟨c, c', hc, hg⟩ => ?_⟩
  · obtain ⟨q, l, a, b, d⟩ := h.is
    obtain ⟨_, e, _, c', hg⟩ := (h.mem q).mp a
    exact ⟨q.1, l, b, ⟨q.2, c', e, hg⟩, d⟩
  · have hn := (List.getElem?_eq_some_iff.mp e).1
    exact h.le (n, c) l ((h.mem _).mpr ⟨hn, hc, .inl hn, c', hg⟩) e
theorem BD.few {ls : List LeafD} {wd m A j : Nat} {ks : List (Nat × Nat)} {x : Int} (h : BD ls wd m A j ks x) (ok : OkLs ls wd) : ks.length ≤ 20 := few_cells h.nd fun q hq => by
  obtain ⟨a, b, _⟩ := (h.mem q).mp hq
  have := ok.few
  have := ok.w1
  omega
/-- whether the next cell hangs, by the cells seen -/
theorem BD.test {ls : List LeafD} {wd m A j : Nat} {ks : List (Nat × Nat)} {x : Int} (h : BD ls wd m A j ks x) (ok : OkLs ls wd) (hA : A < ls.length) (hj : j < wd) (hm : m < A) : ((cellNeeds ls (A, j)).map fun r => decide (r ∈ ks)).any id = true ↔ ∃ c', Hang ls (A, j) (m, c') := by
  rw [List.any_eq_true]
  constructor
  · rintro ⟨b, hb, e⟩
    obtain ⟨r, hr, rfl⟩ := List.mem_map.mp hb
    have hk : r ∈ ks := by simpa using e
    obtain ⟨_, _, _, c', hg⟩ := (h.mem r).mp hk
    exact ⟨c', .step hr hg⟩
  · rintro ⟨c', hg⟩
    obtain ⟨r, a, b⟩ := (hang_first hm).mp hg
    obtain ⟨s1, s2⟩ := ok.strict (p := (A, j)) hA hj a
    have s1 : r.1 < A := s1
    refine ⟨true, List.mem_map.mpr ⟨r, a, ?_⟩, rfl⟩
    rw [decide_eq_true]
    exact (h.mem r).mpr ⟨by omega, s2, .inl s1, c', b⟩
section
variable {P : Program} {w : World} {K : PySem.W.Frag} {mg : Str → Option Value} {base : Heap}
theorem exists_listI {α β : Type} : ∀ {R : Nat → α → β → Prop} {acc : List α}, (∀ (j : Nat) (y : α), acc[j]? = some y → ∃ r, R j y r) → ∃ rs : List β, rs.length = acc.length ∧ ∀ (j : Nat) (y : α) (r : β), acc[j]? = some y → rs[j]? = some r → R j y r
  | R, [], _ => ⟨[], rfl, fun j y r e => by simp at e⟩
  | R, a :: acc, h => by
    obtain ⟨r, hr⟩ := h 0 a rfl
    obtain ⟨rs, hl, hrs⟩ := exists_listI (R := fun j => R (j + 1)) (acc := acc) fun j y e => h (j + 1) y (by simpa using e)
    refine ⟨r :: rs, by simp [hl], fun i x y e1 e2 => ?_⟩
    cases i with
    | zero =>
      have e1 : a = x := by simpa using e1
      have e2 : r = y := by simpa using e2
      rw [← e1, ← e2]
      exact hr
    | succ i => exact hrs i x y (by simpa using e1) (by simpa using e2)
def sp_law_begin_due (K : PySem.W.Frag) : Sp := fun vs H Q _ => ∃ (F : Hp) (v : V) (ls : List LeafD) (wd m : Nat), vs = [v, .int (wd : Int), .int (m : Int)] ∧ Same F H ∧ Dp K F v (.list (ls.map LeafD.dat)) ∧ OkLs ls wd ∧ m < ls.length ∧
  ∀ (F' H' : Hp) (x : Int), Gw [] F H F' H' → IsDue ls wd m x → Q (.int x) H'
abbrev N_law_begin_due : List Str := ["_law_leaves_here", "_law_wide", "_law_number", "_law_hangs", "_law_found", "_law_at", "_law_cell", "_law_rule_here", "_law_pair"]
theorem sc_law_begin_due : FnScope N_law_begin_due ["_law_leaves_here", "_law_wide", "_law_number"] (defScope s_law_begin_due) := ⟨rfl, rfl, rfl, by decide +kernel, rfl, by decide +kernel, by decide +kernel⟩
theorem ok_law_begin_due (T : Ts K mg) (c_law_rules : C8.Cal P w K mg base 1 "_law_rules" (sp_law_rules K) []) (c_law_needs : C8.Cal P w K mg base 1 "_law_needs" (sp_law_needs K) []) : C8.Cal P w K mg base 2 "_law_begin_due" (sp_law_begin_due K) [] := by
  refine cal_of T.f_law_begin_due T.g_law_begin_due sc_law_begin_due (fun vs H Q E h => ?_) (fun _ _ _ _ _ _ us hl => match us, hl with | [_, _, _], _ => rfl) (fun cdv A outer s H vs Q E hr h => ⟨_, (pss_cons (ps_set (i := 3) sc_law_begin_due.nd rfl (Or.inr rfl) (pe_callTy (cr_dictT rfl (Nat.lt_of_le_of_lt (Nat.add_le_add_left (by decide) _) hr.units)) (by rfl) T.m_dict (by decide +kernel) (pa_cons (pe_lc (own := [("_law_cell", 6)]) rfl sc_law_begin_due.nd (pi_range1 (by rfl) T.m_range (pa_cons (pv 1) pa_nil)) (blkOk_by (N := N_law_begin_due) (sc := defScope s_law_begin_due) (by decide +kernel)) (fun _ _ _ _ _ => (pg_name (i := 6) sc_law_begin_due.nd rfl (Or.inl rfl) (Or.inr rfl))) (fun _ _ _ _ _ => pts_nil) (fun _ _ _ _ _ => (pe_tup (pa_cons (pe_tup (pa_cons (pv 2) (pa_cons (pv 6) pa_nil))) (pa_cons pe_bl pa_nil))))) pa_nil)))
      (pss_cons (ps_set (i := 4) sc_law_begin_due.nd rfl (Or.inl rfl) (pe_ix ix_tup (pe_ix ix_list (pv 0) (pv 2) (fun _ _ => rfl)) pe_int (fun _ _ => rfl)))
      (pss_cons (ps_for PassesOwn.never rfl (pi_range2 (by rfl) T.m_range (pa_cons (pe_op op_add (pv 2) pe_int) (pa_cons (pe_callB call_len (by rfl) T.m_len PySem.boot_len (pa_cons (pv 0) pa_nil)) pa_nil))) (pg_name (i := 5) sc_law_begin_due.nd rfl (Or.inl rfl)) (pss_one (ps_for PassesOwn.never rfl (pi_enum (by rfl) T.m_enumerate (pa_cons (C8.pe_c c_law_rules hr (by decide) (by rfl) (pa_cons (pe_ix ix_list (pv 0) (pv 5) (fun _ _ => rfl)) (pa_cons (pv 1) pa_nil))) pa_nil)) (pg_tup rfl (pgs_cons (pg_name (i := 6) sc_law_begin_due.nd rfl (Or.inl rfl)) (pgs_cons (pg_name (i := 7) sc_law_begin_due.nd rfl (Or.inl rfl)) pgs_nil))) (pss_one (ps_if (pt_val (pe_callB (cr_any rfl) (by rfl) T.m_any (by decide +kernel) (pa_cons (pe_lc (own := [("_law_pair", 8)]) rfl sc_law_begin_due.nd (pi_list (C8.pe_c c_law_needs hr (by decide) (by rfl) (pa_cons (pv 7) (pa_cons (pv 5) pa_nil)))) (blkOk_by (N := N_law_begin_due) (sc := defScope s_law_begin_due) (by decide +kernel)) (fun _ _ _ _ _ => (pg_name (i := 8) sc_law_begin_due.nd rfl (Or.inl rfl) (Or.inr rfl))) (fun _ _ _ _ _ => pts_nil) (fun _ _ _ _ _ => (pe_cmp (pc_din (hu_of hr) (pv 8) (pv 3))))) pa_nil))) (pss_cons (ps_dput (hu_of hr) (pv 3) (pe_tup (pa_cons (pv 5) (pa_cons (pv 6) pa_nil))) pe_bl rfl)
      (pss_one (ps_set (i := 4) sc_law_begin_due.nd rfl (Or.inl rfl) (pe_callB (call_min2 rfl) (by rfl) T.m_min (by decide +kernel) (pa_cons (pv 4) (pa_cons (pe_ix ix_tup (pe_ix ix_list (pv 0) (pv 5) (fun _ _ => rfl)) pe_int (fun _ _ => rfl)) pa_nil)))))) pss_nil)))))
      (pss_one (ps_ret (pv 4)))))), ?_⟩)
  · obtain ⟨F, v, ls, wd, m, rfl, _⟩ := h
    rfl
  · obtain ⟨F, v, ls, wd, m, rfl, sF, hv, ok, hm, q⟩ := h
    have w1 := ok.w1
    have few := ok.few
    obtain ⟨lb, vs, rfl, t1, t2⟩ := hv.lstE
    have hvl := t2.len
    rw [List.length_map] at hvl
    refine ⟨_, rfl, (wd : Int), rfl, by omega, by omega, fun D hD => ?_⟩
    refine lc_gw (M := []) (F1 := F) (walk_range (lo := 0) (n := ((wd : Nat) : Int).toNat)) (fun _ => True) (fun i F' y => ∃ a b, y = .ref b ∧ F' b = some (.tup [.ref a, .bl true]) ∧ F' a = some (.tup [.int (m : Int), .int (i : Int)])) sF hD (by simp) (by omega) trivial (fun _ _ _ => trivial) (fun i F F' v s h => by
      obtain ⟨a, b, e1, e2, e3⟩ := h
      exact ⟨a, b, e1, s _ _ e2, s _ _ e3⟩) (fun _ _ => trivial) ?_ ?_
    · rintro i y F2 H2 _ Q' hi sub fs2 _ ⟨rfl, hy⟩ k
      obtain rfl : y = .int (i : Int) := hy.trans (congrArg V.int (Int.zero_add _))
      refine ⟨rfl, _, rfl, _, rfl, by show 2 ≤ sizeLine; decide, fun a ha => ⟨by show 2 ≤ sizeLine; decide, fun b hb => ?_⟩⟩
      have g1 := (Gw.refl (M := []) sub).frz (o := .tup [.int (m : Int), .int (i : Int)]) ha
      exact k _ _ _ (g1.frz hb) trivial ⟨a, b, rfl, upd_same, same_new (g1.ffresh hb) _ _ upd_same⟩
    · intro F2 H2 acc g2 fs2 _ hDa hFD hlen hres
      have hwl : acc.length = wd := by rw [hlen]; simp
      obtain ⟨tl, htl, hrel⟩ := exists_listI (R := fun (j : Nat) (y : V) (x : TP) => y = .ref x.T ∧ F2 x.T = some (.tup [.ref x.B, x.v]) ∧ F2 x.B = some (.tup (x.k.map kV)) ∧ (x.k, x.v) = ent (m, j)) fun j y e => by
        obtain ⟨a, b, e1, e2, e3⟩ := hres j y e
        exact ⟨⟨b, a, (ent (m, j)).1, .bl true⟩, e1, e2, e3, rfl⟩
      have g0 := (Gw.refl (M := []) sF).call g2
      have eacc : acc = tl.map fun x => V.ref x.T := by
        apply List.ext_getElem?
        intro j
        rcases Nat.lt_or_ge j acc.length with z | z
        · have e1 := List.getElem?_eq_getElem z
          have e2 := List.getElem?_eq_getElem (show j < tl.length by omega)
          obtain ⟨a, _⟩ := hrel j _ _ e1 e2
          rw [e1, List.getElem?_map, e2, a]
          rfl
        · rw [List.getElem?_eq_none z, List.getElem?_eq_none (by rw [List.length_map]; omega)]
      have eent : (tl.map fun x => (x.k, x.v)) = ((List.range wd).map fun c => (m, c)).map ent := by
        apply List.ext_getElem?
        intro j
        rcases Nat.lt_or_ge j acc.length with z | z
        · have e1 := List.getElem?_eq_getElem z
          have e2 := List.getElem?_eq_getElem (show j < tl.length by omega)
          obtain ⟨_, _, _, a⟩ := hrel j _ _ e1 e2
          rw [List.getElem?_map, e2, List.getElem?_map, List.getElem?_map, List.getElem?_range (by omega)]
          exact congrArg some a
        · rw [List.getElem?_eq_none (by rw [List.length_map]; omega), List.getElem?_eq_none (by simp; omega)]
      have hnd : (((List.range wd).map fun c => (m, c))).Nodup := List.Pairwise.map _ (fun a b ne z => ne (Prod.mk.inj z).2) List.nodup_range
      refine ⟨D, tl, rfl, .inl (.inl (eacc ▸ hDa)), fun x hx => ?_, ?_, fun hd hhd => ?_⟩
      · obtain ⟨j, hj⟩ := List.getElem?_of_mem hx
        have hjl := (List.getElem?_eq_some_iff.mp hj).1
        obtain ⟨_, a, b, _⟩ := hrel j _ _ (List.getElem?_eq_getElem (show j < acc.length by omega)) hj
        exact ⟨g2.sub _ _ a, g2.sub _ _ b⟩
      · have e : tl.map TP.k = (((List.range wd).map fun c => (m, c)).map ent).map Prod.fst := by
          rw [← eent, List.map_map]
          rfl
        rw [e, List.map_map]
        exact List.Pairwise.map _ (fun a b ne z => ne (ent_inj z)) hnd
      rw [eent]
      have g3 := g0.alloc (o := .dT (((List.range wd).map fun c => (m, c)).map ent)) hhd
      have hhd0 := g0.dom _ hhd
      have hvm := List.getElem?_eq_getElem (show m < vs.length by omega)
      have hlm := List.getElem?_eq_getElem hm
      obtain ⟨d, hd2, dpm⟩ := t2.at hvm
      rw [List.getElem?_map, hlm] at hd2
      cases hd2
      obtain ⟨tm, um, etm, km, _⟩ := dp_leaf dpm
      rw [etm] at hvm
      refine ⟨_, rfl, _, rfl, lb, _, _, _, rfl, rfl, g3.sub.seq (fs2.seq t1), atI_nat hvm, _, _, _, _, rfl, rfl, Same.tup (fs2.trans g3.sub) km, rfl, ?_⟩
      refine ⟨_, rfl, _, _, rfl, rfl, _, rfl, _, _, rfl, .inl ⟨_, g3.sub.seq (fs2.seq t1), rfl⟩, _, _, rfl, ⟨by omega, by omega, by omega, by omega⟩, ?_⟩
      have hst : BD ls wd m (m + 1) 0 ((List.range wd).map fun c => (m, c)) ls[m].bg := BD.start ok hlm hnd fun q => by
        rw [List.mem_map]
        constructor
        · rintro ⟨c, hc, rfl⟩
          exact ⟨rfl, List.mem_range.mp hc⟩
        · rintro ⟨a, b⟩
          exact ⟨q.2, List.mem_range.mpr b, Prod.ext a.symm rfl⟩
      refine for_range (fun i σ H' => ∃ x5 x6 x7 F' ks x, σ = [some (.ref lb), some (.int (wd : Int)), some (.int (m : Int)), some (.ref hd), some (.int x), x5, x6, x7, none] ∧ Gw [] F H F' H' ∧ Same F2 F' ∧ H' hd = some (.dT (ks.map ent)) ∧ F' hd = none ∧ BD ls wd m (m + 1 + i) 0 ks x) ⟨none, none, none, F2, _, _, rfl, g3, Same.refl _, upd_same, g0.ffresh hhd, hst⟩ ?_ ?_
      · rintro i σ H4 hi ⟨x5, x6, x7, F4, ks, x, rfl, g4, s4, hh4, hF4, bd⟩
        have hA : m + 1 + i < ls.length := by omega
        show gName 5 (.int (((m : Int) + 1) + (i : Int))) _ _ _
        rw [show ((m : Int) + 1) + (i : Int) = ((m + 1 + i : Nat) : Int) by omega]
        generalize hAe : m + 1 + i = A at *
        have hlA := List.getElem?_eq_getElem hA
        obtain ⟨okA, ftA⟩ := ok.leaf _ _ hlA
        have hvA := List.getElem?_eq_getElem (show A < vs.length by omega)
        obtain ⟨d, hd2, dpA⟩ := t2.at hvA
        rw [List.getElem?_map, hlA] at hd2
        cases hd2
        have t1' := g4.sub.seq (s4.seq (fs2.seq t1))
        obtain ⟨hrl, hrc⟩ := ftA.rules
        refine ⟨_, rfl, _, rfl, lb, _, _, _, rfl, rfl, t1', atI_nat hvA, _, rfl, F4, _, ls[A], A, wd, rfl, g4.sub, dpA.up (fs2.trans s4), okA, ftA, w1, fun F5 H5 u g5 hu => ?_⟩
        obtain ⟨rb, rv, rfl, r1, r2⟩ := hu.lstE
        have hrvl := r2.len
        rw [List.length_map, hrl] at hrvl
        have hh5 := g5.same _ _ hh4
        have hF5 := g5.out hh4 hF4
        refine ⟨rb, rv, rfl, g5.sub.seq r1, ?_⟩
        refine for_it (walk_enum (xs := rv)) (fun j σ H' => ∃ x6 x7 F' ks x, σ = [some (.ref lb), some (.int (wd : Int)), some (.int (m : Int)), some (.ref hd), some (.int x), some (.int (A : Int)), x6, x7, none] ∧ Gw [] F H F' H' ∧ Same F5 F' ∧ H' hd = some (.dT (ks.map ent)) ∧ F' hd = none ∧ BD ls wd m A j ks x) ⟨x6, x7, F5, ks, x, rfl, g4.call g5, Same.refl _, hh5, hF5, bd⟩ ?_ ?_ ?_
        · rintro j σ H6 hj ⟨x6, x7, F6, ks, x, rfl, g6, s6, _⟩
          exact g6.sub.seq (s6.seq r1)
        · rintro j y σ H6 H7 hj ⟨x6, x7, F6, ks, x, rfl, g6, s6, hh6, hF6, bd⟩ ⟨tp, x', y', rfl, htp, rfl, e5, hy⟩
          cases e5
          have hjw : j < wd := by omega
          obtain ⟨d, hd3, dpr⟩ := r2.at hy
          obtain ⟨ru, hru, rfl⟩ := map_at hd3
          rw [hrc j hjw] at hru
          have g7 := g6.alloc (o := .tup [.int ((j : Nat) : Int), y']) htp
          have hh7 := keep_upd hh6 htp (o' := .tup [.int ((j : Nat) : Int), y'])
          obtain ⟨l2, ru2, e1, _, e2, hn, en⟩ := ok.rule (p := (A, j)) hA hjw
          have e1 : ls[A]? = some l2 := e1
          rw [hlA] at e1
          cases e1
          have e2 : ls[A].body.rule j = some ru2 := e2
          rw [hru] at e2
          cases e2
          refine ⟨_, _, rfl, SqT.of upd_same, rfl, _, _, rfl, _, _, rfl, rfl, ?_⟩
          refine ⟨_, rfl, _, rfl, F6, y', ru, A, rfl, g7.sub, dpr.up s6, fun p hp => (hn p hp).1, fun F8 H8 nb zs g8 hnb hzs => ?_⟩
          have g78 := g7.call g8
          have hh8 := g8.same _ _ hh7
          have hF8 := g8.out hh7 hF6
          have hzl := hzs.len
          rw [List.length_map] at hzl
          have hfw := ru.few
          refine ⟨nb, rfl, ⟨zs, .inl (.inl (g8.sub _ _ hnb))⟩, fun D2 hD2 => ?_⟩
          have nhd : hd ≠ D2 := ne_of_some hh8 hD2
          refine lc_gwI (M := []) (F1 := F8) (walk_list (xs := zs)) (fun H => H hd = some (.dT (ks.map ent))) (fun i _ y => ∃ r, (cellNeeds ls (A, j))[i]? = some r ∧ y = .bl (decide (r ∈ ks))) g8.sub hD2 (by simp) (by omega) hh8 (fun H o h => by rw [upd_ne nhd]; exact h) (fun _ _ _ _ _ h => h) (fun H s _ => .inl (.inl (s _ _ hnb))) ?_ ?_
          · rintro i y F9 H9 _ Q' hi sub fs9 hI ⟨rfl, hy2⟩ k
            obtain ⟨pr, hpr, b, rfl, hb⟩ := hzs.at1 hy2
            refine ⟨rfl, _, rfl, _, rfl, hd, _, rfl, DGet.t (k := (ent pr).1) hI (sub _ _ (fs9 _ _ hb)), ?_⟩
            rw [valV_ent]
            exact k _ F9 _ (Gw.refl sub) hI ⟨pr, by rw [en]; exact hpr, rfl⟩
          · intro F9 H9 acc2 g9 fs9 hI hDa9 hFD9 hlen9 hres9
            have e9 : acc2 = (((cellNeeds ls (A, j)).map fun r => decide (r ∈ ks)).map V.bl) := by
              apply List.ext_getElem?
              intro i
              rcases Nat.lt_or_ge i acc2.length with z | z
              · obtain ⟨r, hr, e⟩ := hres9 i _ (List.getElem?_eq_getElem z)
                rw [List.getElem?_eq_getElem z, e, List.getElem?_map, List.getElem?_map, hr]
                rfl
              · rw [List.getElem?_eq_none z, List.getElem?_eq_none (by rw [List.length_map, List.length_map, en, List.length_map]; omega)]
            rw [e9] at hDa9
            have g99 := g78.call g9
            have hF9 := g9.out hh8 hF8
            refine ⟨D2, _, rfl, .inl (.inl hDa9), ?_⟩
            have tst := bd.test ok hA hjw (by omega)
            by_cases c : (((cellNeeds ls (A, j)).map fun r => decide (r ∈ ks)).any id) = true
            · rw [c]
              refine ⟨_, rfl, iteT ?_⟩
              refine ⟨_, rfl, _, rfl, _, rfl, by show 2 ≤ sizeLine; decide, fun kp hkp => ?_⟩
              have g10 := g99.alloc (o := .tup [.int (A : Int), .int ((j : Nat) : Int)]) hkp
              have hh10 := keep_upd hI hkp (o' := .tup [.int (A : Int), .int ((j : Nat) : Int)])
              have kfew := bd.few ok
              refine ⟨hd, _, rfl, DPut.t (k := (ent (A, j)).1) hh10 upd_same (by rw [List.length_map]; exact lt_line (by omega)), ?_⟩
              have nin : (A, j) ∉ ks := fun z => by
                obtain ⟨_, _, s, _⟩ := (bd.mem _).mp z
                rcases s with s | ⟨_, s⟩
                · exact Nat.lt_irrefl _ s
                · exact Nat.lt_irrefl _ s
              rw [putK_ent nin]
              have g11 := g10.put (o' := .dT ((ks ++ [(A, j)]).map ent)) (.inl hhd0) hF9 hh10
              obtain ⟨tA, uA, etA, kA, _⟩ := dp_leaf dpA
              rw [etA] at hvA
              have sF9 := (((fs2.trans s4).trans g5.fs).trans s6).trans (g8.fs.trans fs9)
              have sall : Same F (upd (upd H9 kp (.tup [.int (A : Int), .int ((j : Nat) : Int)])) hd (.dT ((ks ++ [(A, j)]).map ent))) := sF9.trans g11.sub
              refine ⟨_, rfl, _, rfl, _, rfl, lb, _, _, _, rfl, rfl, sall.seq t1, atI_nat hvA, _, _, _, _, rfl, rfl, Same.tup sall kA, rfl, _, _, rfl, ?_⟩
              exact ⟨some (.int (j : Int)), some y', F9, ks ++ [(A, j)], _, rfl, g11, s6.trans (g8.fs.trans fs9), upd_same, hF9, bd.yes hlA hjw (tst.mp c)⟩
            · rw [Bool.eq_false_iff.mpr c]
              refine ⟨_, rfl, iteF ?_⟩
              exact ⟨some (.int (j : Int)), some y', F9, ks, x, rfl, g99, s6.trans (g8.fs.trans fs9), hI, hF9, bd.no fun z => c (tst.mpr z)⟩
        · rintro σ H6 ⟨x6, x7, F6, ks, x, rfl, g6, s6, hh6, hF6, bd⟩
          rw [hrvl] at bd
          refine ⟨_, x6, x7, F6, ks, x, rfl, g6, (s4.trans g5.fs).trans s6, hh6, hF6, ?_⟩
          have e : m + 1 + (i + 1) = A + 1 := by omega
          rw [e]
          exact bd.next
      · rintro σ H4 ⟨x5, x6, x7, F4, ks, x, rfl, g4, s4, hh4, hF4, bd⟩
        have e : m + 1 + (((vs.length : Nat) : Int) - ((m : Int) + 1)).toNat = ls.length := by omega
        have bd : BD ls wd m (m + 1 + (((vs.length : Nat) : Int) - ((m : Int) + 1)).toNat) 0 ks x := bd
        rw [e] at bd
        exact ⟨_, rfl, q F4 H4 x g4 bd.due⟩
end
end Sc

namespace Sc
open PySem PySem.Spec PyProof.Rows L2
theorem rgc {len many : Nat} (h : len ≤ 5) (h1 : 1 ≤ many) (h2 : many ≤ 4) : RgC 0 ((len : Nat) : Int) ((many : Nat) : Int) ((len + many - 1) / many) ∧ (len + many - 1) / many ≤ 5 ∧ ∀ i, i < (len + many - 1) / many → i * many < len := by
  have hl : len = 0 ∨ len = 1 ∨ len = 2 ∨ len = 3 ∨ len = 4 ∨ len = 5 := by omega
  have hm : many = 1 ∨ many = 2 ∨ many = 3 ∨ many = 4 := by omega
  refine ⟨?_, ?_, fun i hi => ?_⟩
  · rcases hl with rfl | rfl | rfl | rfl | rfl | rfl <;> rcases hm with rfl | rfl | rfl | rfl <;> exact ⟨by decide, by decide, by decide, by decide⟩
  · rcases hl with rfl | rfl | rfl | rfl | rfl | rfl <;> rcases hm with rfl | rfl | rfl | rfl <;> decide
  · rcases hl with rfl | rfl | rfl | rfl | rfl | rfl <;> rcases hm with rfl | rfl | rfl | rfl <;> simp at hi ⊢ <;> omega
theorem cutV_min {xs : List V} {a b : Nat} (h : a ≤ xs.length) : cutV xs (some (a : Int)) (some ((a : Int) + (b : Int))) = (xs.drop a).take (min b (xs.length - a)) := by
  unfold cutV
  rw [show ((a : Int) + (b : Int)) = ((a + b : Nat) : Int) by omega, HT.sIx_nat, HT.sIx_nat, Nat.min_eq_left h]
  congr 1
  omega
section
variable {P : Program} {w : World} {K : PySem.W.Frag} {mg : Str → Option Value} {base : Heap}
theorem dp_lane {H : Hp} {v : V} {l : LaneD} (h : Dp K H v l.dat) : ∃ t lv xs ed, v = .ref t ∧ SqT K H t [.int l.units, .ref lv, ed] ∧ SqL K H lv xs ∧ DpAll K H xs (l.leaves.map LeafD.dat) ∧ Dp K H (.ref lv) (.list (l.leaves.map LeafD.dat)) := by
  obtain ⟨t, ts, rfl, t1, t2⟩ := h.tupE
  obtain ⟨v1, _, rfl, e1, t2⟩ := t2.consE
  obtain ⟨v2, _, rfl, e2, t2⟩ := t2.consE
  obtain ⟨v3, _, rfl, e3, t2⟩ := t2.consE
  cases t2.nilE
  cases e1.intE
  obtain ⟨lv, xs, rfl, k1, k2⟩ := id e2.lstE
  exact ⟨t, lv, xs, _, rfl, t1, k1, k2, e2⟩
theorem dp_film {H : Hp} {v : V} {f : FilmD} (h : Dp K H v f.dat) : ∃ t lv xs, v = .ref t ∧ SqT K H t [.int f.sg, .int (f.wide : Int), .ref lv] ∧ SqL K H lv xs ∧ DpAll K H xs (f.lanes.map LaneD.dat) := by
  obtain ⟨t, ts, rfl, t1, t2⟩ := h.tupE
  obtain ⟨v1, _, rfl, e1, t2⟩ := t2.consE
  obtain ⟨v2, _, rfl, e2, t2⟩ := t2.consE
  obtain ⟨v3, _, rfl, e3, t2⟩ := t2.consE
  cases t2.nilE
  cases e1.intE
  cases e2.intE
  obtain ⟨lv, xs, rfl, k1, k2⟩ := e3.lstE
  exact ⟨t, lv, xs, rfl, t1, k1, k2⟩
def sp_law_runs (K : PySem.W.Frag) : Sp := fun vs H Q _ => ∃ (F : Hp) (v : V) (f : FilmD) (many : Nat), vs = [v, .int (many : Int)] ∧ Same F H ∧ Dp K F v f.dat ∧ OkFilm f ∧ (1 ≤ many ∧ many ≤ 4) ∧
  ∀ (F' H' : Hp) (b : Addr) (xs : List V) (ps : List PieceD), Gw [] F H F' H' → H' b = some (.lst xs) → F' b = none → H b = none → Al (fun v p => Dp K F' v (p.dat f)) xs ps → (∀ p, p ∈ ps → OkP f p) → ps.length ≤ 15 → Q (.ref b) H'
def sp_law_due (K : PySem.W.Frag) : Sp := fun vs H Q _ => ∃ (F : Hp) (v u : V) (f : FilmD) (p : PieceD), vs = [v, u] ∧ Same F H ∧ Dp K F v f.dat ∧ OkFilm f ∧ Dp K F u (p.dat f) ∧ OkP f p ∧
  ∀ (F' H' : Hp) (t : Addr), Gw [] F H F' H' → F' t = some (.tup [.int (due f p).1, .int (due f p).2]) → Q (.ref t) H'
abbrev N_law_runs : List Str := ["_law_told", "_law_many", "_law_found", "_law_lane_here", "_law_units", "_law_leaves_here", "_law_rows", "_law_first"]
theorem sc_law_runs : FnScope N_law_runs ["_law_told", "_law_many"] (defScope s_law_runs) := ⟨rfl, rfl, rfl, by decide +kernel, rfl, by decide +kernel, by decide +kernel⟩
theorem ok_law_runs (T : Ts K mg) : C8.Cal P w K mg base 1 "_law_runs" (sp_law_runs K) [] := by
  refine cal_of T.f_law_runs T.g_law_runs sc_law_runs (fun vs H Q E h => ?_) (fun _ _ _ _ _ _ us hl => match us, hl with | [_, _], _ => rfl) (fun cdv A outer s H vs Q E hr h => ⟨_, (pss_cons (ps_set (i := 2) sc_law_runs.nd rfl (Or.inl rfl) (pe_lst pa_nil))
      (pss_cons (ps_for PassesOwn.never rfl (pi_enum (by rfl) T.m_enumerate (pa_cons (pe_ix ix_tup (pv 0) pe_int (fun _ _ => rfl)) pa_nil)) (pg_tup rfl (pgs_cons (pg_name (i := 3) sc_law_runs.nd rfl (Or.inl rfl)) (pgs_cons (pg_tup rfl (pgs_cons (pg_name (i := 4) sc_law_runs.nd rfl (Or.inl rfl)) (pgs_cons (pg_name (i := 5) sc_law_runs.nd rfl (Or.inl rfl)) (pgs_cons (pg_name (i := 6) sc_law_runs.nd rfl (Or.inl rfl)) pgs_nil)))) pgs_nil))) (pss_one (ps_for PassesOwn.never rfl (pi_range3 (by rfl) T.m_range (pa_cons pe_int (pa_cons (pe_callB call_len (by rfl) T.m_len PySem.boot_len (pa_cons (pv 5) pa_nil)) (pa_cons (pv 1) pa_nil)))) (pg_name (i := 7) sc_law_runs.nd rfl (Or.inl rfl)) (pss_one (ps_expr (pe_bm PySem.F.plainAttrs_list PySem.F.slot_list_append PySem.F.type_list_append mt_append (pv 2) (pa_cons (pe_tup (pa_cons (pe_ix ix_tup (pv 0) pe_int (fun _ _ => rfl)) (pa_cons (pv 3) (pa_cons (pv 7) (pa_cons (pe_slice sl_list (pv 5) (po_some (pv 7)) (po_some (pe_op op_add (pv 7) (pv 1)))) pa_nil))))) pa_nil)))))))
      (pss_one (ps_ret (pv 2))))), ?_⟩)
  · obtain ⟨F, v, f, many, rfl, _⟩ := h
    rfl
  · obtain ⟨F, v, f, many, rfl, sF, hv, okf, hm, q⟩ := h
    obtain ⟨t, lv, xs, rfl, t1, k1, k2⟩ := dp_film hv
    have hxl := k2.len
    rw [List.length_map] at hxl
    have n1 := okf.n1
    refine ⟨by decide, fun fb hfb => ?_⟩
    have g0 := (Gw.refl (M := []) sF).alloc (o := .lst []) hfb
    refine ⟨_, rfl, _, _, _, _, rfl, rfl, Same.tup g0.sub t1, rfl, lv, xs, rfl, g0.sub.seq k1, ?_⟩
    refine for_it (walk_enum (xs := xs)) (fun i σ H' => ∃ x3 x4 x5 x6 x7 F' ys ps, σ = [some (.ref t), some (.int (many : Int)), some (.ref fb), x3, x4, x5, x6, x7] ∧ Gw [] F H F' H' ∧ H' fb = some (.lst ys) ∧ F' fb = none ∧ Al (fun v p => Dp K F' v (PieceD.dat f p)) ys ps ∧ (∀ p, p ∈ ps → OkP f p) ∧ ps.length ≤ 5 * i) ⟨none, none, none, none, none, F, [], [], rfl, g0, upd_same, sF.free hfb, .nil, fun p h => by simp at h, Nat.le_refl _⟩ ?_ ?_ ?_
    · rintro i σ H1 hi ⟨x3, x4, x5, x6, x7, F1, ys, ps, rfl, g1, _⟩
      exact (g1.fs.trans g1.sub).seq k1
    · rintro i x σ H1 H2 hi ⟨x3, x4, x5, x6, x7, F1, ys, ps, rfl, g1, hf1, hF1, hal, hok, hpl⟩ ⟨tp, x', y', rfl, htp, rfl, e5, hy⟩
      cases e5
      obtain ⟨d, hd, dp⟩ := k2.at hy
      obtain ⟨l, hl, rfl⟩ := map_at hd
      have okl := okf.lane l (List.mem_of_getElem? hl)
      have few := okl.few
      have g2 := g1.alloc (o := .tup [.int ((i : Nat) : Int), y']) htp
      have hf2 := keep_upd hf1 htp (o' := .tup [.int ((i : Nat) : Int), y'])
      obtain ⟨lt, llv, lxs, led, rfl, u1, u2, u3, _⟩ := dp_lane (dp.up g1.fs)
      have hll := u3.len
      rw [List.length_map] at hll
      have il := (List.getElem?_eq_some_iff.mp hl).1
      obtain ⟨elv, _⟩ := lvs_of hl
      refine ⟨_, _, rfl, SqT.of upd_same, rfl, _, _, rfl, _, _, rfl, ⟨_, _, rfl, Same.tup g2.sub u1, rfl, _, _, rfl, _, _, rfl, _, _, rfl, rfl, rfl, ?_⟩⟩
      obtain ⟨rg1, rg2, rg3⟩ := rgc (len := lxs.length) (many := many) (by omega) hm.1 hm.2
      refine ⟨_, rfl, _, _, rfl, .inl ⟨_, g2.sub.seq u2, rfl⟩, _, rfl, 0, _, _, _, rfl, rg1, ?_⟩
      refine for_rangeC (fun j σ H' => ∃ x7 F' ys ps, σ = [some (.ref t), some (.int (many : Int)), some (.ref fb), some (.int (i : Int)), some (.int l.units), some (.ref llv), some led, x7] ∧ Gw [] F H F' H' ∧ Same F1 F' ∧ H' fb = some (.lst ys) ∧ F' fb = none ∧ Al (fun v p => Dp K F' v (PieceD.dat f p)) ys ps ∧ (∀ p, p ∈ ps → OkP f p) ∧ ps.length ≤ 5 * i + j) ⟨x7, F1, ys, ps, rfl, g2, Same.refl _, hf2, hF1, hal, hok, hpl⟩ ?_ ?_
      · rintro j σ H3 hj ⟨x7, F3, ys, ps, rfl, g3, s3, hf3, hF3, hal, hok, hpl⟩
        have hjm := rg3 j hj
        show gName 7 (.int (0 + ((j : Nat) : Int) * (many : Int))) _ _ _
        rw [Int.zero_add, show ((j : Nat) : Int) * (many : Int) = ((j * many : Nat) : Int) by rw [Int.natCast_mul]]
        generalize j * many = a at *
        refine ⟨_, rfl, tyL hf3, _, rfl, _, _, _, _, rfl, rfl, Same.tup (g3.fs.trans g3.sub) t1, rfl, _, rfl, _, rfl, ?_⟩
        refine ⟨_, rfl, _, rfl, (a : Int), rfl, _, rfl, _, rfl, _, _, rfl, rfl, (a : Int) + (many : Int), rfl, llv, lxs, rfl, (s3.trans g3.sub).seq u2, fun cb hcb => ?_⟩
        rw [cutV_min (by omega)]
        refine ⟨by show 4 ≤ sizeLine; decide, fun qp hqp => ?_⟩
        have g4 := g3.frz (o := .lst ((lxs.drop a).take (min many (lxs.length - a)))) hcb
        have g5 := g4.frz (o := .tup [.int f.sg, .int ((i : Nat) : Int), .int ((a : Nat) : Int), .ref cb]) hqp
        have hf4 := keep_upd hf3 hcb (o' := .lst ((lxs.drop a).take (min many (lxs.length - a))))
        have hf5 := keep_upd hf4 hqp (o' := .tup [.int f.sg, .int ((i : Nat) : Int), .int ((a : Nat) : Int), .ref cb])
        have hF5 := off_upd hf4 hqp (off_upd hf3 hcb hF3 (o' := .lst ((lxs.drop a).take (min many (lxs.length - a))))) (o' := .tup [.int f.sg, .int ((i : Nat) : Int), .int ((a : Nat) : Int), .ref cb])
        have s34 := same_new (o := .lst ((lxs.drop a).take (min many (lxs.length - a)))) (g3.ffresh hcb)
        have s45 := same_new (o := .tup [.int f.sg, .int ((i : Nat) : Int), .int ((a : Nat) : Int), .ref cb]) (g4.ffresh hqp)
        have hyl := hal.len
        refine ⟨fb, ys, _, rfl, rfl, hf5, lt_line (by omega), ?_⟩
        refine ⟨some (.int (a : Int)), _, ys ++ [.ref qp], ps ++ [⟨i, a, min many (lxs.length - a)⟩], rfl, g5.put (.inl hfb) hF5 hf5, s3.trans (s34.trans s45), upd_same, hF5, (hal.mono fun _ _ h => Dp.up h (s34.trans s45)).snoc ?_, fun p hp => ?_, by simp; omega⟩
        · refine .tup (SqT.of upd_same) (.cons (.int _) (.cons (.int _) (.cons (.int _) (.cons (.lst (.inl (.inl (s45 _ _ upd_same))) ?_) .nil))))
          have e : PieceD.ls f ⟨i, a, min many (lxs.length - a)⟩ = (l.leaves.drop a).take (min many (lxs.length - a)) := by
            unfold PieceD.ls
            rw [elv]
          show DpAll K _ _ ((PieceD.ls f ⟨i, a, min many (lxs.length - a)⟩).map LeafD.dat)
          rw [e, List.map_take, List.map_drop]
          exact ((u3.up s3).up (s34.trans s45)).drop a |>.take _
        · rcases List.mem_append.mp hp with z | z
          · exact hok p z
          · rw [List.mem_singleton.mp z]
            exact ⟨il, by show 1 ≤ min many (lxs.length - a); omega, by show a + min many (lxs.length - a) ≤ (f.lvs i).length; rw [elv]; omega⟩
      · rintro σ H3 ⟨x7, F3, ys, ps, rfl, g3, s3, hf3, hF3, hal, hok, hpl⟩
        exact ⟨_, _, _, _, x7, F3, ys, ps, rfl, g3, hf3, hF3, hal, hok, by omega⟩
    · rintro σ H1 ⟨x3, x4, x5, x6, x7, F1, ys, ps, rfl, g1, hf1, hF1, hal, hok, hpl⟩
      exact ⟨_, rfl, q F1 H1 fb ys ps g1 hf1 hF1 hfb hal hok (by omega)⟩
abbrev N_law_due : List Str := ["_law_told", "_law_one", "_law_seal", "_law_lane_here", "_law_first", "_law_leaves_here", "_law_units", "_law_all_leaves", "_law_rows", "_law_begins", "_law_k"]
theorem sc_law_due : FnScope N_law_due ["_law_told", "_law_one"] (defScope s_law_due) := ⟨rfl, rfl, rfl, by decide +kernel, rfl, by decide +kernel, by decide +kernel⟩
theorem ok_law_due (T : Ts K mg) (c_law_begin_due : C8.Cal P w K mg base 2 "_law_begin_due" (sp_law_begin_due K) []) (c_law_lowest : C8.Cal P w K mg base 2 "_law_lowest" sp_law_lowest []) : C8.Cal P w K mg base 3 "_law_due" (sp_law_due K) [] := by
  refine cal_of T.f_law_due T.g_law_due sc_law_due (fun vs H Q E h => ?_) (fun _ _ _ _ _ _ us hl => match us, hl with | [_, _], _ => rfl) (fun cdv A outer s H vs Q E hr h => ⟨_, (pss_cons (ps_asg (pv 1) (pg_tup rfl (pgs_cons (pg_name (i := 2) sc_law_due.nd rfl (Or.inl rfl)) (pgs_cons (pg_name (i := 3) sc_law_due.nd rfl (Or.inl rfl)) (pgs_cons (pg_name (i := 4) sc_law_due.nd rfl (Or.inr rfl)) (pgs_cons (pg_name (i := 5) sc_law_due.nd rfl (Or.inl rfl)) pgs_nil))))))
      (pss_cons (ps_asg (pe_ix ix_list (pe_ix ix_tup (pv 0) pe_int (fun _ _ => rfl)) (pv 3) (fun _ _ => rfl)) (pg_tup rfl (pgs_cons (pg_name (i := 6) sc_law_due.nd rfl (Or.inl rfl)) (pgs_cons (pg_name (i := 7) sc_law_due.nd rfl (Or.inr rfl)) (pgs_cons (pg_name (i := 8) sc_law_due.nd rfl (Or.inl rfl)) pgs_nil)))))
      (pss_cons (ps_setLc (i := 9) (own := [("_law_k", 10)]) rfl sc_law_due.nd rfl rfl (sw_true rfl rfl rfl (by decide +kernel)) (pi_range1 (by rfl) T.m_range (pa_cons (pe_callB call_len (by rfl) T.m_len PySem.boot_len (pa_cons (pv 5) pa_nil)) pa_nil)) (blkOk_by (N := N_law_due) (sc := defScope s_law_due) (by decide +kernel)) (fun _ _ _ _ _ => (pg_name (i := 10) sc_law_due.nd rfl (Or.inl rfl) (Or.inr rfl))) (fun _ _ _ _ _ => pts_nil) (fun _ _ _ _ _ => (C8.pe_c c_law_begin_due hr (by decide) (by rfl) (pa_cons (pv 7) (pa_cons (pe_ix (ix_tupK (K0 := K) rfl) (pv 0) pe_int (fun _ _ => rfl)) (pa_cons (pe_op op_add (pv 4) (pv 10)) pa_nil))))))
      (pss_one (ps_ret (C8.pe_c c_law_lowest hr (by decide) (by rfl) (pa_cons (pe_callB (cr_min rfl) (by rfl) T.m_min (by decide +kernel) (pa_cons (pv 9) pa_nil)) (pa_cons (pv 6) pa_nil)))))))), ?_⟩)
  · obtain ⟨F, v, u, f, p, rfl, _⟩ := h
    rfl
  · obtain ⟨F, v, u, f, p, rfl, sF, hv, okf, hu, okp, q⟩ := h
    obtain ⟨t, lv, xs, rfl, t1, k1, k2⟩ := dp_film hv
    obtain ⟨pt, lb, us, rfl, p1, p2, p3⟩ := dp_piece hu
    have hul := p3.len
    rw [List.length_map, okp.len] at hul
    obtain ⟨l, hl, el, eu⟩ := okp.at
    have okl := okf.lane l (List.mem_of_getElem? hl)
    have fit := okp.fit
    rw [el] at fit
    have few := okl.few
    obtain ⟨x, hx, dx⟩ := k2.get (i := p.lane) (d := l.dat) (by rw [List.getElem?_map, hl]; rfl)
    obtain ⟨lt, llv, lxs, led, rfl, u1, u2, u3, u4⟩ := dp_lane dx
    refine ⟨_, rfl, _, _, rfl, Same.tup sF p1, rfl, _, _, rfl, _, _, rfl, _, _, rfl, _, _, rfl, rfl, ?_⟩
    refine ⟨_, rfl, _, _, _, _, rfl, rfl, Same.tup sF t1, rfl, _, rfl, lv, xs, _, _, rfl, rfl, sF.seq k1, atI_nat hx, ?_⟩
    refine ⟨_, _, rfl, Same.tup sF u1, rfl, _, _, rfl, _, _, rfl, _, _, rfl, rfl, ?_⟩
    refine ⟨_, rfl, _, _, rfl, .inl ⟨_, sF.seq p2, rfl⟩, _, rfl, by omega, by omega, fun D hD => ?_⟩
    refine lc_gw (M := []) (F1 := F) (walk_range (lo := 0) (n := ((us.length : Nat) : Int).toNat)) (fun _ => True) (fun i _ y => y = .int (theDue l.leaves f.wide (p.first + i))) sF hD (by simp) (by omega) trivial (fun _ _ _ => trivial) (fun _ _ _ _ _ h => h) (fun _ _ => trivial) ?_ ?_
    · rintro i y F2 H2 _ Q' hi sub fs2 _ ⟨rfl, hy⟩ k
      obtain rfl : y = .int (i : Int) := hy.trans (congrArg V.int (Int.zero_add _))
      have hi2 : i < us.length := by simpa using hi
      refine ⟨rfl, _, rfl, _, rfl, _, _, _, _, rfl, rfl, Same.tup (fs2.trans sub) t1, rfl, _, rfl, _, rfl, _, _, rfl, rfl, F2, _, l.leaves, f.wide, p.first + i, rfl, sub, u4.up fs2, okl.ls okf.w0 okf.w1, by omega, fun F3 H3 z g3 hz => ?_⟩
      exact k _ F3 H3 g3 trivial (by rw [hz.eq])
    · intro F2 H2 acc g2 fs2 _ hDa hFD hlen hres
      have hal : acc.length = p.cnt := by rw [hlen]; simp; exact hul
      have e : acc = ((List.range p.cnt).map fun k => theDue l.leaves f.wide (p.first + k)).map V.int := by
        apply List.ext_getElem?
        intro j
        rcases Nat.lt_or_ge j acc.length with z | z
        · have e1 := List.getElem?_eq_getElem z
          have := hres j _ e1
          rw [e1, this, List.getElem?_map, List.getElem?_map, List.getElem?_range (by omega)]
          rfl
        · rw [List.getElem?_eq_none z, List.getElem?_eq_none (by simp; omega)]
      rw [e] at hDa
      have g0 := (Gw.refl (M := []) sF).call g2
      refine ⟨_, rfl, D, _, rfl, .inl (.inl hDa), by rw [List.length_map, List.length_range]; exact okp.c1, fun m hm hmin => ?_⟩
      have ekey : key f p = m := by
        unfold key
        rw [el]
        exact minL_eq hm hmin
      refine ⟨_, rfl, m, l.units, rfl, by have := okl.u0; omega, by have := okl.u1; omega, fun tp htp => ?_⟩
      have edue : low m l.units = due f p := by
        unfold due
        rw [ekey, eu]
      rw [edue]
      exact q _ _ tp (g0.frz htp) upd_same
abbrev N_law_less : List Str := ["_law_one", "_law_other"]
theorem sc_law_less : FnScope N_law_less ["_law_one", "_law_other"] (defScope s_law_less) := ⟨rfl, rfl, rfl, by decide +kernel, rfl, by decide +kernel, by decide +kernel⟩
theorem ok_law_less (T : Ts K mg) : C8.Cal P w K mg base 1 "_law_less" (sp_less K) [] := by
  refine cal_of T.f_law_less T.g_law_less sc_law_less (fun vs H Q E h => ?_) (fun _ _ _ _ _ _ us hl => match us, hl with | [_, _], _ => rfl) (fun cdv A outer s H vs Q E hr h => ⟨_, (pss_one (ps_ret (pe_cmpR op_lt (pe_op op_mul (pe_ix ix_tup (pv 0) pe_int (fun _ _ => rfl)) (pe_ix ix_tup (pv 1) pe_int (fun _ _ => rfl))) (pe_op op_mul (pe_ix ix_tup (pv 1) pe_int (fun _ _ => rfl)) (pe_ix ix_tup (pv 0) pe_int (fun _ _ => rfl))) (nomark _)))), ?_⟩)
  · obtain ⟨u, v, p, q, rfl, _⟩ := h
    rfl
  · obtain ⟨u, v, p, q, rfl, hu, hv, hp, hq, k⟩ := h
    obtain ⟨a, rfl, sa⟩ := hu.frE
    obtain ⟨c, rfl, sc⟩ := hv.frE
    refine ⟨_, rfl, _, _, _, _, rfl, rfl, sa, rfl, _, rfl, _, _, _, _, rfl, rfl, sc, rfl, _, _, rfl, rfl, .inr hq, ?_⟩
    refine ⟨_, rfl, _, _, _, _, rfl, rfl, sc, rfl, _, rfl, _, _, _, _, rfl, rfl, sa, rfl, _, _, rfl, rfl, .inr hp, ?_⟩
    exact ⟨_, _, rfl, rfl, k⟩
end
end Sc

namespace Sc
open PySem PySem.Spec PyProof.Rows L2
def RowL (K : PySem.W.Frag) (F : Hp) (f : FilmD) (v : V) (p : PieceD) : Prop :=
  ∃ (t dp np : Addr) (one : V), v = .ref t ∧ F t = some (.tup [.ref dp, .ref np, one]) ∧ F dp = some (.tup [.int (due f p).1, .int (due f p).2]) ∧ F np = some (.tup [.int (p.lane : Int), .int (p.first : Int), .int (p.cnt : Int)]) ∧ Dp K F one (p.dat f)
theorem RowL.up {K : PySem.W.Frag} {F F' : Hp} {f : FilmD} {v : V} {p : PieceD} (h : RowL K F f v p) (s : Same F F') : RowL K F' f v p := by
  obtain ⟨t, dp, np, one, e, a, b, c, d⟩ := h
  exact ⟨t, dp, np, one, e, s _ _ a, s _ _ b, s _ _ c, d.up s⟩
theorem lex_nlt (p q : PieceD) : HT.lexLt [(p.lane : Int), (p.first : Int), (p.cnt : Int)] [(q.lane : Int), (q.first : Int), (q.cnt : Int)] = true ↔ nlt p q := by
  unfold nlt
  simp only [HT.lexLt]
  by_cases h1 : (p.lane : Int) = (q.lane : Int)
  · rw [if_pos h1]
    by_cases h2 : (p.first : Int) = (q.first : Int)
    · rw [if_pos h2]
      by_cases h3 : (p.cnt : Int) = (q.cnt : Int)
      · rw [if_pos h3]
        constructor
        · intro h; cases h
        · omega
      · rw [if_neg h3, decide_eq_true_eq]
        omega
    · rw [if_neg h2, decide_eq_true_eq]
      omega
  · rw [if_neg h1, decide_eq_true_eq]
    omega
/-- put in its place -/
theorem ins_sorted {f : FilmD} {qs : List PieceD} {p : PieceD} {a : Nat} (ok : OkFilm f) (hq : ∀ q, q ∈ qs → OkP f q) (hp : OkP f p) (s : qs.Pairwise (ple f)) (h1 : ∀ (i : Nat) (x : PieceD), a ≤ i → qs[i]? = some x → pal f p x) (ha : a ≤ qs.length) (h2 : a = 0 ∨ ∃ x, qs[a - 1]? = some x ∧ ¬ pal f p x) :
    (qs.take a ++ [p] ++ qs.drop a).Pairwise (ple f) ∧ (qs.take a ++ [p] ++ qs.drop a).Perm (p :: qs) := by
  constructor
  · rw [List.append_assoc, List.singleton_append, List.pairwise_append]
    have s2 := s
    rw [← List.take_append_drop a qs, List.pairwise_append] at s2
    obtain ⟨s3, s4, s5⟩ := s2
    refine ⟨s3, ?_, fun x hx y hy => ?_⟩
    · rw [List.pairwise_cons]
      refine ⟨fun y hy => ?_, s4⟩
      obtain ⟨i, hi⟩ := List.getElem?_of_mem hy
      rw [List.getElem?_drop] at hi
      exact .inl (h1 _ y (by omega) hi)
    · rcases List.mem_cons.mp hy with rfl | hy
      · rcases h2 with h2 | ⟨z, hz, nz⟩
        · subst h2
          simp at hx
        · have okz := hq z (List.mem_of_getElem? hz)
          have zy : ple f z y := by
            rcases pal_tri ok hp okz with t | t | t
            · exact absurd t nz
            · exact .inr t.symm
            · exact .inl t
          have xz : ple f x z := by
            obtain ⟨i, hi⟩ := List.getElem?_of_mem hx
            have hil := (List.getElem?_eq_some_iff.mp hi).1
            rw [List.length_take] at hil
            rw [List.getElem?_take_of_lt (by omega)] at hi
            rcases Nat.lt_or_ge i (a - 1) with lt | ge
            · rw [List.pairwise_iff_getElem] at s
              obtain ⟨b1, e1⟩ := List.getElem?_eq_some_iff.mp hi
              obtain ⟨b2, e2⟩ := List.getElem?_eq_some_iff.mp hz
              have := s i (a - 1) b1 b2 lt
              rwa [e1, e2] at this
            · have : i = a - 1 := by omega
              subst this
              rw [hz] at hi
              cases hi
              exact .inr rfl
          exact ple_trans ok (hq x (List.mem_of_mem_take hx)) okz hp xz zy
      · exact s5 x hx y hy
  · rw [List.append_assoc, List.singleton_append]
    have := List.perm_middle (a := p) (l₁ := qs.take a) (l₂ := qs.drop a)
    rwa [List.take_append_drop] at this
theorem Al.ins {α β : Type} {R : α → β → Prop} {xs : List α} {ys : List β} {x : α} {y : β} (h : Al R xs ys) (r : R x y) (a : Nat) : Al R (xs.take a ++ [x] ++ xs.drop a) (ys.take a ++ [y] ++ ys.drop a) := by
  refine ⟨by simp [h.len], fun i u v e1 e2 => ?_⟩
  have hl := h.len
  rw [List.append_assoc] at e1 e2
  rw [List.getElem?_append] at e1 e2
  rw [List.length_take] at e1 e2
  rw [← hl] at e2
  by_cases c : i < min a xs.length
  · rw [if_pos c] at e1 e2
    rw [List.getElem?_take_of_lt (by omega)] at e1 e2
    exact h.rel i u v e1 e2
  · rw [if_neg c] at e1 e2
    cases e : i - min a xs.length with
    | zero =>
      rw [e] at e1 e2
      have e1 : x = u := by simpa using e1
      have e2 : y = v := by simpa using e2
      rw [← e1, ← e2]
      exact r
    | succ k =>
      rw [e] at e1 e2
      have e1 : (xs.drop a)[k]? = some u := by simpa using e1
      have e2 : (ys.drop a)[k]? = some v := by simpa using e2
      rw [List.getElem?_drop] at e1 e2
      exact h.rel _ u v e1 e2
section
variable {P : Program} {w : World} {K : PySem.W.Frag} {mg : Str → Option Value} {base : Heap}
def sp_law_ahead (K : PySem.W.Frag) : Sp := fun vs H Q _ => ∃ (u v : V) (f : FilmD) (p q : PieceD), vs = [u, v] ∧ OkFilm f ∧ OkP f p ∧ OkP f q ∧ RowL K H f u p ∧ RowL K H f v q ∧ ∀ b : Bool, (b = true ↔ pal f p q) → Q (.bl b) H
def sp_law_ordered (K : PySem.W.Frag) : Sp := fun vs H Q _ => ∃ (F : Hp) (v : V) (a : Addr) (xs : List V) (f : FilmD) (ps : List PieceD), vs = [v, .ref a] ∧ Same F H ∧ Dp K F v f.dat ∧ OkFilm f ∧ F a = some (.lst xs) ∧ Al (fun v p => Dp K F v (p.dat f)) xs ps ∧ (∀ p, p ∈ ps → OkP f p) ∧ ps.length ≤ 60 ∧
  ∀ (F' H' : Hp) (b : Addr) (ys : List V) (qs : List PieceD), Gw [] F H F' H' → F' b = some (.lst ys) → Al (fun v p => Dp K F' v (p.dat f)) ys qs → qs.Perm ps → qs.Pairwise (ple f) → Q (.ref b) H'
abbrev N_law_ahead : List Str := ["_law_row", "_law_other"]
theorem sc_law_ahead : FnScope N_law_ahead ["_law_row", "_law_other"] (defScope s_law_ahead) := ⟨rfl, rfl, rfl, by decide +kernel, rfl, by decide +kernel, by decide +kernel⟩
theorem ok_law_ahead (T : Ts K mg) (c_law_less : C8.Cal P w K mg base 1 "_law_less" (sp_less K) []) : C8.Cal P w K mg base 2 "_law_ahead" (sp_law_ahead K) [] := by
  refine cal_of T.f_law_ahead T.g_law_ahead sc_law_ahead (fun vs H Q E h => ?_) (fun _ _ _ _ _ _ us hl => match us, hl with | [_, _], _ => rfl) (fun cdv A outer s H vs Q E hr h => ⟨_, (pss_cons (ps_if (pt_cmpR (op_neD hr.units) (pe_ix ix_tup (pv 0) pe_int (fun _ _ => rfl)) (pe_ix ix_tup (pv 1) pe_int (fun _ _ => rfl)) (nomark _)) (pss_one (ps_ret (C8.pe_c c_law_less hr (by decide) (by rfl) (pa_cons (pe_ix ix_tup (pv 0) pe_int (fun _ _ => rfl)) (pa_cons (pe_ix ix_tup (pv 1) pe_int (fun _ _ => rfl)) pa_nil))))) pss_nil)
      (pss_one (ps_ret (pe_cmpR (op_ltT hr.units0) (pe_ix ix_tup (pv 0) pe_int (fun _ _ => rfl)) (pe_ix ix_tup (pv 1) pe_int (fun _ _ => rfl)) (nomark _))))), ?_⟩)
  · obtain ⟨u, v, f, p, q, rfl, _⟩ := h
    rfl
  · obtain ⟨u, v, f, p, q, rfl, ok, hp, hq, ⟨t1, d1, n1, o1, rfl, a1, a2, a3, _⟩, ⟨t2, d2, n2, o2, rfl, b1, b2, b3, _⟩, k⟩ := h
    have e1 : Dp K H (.ref d1) (frD (due f p)) := Dp.fr a2
    have e2 : Dp K H (.ref d2) (frD (due f q)) := Dp.fr b2
    refine ⟨_, rfl, _, _, _, _, rfl, rfl, SqT.of a1, rfl, _, rfl, _, _, _, _, rfl, rfl, SqT.of b1, rfl, _, _, e1, e2, (shp_fr _).ok, (shp_fr _).ok, _, rfl, ?_⟩
    rw [eqv_fr]
    by_cases c : due f p = due f q
    · rw [decide_eq_true c]
      refine iteF ⟨_, rfl, _, _, _, _, rfl, rfl, SqT.of a1, rfl, _, rfl, _, _, _, _, rfl, rfl, SqT.of b1, rfl, n1, n2, [(p.lane : Int), (p.first : Int), (p.cnt : Int)], [(q.lane : Int), (q.first : Int), (q.cnt : Int)], rfl, rfl, SqT.of a3, SqT.of b3, k _ ?_⟩
      rw [lex_nlt]
      constructor
      · exact fun h => .inr ⟨c, h⟩
      · rintro (h | ⟨_, h⟩)
        · rw [c] at h
          exact absurd h (dlt_irrefl _)
        · exact h
    · rw [decide_eq_false c]
      refine iteT ⟨_, rfl, _, _, _, _, rfl, rfl, SqT.of a1, rfl, _, rfl, _, _, _, _, rfl, rfl, SqT.of b1, rfl, _, _, _, _, rfl, e1, e2, (due_ok ok hp).bnd, (due_ok ok hq).bnd, k _ ?_⟩
      rw [decide_eq_true_eq]
      constructor
      · exact fun h => .inl h
      · rintro (h | ⟨h, _⟩)
        · exact h
        · exact absurd h c
end
end Sc

namespace Sc
open PySem PySem.Spec PyProof.Rows L2
section
variable {P : Program} {w : World} {K : PySem.W.Frag} {mg : Str → Option Value} {base : Heap}
abbrev N_law_ordered : List Str := ["_law_told", "_law_some_here", "_law_rows", "_law_one", "_law_row", "_law_at"]
theorem sc_law_ordered : FnScope N_law_ordered ["_law_told", "_law_some_here"] (defScope s_law_ordered) := ⟨rfl, rfl, rfl, by decide +kernel, rfl, by decide +kernel, by decide +kernel⟩
theorem ok_law_ordered (T : Ts K mg) (c_law_due : C8.Cal P w K mg base 3 "_law_due" (sp_law_due K) []) (c_law_ahead : C8.Cal P w K mg base 2 "_law_ahead" (sp_law_ahead K) []) : C8.Cal P w K mg base 4 "_law_ordered" (sp_law_ordered K) [] := by
  refine cal_of T.f_law_ordered T.g_law_ordered sc_law_ordered (fun vs H Q E h => ?_) (fun _ _ _ _ _ _ us hl => match us, hl with | [_, _], _ => rfl) (fun cdv A outer s H vs Q E hr h => ⟨_, (pss_cons (ps_set (i := 2) sc_law_ordered.nd rfl (Or.inl rfl) (pe_lst pa_nil))
      (pss_cons (ps_for PassesOwn.never rfl (pi_list (pv 1)) (pg_name (i := 3) sc_law_ordered.nd rfl (Or.inl rfl)) (pss_cons (ps_set (i := 4) sc_law_ordered.nd rfl (Or.inl rfl) (pe_tup (pa_cons (C8.pe_c c_law_due hr (by decide) (by rfl) (pa_cons (pv 0) (pa_cons (pv 3) pa_nil))) (pa_cons (pe_tup (pa_cons (pe_ix ix_tup (pv 3) pe_int (fun _ _ => rfl)) (pa_cons (pe_ix ix_tup (pv 3) pe_int (fun _ _ => rfl)) (pa_cons (pe_callB call_len (by rfl) T.m_len PySem.boot_len (pa_cons (pe_ix ix_tup (pv 3) pe_int (fun _ _ => rfl)) pa_nil)) pa_nil)))) (pa_cons (pv 3) pa_nil)))))
      (pss_cons (ps_set (i := 5) sc_law_ordered.nd rfl (Or.inl rfl) (pe_callB call_len (by rfl) T.m_len PySem.boot_len (pa_cons (pv 2) pa_nil)))
      (pss_cons (ps_while PassesOwn.never (PW.pt (pw_and (pt_cmpR op_gt (pv 5) pe_int (nomark _)) (pw_and1 (pt_val (C8.pe_c c_law_ahead hr (by decide) (by rfl) (pa_cons (pv 4) (pa_cons (pe_ix ix_list (pv 2) (pe_op op_sub (pv 5) pe_int) (fun _ _ => rfl)) pa_nil))))))) (pss_one (ps_set (i := 5) sc_law_ordered.nd rfl (Or.inl rfl) (pe_op op_sub (pv 5) pe_int))))
      (pss_one (ps_expr (pe_bm PySem.F.plainAttrs_list PySem.F.slot_list_insert PySem.F.type_list_insert mt_insert (pv 2) (pa_cons (pv 5) (pa_cons (pv 4) pa_nil)))))))))
      (pss_one (ps_ret (pe_lc (own := [("_law_row", 4)]) rfl sc_law_ordered.nd (pi_list (pv 2)) (blkOk_by (N := N_law_ordered) (sc := defScope s_law_ordered) (by decide +kernel)) (fun _ _ _ _ _ => (pg_name (i := 4) sc_law_ordered.nd rfl (Or.inl rfl) (Or.inr rfl))) (fun _ _ _ _ _ => pts_nil) (fun _ _ _ _ _ => (pe_ix (ix_tupK (K0 := K) rfl) (pv 4) pe_int (fun _ _ => rfl)))))))), ?_⟩)
  · obtain ⟨F, v, a, xs, f, ps, rfl, _⟩ := h
    rfl
  · obtain ⟨F, v, pa, xs, f, ps, rfl, sF, hv, okf, hpa, hps, hok, hn, q⟩ := h
    have hxl := hps.len
    refine ⟨by decide, fun rb hrb => ?_⟩
    have g0 := (Gw.refl (M := []) sF).alloc (o := .lst []) hrb
    refine ⟨_, rfl, pa, rfl, ⟨xs, .inl (.inl (g0.sub _ _ hpa))⟩, ?_⟩
    refine for_list (xs := xs) (fun i σ H' => ∃ x3 x4 x5 F' rv qs, σ = [some v, some (.ref pa), some (.ref rb), x3, x4, x5] ∧ Gw [] F H F' H' ∧ H' rb = some (.lst rv) ∧ F' rb = none ∧ Al (RowL K F' f) rv qs ∧ qs.Perm (ps.take i) ∧ qs.Pairwise (ple f)) ⟨none, none, none, F, [], [], rfl, g0, upd_same, sF.free hrb, .nil, .refl _, .nil⟩ ?_ ?_ ?_
    · rintro i σ H1 hi ⟨x3, x4, x5, F1, rv, qs, rfl, g1, _⟩
      exact .inl (.inl (g1.sub _ _ (g1.fs _ _ hpa)))
    · rintro i x σ H1 hx ⟨x3, x4, x5, F1, rv, qs, rfl, g1, hr1, hF1, hal, hperm, hpw⟩
      obtain ⟨p, hp, hdp⟩ := hps.at1 hx
      have okp := hok p (List.mem_of_getElem? hp)
      have hil := (List.getElem?_eq_some_iff.mp hp).1
      have hql := hperm.length_eq
      rw [List.length_take, Nat.min_eq_left (by omega)] at hql
      have hrl := hal.len
      have hqok : ∀ q, q ∈ qs → OkP f q := fun q hq => hok q (List.mem_of_mem_take (hperm.mem_iff.mp hq))
      have hdp1 := hdp.up g1.fs
      obtain ⟨pt, lb, us, rfl, p1, p2, p3⟩ := dp_piece hdp1
      have hul := p3.len
      rw [List.length_map, okp.len] at hul
      refine ⟨_, rfl, _, rfl, F1, v, _, f, p, rfl, g1.sub, hv.up g1.fs, okf, hdp1, okp, fun F2 H2 dp g2 hdd => ?_⟩
      have g12 := g1.call g2
      have hr2 := g2.same _ _ hr1
      have hF2 := g2.out hr1 hF1
      have p1' := Same.tup (g2.fs.trans g2.sub) p1
      refine ⟨_, rfl, _, _, _, _, rfl, rfl, p1', rfl, _, rfl, _, _, _, _, rfl, rfl, p1', rfl, _, rfl, _, _, _, _, rfl, rfl, p1', rfl, _, _, rfl, .inl ⟨_, (g2.fs.trans g2.sub).seq p2, rfl⟩, by show 3 ≤ sizeLine; decide, fun np hnp => ?_⟩
      rw [hul]
      have g3 := g12.frz (o := .tup [.int (p.lane : Int), .int (p.first : Int), .int ((p.cnt : Nat) : Int)]) hnp
      refine ⟨_, rfl, by show 3 ≤ sizeLine; decide, fun rt hrt => ?_⟩
      have g4 := g3.frz (o := .tup [.ref dp, .ref np, .ref pt]) hrt
      have s23 := same_new (o := .tup [.int (p.lane : Int), .int (p.first : Int), .int ((p.cnt : Nat) : Int)]) (g12.ffresh hnp)
      have s34 := same_new (o := .tup [.ref dp, .ref np, .ref pt]) (g3.ffresh hrt)
      have hr3 := keep_upd hr2 hnp (o' := .tup [.int (p.lane : Int), .int (p.first : Int), .int ((p.cnt : Nat) : Int)])
      have hr4 := keep_upd hr3 hrt (o' := .tup [.ref dp, .ref np, .ref pt])
      have hF4 := off_upd hr3 hrt (off_upd hr2 hnp hF2 (o' := .tup [.int (p.lane : Int), .int (p.first : Int), .int ((p.cnt : Nat) : Int)])) (o' := .tup [.ref dp, .ref np, .ref pt])
      have row : RowL K (upd (upd F2 np (.tup [.int (p.lane : Int), .int (p.first : Int), .int ((p.cnt : Nat) : Int)])) rt (.tup [.ref dp, .ref np, .ref pt])) f (.ref rt) p := ⟨rt, dp, np, .ref pt, rfl, upd_same, s34 _ _ (s23 _ _ hdd), s34 _ _ upd_same, hdp1.up (g2.fs.trans (s23.trans s34))⟩
      have hal4 := hal.mono fun _ _ h => RowL.up h (g2.fs.trans (s23.trans s34))
      generalize upd (upd F2 np (.tup [.int (p.lane : Int), .int (p.first : Int), .int ((p.cnt : Nat) : Int)])) rt (.tup [.ref dp, .ref np, .ref pt]) = F4 at *
      generalize upd (upd H2 np (.tup [.int (p.lane : Int), .int (p.first : Int), .int ((p.cnt : Nat) : Int)])) rt (.tup [.ref dp, .ref np, .ref pt]) = H4 at *
      refine ⟨_, rfl, _, _, rfl, .inl ⟨_, .inl (.inl hr4), rfl⟩, ?_⟩
      refine while_by (fun σ H' => H' = H4 ∧ ∃ a : Nat, σ = [some v, some (.ref pa), some (.ref rb), some (.ref pt), some (.ref rt), some (.int (a : Int))] ∧ a ≤ qs.length ∧ ∀ (i : Nat) (x : PieceD), a ≤ i → qs[i]? = some x → pal f p x)
        (fun σ _ => match σ with | [_, _, _, _, _, some (.int a)] => a.toNat | _ => 0) ⟨rfl, rv.length, rfl, by omega, fun i x hi e => ?_⟩ ?_ (fun σ H Q Q' k h => ?_)
      · have := (List.getElem?_eq_some_iff.mp e).1
        omega
      · rintro σ H5 ⟨rfl, a, rfl, ha, hpa2⟩
        have fin : (a = 0 ∨ ∃ x, qs[a - 1]? = some x ∧ ¬ pal f p x) → ∃ x3 x4 x5 F' rv' qs', ([some v, some (.ref pa), some (.ref rb), some (.ref pt), some (.ref rt), some (.int (a : Int))] : L2.St) = [some v, some (.ref pa), some (.ref rb), x3, x4, x5] ∧ Gw [] F H F' (upd H5 rb (.lst (rv.take ((a : Int)).toNat ++ [.ref rt] ++ rv.drop ((a : Int)).toNat))) ∧ upd H5 rb (.lst (rv.take ((a : Int)).toNat ++ [.ref rt] ++ rv.drop ((a : Int)).toNat)) rb = some (.lst rv') ∧ F' rb = none ∧ Al (RowL K F' f) rv' qs' ∧ qs'.Perm (ps.take (i + 1)) ∧ qs'.Pairwise (ple f) := by
          intro h2
          obtain ⟨so, pe⟩ := ins_sorted okf hqok okp hpw hpa2 ha h2
          refine ⟨_, _, _, F4, _, qs.take a ++ [p] ++ qs.drop a, rfl, g4.put (.inl hrb) hF4 hr4, upd_same, hF4, ?_, ?_, so⟩
          · rw [Int.toNat_natCast]
            exact hal4.ins row a
          · rw [List.take_add_one, hp]
            refine pe.trans ((hperm.cons p).trans ?_)
            exact (List.perm_append_comm (l₁ := [p]) (l₂ := ps.take i))
        refine ⟨_, rfl, _, _, rfl, rfl, _, rfl, ite2 (fun c => ?_) fun c => ?_⟩
        · have c0 := of_decide_eq_true c
          have ha0 : 0 < a := by omega
          have hlt : a - 1 < qs.length := by omega
          have hq := List.getElem?_eq_getElem hlt
          obtain ⟨y, hy, hrow⟩ := hal4.at2 hq
          refine ⟨_, rfl, _, rfl, _, rfl, _, _, rfl, rfl, rb, rv, _, y, rfl, rfl, .inl (.inl hr4), ?_, _, _, f, p, qs[a - 1], rfl, okf, okp, hqok _ (List.mem_of_getElem? hq), row.up g4.sub, hrow.up g4.sub, fun b hb => ⟨b, rfl, ?_⟩⟩
          · show atI rv ((a : Int) - 1) = some y
            rw [show ((a : Int) - 1) = ((a - 1 : Nat) : Int) by omega]
            exact atI_nat hy
          · cases b with
            | true =>
              have hp2 := hb.mp rfl
              refine iteT ⟨_, rfl, _, _, rfl, rfl, ⟨rfl, a - 1, ?_, by omega, fun i x hi e => ?_⟩, ?_⟩
              · show [some v, some (.ref pa), some (.ref rb), some (.ref pt), some (.ref rt), some (V.int ((a : Int) - 1))] = _
                rw [show ((a : Int) - 1) = ((a - 1 : Nat) : Int) by omega]
              · rcases Nat.lt_or_ge i a with z | z
                · have : i = a - 1 := by omega
                  subst this
                  rw [hq] at e
                  cases e
                  exact hp2
                · exact hpa2 i x z e
              · show ((a : Int) - 1).toNat < ((a : Int)).toNat
                omega
            | false =>
              have hp2 : ¬ pal f p qs[a - 1] := fun z => by
                have := hb.mpr z
                cases this
              refine iteF ⟨_, rfl, tyL hr4, _, rfl, _, rfl, rb, rv, _, _, rfl, rfl, hr4, lt_line (by omega), by omega, by omega, ?_⟩
              exact fin (.inr ⟨_, hq, hp2⟩)
        · have ha0 : a = 0 := by
            rcases Nat.eq_zero_or_pos a with z | z
            · exact z
            · exact absurd (decide_eq_true (show (0 : Int) < (a : Int) by omega)) c
          refine ⟨_, rfl, tyL hr4, _, rfl, _, rfl, rb, rv, _, _, rfl, rfl, hr4, lt_line (by omega), by omega, by omega, ?_⟩
          exact fin (.inl ha0)
      · obtain ⟨v1, e1, i1, j1, e2, e3, b, e4, h5⟩ := h
        refine ⟨v1, e1, i1, j1, e2, e3, b, e4, ?_⟩
        cases b with
        | false => exact iteF (k _ _ h5)
        | true =>
          obtain ⟨w1, f1, w2, f2, w3, f3, i2, j2, f4, f5, l2, x2, n2, y2, f6, f7, f8, f9, u2, v2, ff, p2, q2, f10, f11, f12, f13, f14, f15, f16⟩ := h5
          refine iteT ⟨w1, f1, w2, f2, w3, f3, i2, j2, f4, f5, l2, x2, n2, y2, f6, f7, f8, f9, u2, v2, ff, p2, q2, f10, f11, f12, f13, f14, f15, fun b hb => ?_⟩
          obtain ⟨c, e, z⟩ := f16 b hb
          exact ⟨c, e, k _ _ z⟩
    · rintro σ H1 ⟨x3, x4, x5, F1, rv, qs, rfl, g1, hr1, hF1, hal, hperm, hpw⟩
      have hrl := hal.len
      have hql := hperm.length_eq
      rw [List.length_take] at hql
      refine ⟨_, rfl, rb, rfl, ⟨rv, .inl (.inl hr1)⟩, fun D hD => ?_⟩
      have nrD := ne_of_some hr1 hD
      refine lc_gwI (M := []) (F1 := F1) (walk_list (xs := rv)) (fun H => H rb = some (.lst rv)) (fun i F' y => ∃ p, qs[i]? = some p ∧ Dp K F' y (p.dat f)) g1.sub hD (by simp) (by omega) hr1 (fun H o h => by rw [upd_ne nrD]; exact h) (fun i F F' v s h => by
        obtain ⟨p, a, b⟩ := h
        exact ⟨p, a, b.up s⟩) (fun H s h => .inl (.inl h)) ?_ ?_
      · rintro i y F2 H2 _ Q' hi sub fs2 hI ⟨rfl, hy⟩ k
        obtain ⟨p, hp, t, dp, np, one, rfl, a1, a2, a3, a4⟩ := hal.at1 hy
        exact ⟨rfl, _, rfl, _, _, _, _, rfl, rfl, SqT.of (sub _ _ (fs2 _ _ a1)), rfl, k _ F2 _ (Gw.refl sub) hI ⟨p, hp, a4.up fs2⟩⟩
      · intro F2 H2 acc g2 fs2 hI hDa hFD hlen hres
        have g3 := (g1.call g2).hold hDa (g1.dom _ hD) hFD
        refine q _ _ D acc qs g3 upd_same ⟨by omega, fun i x p e1 e2 => ?_⟩ ?_ hpw
        · obtain ⟨p', e3, r⟩ := hres i x e1
          rw [e2] at e3
          cases e3
          exact r.up (same_new hFD)
        · rw [hxl, List.take_length] at hperm
          exact hperm
end
end Sc

namespace Sc
open PySem PySem.Spec PyProof.Rows L2
theorem shp_str {x : Str} (h : (PyData.str x).canLay0 = true) : Shp 0 (.str x) := ⟨h, Nat.le_refl _⟩
theorem shp_rule (r : RuleD) : Shp 1 r.dat := by
  cases r with
  | plain x =>
    refine shp_tuple fun d hd => ?_
    simp only [List.mem_cons, List.not_mem_nil, or_false] at hd
    rcases hd with rfl | rfl
    · exact shp_str (by decide +kernel)
    · exact shp_int _
  | moved b c a =>
    refine shp_tuple fun d hd => ?_
    simp only [List.mem_cons, List.not_mem_nil, or_false] at hd
    rcases hd with rfl | rfl | rfl | rfl
    · exact shp_str (by decide +kernel)
    · exact shp_int _
    · exact shp_int _
    · exact shp_int _
  | mixed b c ob oc =>
    refine shp_tuple fun d hd => ?_
    simp only [List.mem_cons, List.not_mem_nil, or_false] at hd
    rcases hd with rfl | rfl | rfl | rfl | rfl
    · exact shp_str (by decide +kernel)
    · exact shp_int _
    · exact shp_int _
    · exact shp_int _
    · exact shp_int _
theorem shp_body (b : BodyD) : Shp 2 b.dat := by
  cases b with
  | full vs => exact (shp_tuple (n := 0) fun d hd => by
      obtain ⟨x, _, rfl⟩ := List.mem_map.mp hd
      exact shp_int x).up (by decide)
  | still b => exact (shp_int _).up (by decide)
  | woven rs =>
    refine shp_tuple fun d hd => ?_
    obtain ⟨x, _, rfl⟩ := List.mem_map.mp hd
    exact shp_rule x
theorem shp_leaf (l : LeafD) : Shp 3 l.dat := by
  refine shp_tuple fun d hd => ?_
  simp only [List.mem_cons, List.not_mem_nil, or_false] at hd
  rcases hd with rfl | rfl | rfl | rfl
  · obtain ⟨bg, sp, body⟩ := l
    cases body with
    | full _ => exact (shp_str (x := "full") (by decide +kernel)).up (by decide)
    | still _ => exact (shp_str (x := "still") (by decide +kernel)).up (by decide)
    | woven _ => exact (shp_str (x := "woven") (by decide +kernel)).up (by decide)
  · exact (shp_int _).up (by decide)
  · exact (shp_int _).up (by decide)
  · exact shp_body _
theorem shp_leaves (ls : List LeafD) : Shp 4 (.list (ls.map LeafD.dat)) := shp_list fun d hd => by
  obtain ⟨x, _, rfl⟩ := List.mem_map.mp hd
  exact shp_leaf x
theorem shp_piece (f : FilmD) (p : PieceD) : Shp 5 (p.dat f) := by
  refine shp_tuple fun d hd => ?_
  simp only [List.mem_cons, List.not_mem_nil, or_false] at hd
  rcases hd with rfl | rfl | rfl | rfl
  · exact (shp_int _).up (by decide)
  · exact (shp_int _).up (by decide)
  · exact (shp_int _).up (by decide)
  · exact shp_leaves _
theorem shp_pieces (f : FilmD) (ps : List PieceD) : Shp 6 (.list (ps.map (PieceD.dat f))) := shp_list fun d hd => by
  obtain ⟨x, _, rfl⟩ := List.mem_map.mp hd
  exact shp_piece f x
theorem shp_start (s : Option (Int × Int)) : Shp 1 (startD s) := by
  cases s with
  | none => exact ⟨rfl, Nat.zero_le _⟩
  | some p => exact shp_fr p
theorem shp_edit (e : EditD) : Shp 2 e.dat := by
  refine shp_tuple fun d hd => ?_
  simp only [List.mem_cons, List.not_mem_nil, or_false] at hd
  rcases hd with rfl | rfl | rfl
  · exact shp_fr _
  · exact shp_start _
  · exact shp_fr _
theorem shp_lane (l : LaneD) : Shp 5 l.dat := by
  refine shp_tuple fun d hd => ?_
  simp only [List.mem_cons, List.not_mem_nil, or_false] at hd
  rcases hd with rfl | rfl | rfl
  · exact (shp_int _).up (by decide)
  · exact shp_leaves _
  · exact (shp_list (n := 2) fun d hd => by
      obtain ⟨x, _, rfl⟩ := List.mem_map.mp hd
      exact shp_edit x).up (by decide)
theorem shp_film (f : FilmD) : Shp 7 f.dat := by
  refine shp_tuple fun d hd => ?_
  simp only [List.mem_cons, List.not_mem_nil, or_false] at hd
  rcases hd with rfl | rfl | rfl
  · exact (shp_int _).up (by decide)
  · exact (shp_int _).up (by decide)
  · exact shp_list (n := 5) fun d hd => by
      obtain ⟨x, _, rfl⟩ := List.mem_map.mp hd
      exact shp_lane x
section
variable {P : Program} {w : World} {K : PySem.W.Frag} {mg : Str → Option Value} {base : Heap}
theorem pcs_dp {H : Hp} {f : FilmD} {xs : List V} {ps : List PieceD} (h : Al (fun v p => Dp K H v (PieceD.dat f p)) xs ps) : DpAll K H xs (ps.map (PieceD.dat f)) := DpAll_of (by rw [h.len, List.length_map]) fun j y d e1 e2 => by
  obtain ⟨p, hp, rfl⟩ := map_at e2
  exact h.rel j y p e1 hp
def sp_law_some (K : PySem.W.Frag) : Sp := fun vs H Q _ => ∃ (F : Hp) (s : Addr) (v : V) (f : FilmD), vs = [.ref s, v] ∧ Same F H ∧ F s = none ∧ StOk s H ∧ Dp K F v f.dat ∧ OkFilm f ∧
  ∀ (F' H' : Hp) (b : Addr) (xs : List V) (ps : List PieceD), Gw [s] F H F' H' → StOk s H' → F' b = some (.lst xs) → Al (fun v p => Dp K F' v (p.dat f)) xs ps → (∀ p, p ∈ ps → OkP f p) → ps.length ≤ 20 → Q (.ref b) H'
def sp_law_mixed (K : PySem.W.Frag) : Sp := fun vs H Q _ => ∃ (F : Hp) (s a : Addr) (f : FilmD) (xs : List V) (ps : List PieceD), vs = [.ref s, .ref a] ∧ Same F H ∧ F s = none ∧ StOk s H ∧ F a = some (.lst xs) ∧ Al (fun v p => Dp K F v (p.dat f)) xs ps ∧ ps.length ≤ 20 ∧
  ∀ (F' H' : Hp) (b : Addr) (ys : List V) (qs : List PieceD), Gw [s] F H F' H' → StOk s H' → F' b = some (.lst ys) → Al (fun v p => Dp K F' v (p.dat f)) ys qs → qs.Perm ps → Q (.ref b) H'
abbrev N_law_some : List Str := ["_law_state", "_law_told", "_law_found", "_law_k", "_law_lane_here", "_law_leaves_here", "_law_first"]
theorem sc_law_some : FnScope N_law_some ["_law_state", "_law_told"] (defScope s_law_some) := ⟨rfl, rfl, rfl, by decide +kernel, rfl, by decide +kernel, by decide +kernel⟩
theorem ok_law_some (T : Ts K mg) (c_law_digit : C8.Cal P w K mg base 1 "_law_digit" sp_law_digit []) (c_law_runs : C8.Cal P w K mg base 1 "_law_runs" (sp_law_runs K) []) : C8.Cal P w K mg base 2 "_law_some" (sp_law_some K) [] := by
  refine cal_of T.f_law_some T.g_law_some sc_law_some (fun vs H Q E h => ?_) (fun _ _ _ _ _ _ us hl => match us, hl with | [_, _], _ => rfl) (fun cdv A outer s H vs Q E hr h => ⟨_, (pss_cons (ps_set (i := 2) sc_law_some.nd rfl (Or.inl rfl) (C8.pe_c c_law_runs hr (by decide) (by rfl) (pa_cons (pv 1) (pa_cons (pe_op op_add pe_int (C8.pe_c c_law_digit hr (by decide) (by rfl) (pa_cons (pv 0) (pa_cons pe_int pa_nil)))) pa_nil))))
      (pss_cons (ps_for PassesOwn.never rfl (pi_range1 (by rfl) T.m_range (pa_cons (pe_op op_mul (C8.pe_c c_law_digit hr (by decide) (by rfl) (pa_cons (pv 0) (pa_cons pe_int pa_nil))) (pe_callTy call_int1 (by rfl) T.m_int (by decide +kernel) (pa_cons (pe_cmpR (op_neD hr.units) (pv 2) (pe_lst pa_nil) (nomark _)) pa_nil))) pa_nil)) (pg_name (i := 3) sc_law_some.nd rfl (Or.inl rfl)) (pss_one (ps_expr (pe_bm PySem.F.plainAttrs_list PySem.F.slot_list_append PySem.F.type_list_append mt_append (pv 2) (pa_cons (pe_ix ix_list (pv 2) (C8.pe_c c_law_digit hr (by decide) (by rfl) (pa_cons (pv 0) (pa_cons (pe_callB call_len (by rfl) T.m_len PySem.boot_len (pa_cons (pv 2) pa_nil)) pa_nil))) (fun _ _ => rfl)) pa_nil)))))
      (pss_cons (ps_set (i := 4) sc_law_some.nd rfl (Or.inl rfl) (C8.pe_c c_law_digit hr (by decide) (by rfl) (pa_cons (pv 0) (pa_cons (pe_callB call_len (by rfl) T.m_len PySem.boot_len (pa_cons (pe_ix ix_tup (pv 1) pe_int (fun _ _ => rfl)) pa_nil)) pa_nil))))
      (pss_cons (ps_set (i := 5) sc_law_some.nd rfl (Or.inl rfl) (pe_ix ix_tup (pe_ix ix_list (pe_ix ix_tup (pv 1) pe_int (fun _ _ => rfl)) (pv 4) (fun _ _ => rfl)) pe_int (fun _ _ => rfl)))
      (C8.pss_cut (ps_if (PW.pt (pw_and (pt_cmpR (op_neD hr.units) (pv 5) (pe_lst pa_nil) (nomark _)) (pw_and1 (pt_cmpR op_eq (C8.pe_c c_law_digit hr (by decide) (by rfl) (pa_cons (pv 0) (pa_cons pe_int pa_nil))) pe_int (nomark _))))) (pss_cons (ps_set (i := 6) sc_law_some.nd rfl (Or.inl rfl) (C8.pe_c c_law_digit hr (by decide) (by rfl) (pa_cons (pv 0) (pa_cons (pe_callB call_len (by rfl) T.m_len PySem.boot_len (pa_cons (pv 5) pa_nil)) pa_nil))))
      (pss_one (ps_expr (pe_bm PySem.F.plainAttrs_list PySem.F.slot_list_append PySem.F.type_list_append mt_append (pv 2) (pa_cons (pe_tup (pa_cons (pe_ix ix_tup (pv 1) pe_int (fun _ _ => rfl)) (pa_cons (pv 4) (pa_cons (pv 6) (pa_cons (pe_slice sl_list (pv 5) (po_some (pv 6)) (po_some (pe_op op_add (pe_op op_add (pv 6) pe_int) (C8.pe_c c_law_digit hr (by decide) (by rfl) (pa_cons (pv 0) (pa_cons pe_int pa_nil)))))) pa_nil))))) pa_nil))))) pss_nil)
      (pss_one (ps_ret (pv 2)))))))), ?_⟩)
  · obtain ⟨F, s, v, f, rfl, _⟩ := h
    rfl
  · obtain ⟨F, s0, v, f, rfl, sF, hFs, st, hv, okf, q⟩ := h
    obtain ⟨t, lv, xs, rfl, t1, k1, k2⟩ := dp_film hv
    have hxl := k2.len
    rw [List.length_map] at hxl
    have n1 := okf.n1
    have n0 := okf.n0
    refine ⟨_, rfl, _, rfl, F, s0, 4, rfl, sF, hFs, st, by decide, by decide, fun H1 r1 g1 st1 hr1 => ?_⟩
    refine ⟨_, _, rfl, rfl, F, _, f, 1 + r1, rfl, g1.sub, hv, okf, by omega, fun F2 H2 fb ys ps g2 hf2 hF2 hf0 hal hok hpl => ?_⟩
    have g12 := g1.call g2
    have st2 : StOk s0 H2 := by
      obtain ⟨ns, a, b⟩ := st1
      exact ⟨ns, g2.same _ _ a, b⟩
    have nfb : fb ≠ s0 := st_ne st1 hf0
    have hFs2 := st.out g12 hFs
    have hfb0 : H fb = none := g1.dom _ hf0
    refine ⟨_, rfl, F2, s0, 4, rfl, g12.sub, hFs2, st2, by decide, by decide, fun H3 r3 g3 st3 hr3 => ?_⟩
    have g13 := g12.callM g3
    have hf3 := g3.keepS hf2 nfb
    refine ⟨_, rfl, by decide, fun e he => ?_⟩
    have g4 := g13.alloc (o := .lst []) he
    have hf4 := keep_upd hf3 he (o' := .lst [])
    refine ⟨.list (ps.map (PieceD.dat f)), .list [], .lst (.inl (.inl hf4)) ((pcs_dp hal).up g4.sub), .lst (.inl (.inl upd_same)) .nil, (shp_pieces f ps).ok, (shp_list (n := 0) (by simp)).ok, ?_⟩
    rw [eqv_nil]
    have st4 := st3.upd he (o := .lst [])
    refine .inr ⟨_, rfl, _, _, rfl, rfl, .inl ⟨by omega, by omega⟩, _, rfl, ?_⟩
    generalize hbb : (!(ps.map (PieceD.dat f)).isEmpty) = bb
    have hcnt : -(2 ^ 62) ≤ (r3 : Int) * (if bb = true then 1 else 0) ∧ (r3 : Int) * (if bb = true then 1 else 0) < 2 ^ 62 ∧ ((r3 : Int) * (if bb = true then 1 else 0)).toNat ≤ 3 ∧ (0 < ((r3 : Int) * (if bb = true then 1 else 0)).toNat → 0 < ps.length) := by
      cases bb with
      | true =>
        refine ⟨by simp <;> omega, by simp <;> omega, by simp <;> omega, fun _ => ?_⟩
        cases ps with
        | nil => simp at hbb
        | cons a r => simp
      | false => simp
    refine ⟨hcnt.1, hcnt.2.1, ?_⟩
    refine for_range (fun i σ H' => ∃ x3 ys ps, σ = [some (.ref s0), some (.ref t), some (.ref fb), x3, none, none, none] ∧ Gw [s0] F H F2 H' ∧ StOk s0 H' ∧ H' fb = some (.lst ys) ∧ Al (fun v p => Dp K F2 v (PieceD.dat f p)) ys ps ∧ (∀ p, p ∈ ps → OkP f p) ∧ ps.length ≤ 15 + i ∧ (i < ((r3 : Int) * (if bb = true then 1 else 0)).toNat → 0 < ps.length)) ⟨none, ys, ps, rfl, g4, st4, hf4, hal, hok, by omega, hcnt.2.2.2⟩ ?_ ?_
    · rintro i σ H5 hi ⟨x3, ys, ps, rfl, g5, st5, hf5, hal, hok, hpl, hne⟩
      have hp0 := hne hi
      have hyl := hal.len
      refine ⟨_, rfl, tyL hf5, _, rfl, _, rfl, _, rfl, _, _, rfl, .inl ⟨_, .inl (.inl hf5), rfl⟩, F2, s0, _, rfl, g5.sub, hFs2, st5, by omega, by omega, fun H6 r6 g6 st6 hr6 => ?_⟩
      have hf6 := g6.keepS hf5 nfb
      have hlt : r6 < ys.length := by omega
      have hy := List.getElem?_eq_getElem hlt
      obtain ⟨p, hp, hdp⟩ := hal.at1 hy
      refine ⟨fb, _, _, _, rfl, rfl, .inl (.inl hf6), atI_nat hy, ?_⟩
      refine ⟨fb, ys, _, rfl, rfl, hf6, lt_line (by omega), ?_⟩
      refine ⟨some (.int (0 + (i : Int))), ys ++ [ys[r6]], ps ++ [p], rfl, (g5.callM g6).put (.inl hfb0) hF2 hf6, st6.updNe nfb.symm, upd_same, hal.snoc hdp, fun z hz => ?_, by simp; omega, fun _ => by simp⟩
      rcases List.mem_append.mp hz with z1 | z1
      · exact hok z z1
      · rw [List.mem_singleton.mp z1]
        exact hok p (List.mem_of_getElem? hp)
    · rintro σ H5 ⟨x3, ys, ps, rfl, g5, st5, hf5, hal, hok, hpl, _⟩
      have hpl2 : ps.length ≤ 18 := by omega
      have t1' := Same.tup (g12.fs.trans g5.sub) t1
      refine ⟨_, rfl, _, rfl, _, _, _, _, rfl, rfl, t1', rfl, _, _, rfl, .inl ⟨_, (g12.fs.trans g5.sub).seq k1, rfl⟩, F2, s0, _, rfl, g5.sub, hFs2, st5, by omega, by omega, fun H6 r6 g6 st6 hr6 => ?_⟩
      have g56 := g5.callM g6
      have hf6 := g6.keepS hf5 nfb
      have hlt : r6 < xs.length := by omega
      have hl := List.getElem?_eq_getElem (show r6 < f.lanes.length by omega)
      obtain ⟨x, hx, dx⟩ := k2.get (i := r6) (d := f.lanes[r6].dat) (by rw [List.getElem?_map, hl]; rfl)
      have okl := okf.lane _ (List.mem_of_getElem? hl)
      have few := okl.few
      obtain ⟨elv, _⟩ := lvs_of hl
      obtain ⟨lt, llv, lxs, led, rfl, u1, u2, u3, u4⟩ := dp_lane dx
      have hll := u3.len
      rw [List.length_map] at hll
      have sF6 := g12.fs.trans g56.sub
      refine ⟨_, rfl, _, _, _, _, rfl, rfl, Same.tup sF6 t1, rfl, _, rfl, lv, xs, _, _, rfl, rfl, sF6.seq k1, atI_nat hx, _, _, _, _, rfl, rfl, Same.tup sF6 u1, rfl, ?_⟩
      refine ⟨fun σ H' => ∃ x6 F' ys ps, σ = [some (.ref s0), some (.ref t), some (.ref fb), x3, some (.int (r6 : Int)), some (.ref llv), x6] ∧ Gw [s0] F H F' H' ∧ StOk s0 H' ∧ H' fb = some (.lst ys) ∧ F' fb = none ∧ Al (fun v p => Dp K F' v (PieceD.dat f p)) ys ps ∧ (∀ p, p ∈ ps → OkP f p) ∧ ps.length ≤ 20, ?_, ?_⟩
      · refine ⟨_, rfl, by decide, fun e2 he2 => ?_⟩
        have g7 := g56.alloc (o := .lst []) he2
        have hf7 := keep_upd hf6 he2 (o' := .lst [])
        have st7 := st6.upd he2 (o := .lst [])
        refine ⟨.list (f.lanes[r6].leaves.map LeafD.dat), .list [], u4.up (g12.fs.trans g7.sub), .lst (.inl (.inl upd_same)) .nil, (shp_leaves _).ok, (shp_list (n := 0) (by simp)).ok, ?_⟩
        rw [eqv_nil]
        refine ⟨_, rfl, ite2 (fun c => ?_) fun c => ⟨none, F2, ys, ps, rfl, g7, st7, hf7, hF2, hal, hok, by omega⟩⟩
        have hne : 0 < f.lanes[r6].leaves.length := by
          cases e : f.lanes[r6].leaves with
          | nil => rw [e] at c; simp at c
          | cons a r => simp
        refine ⟨_, rfl, F2, s0, 2, rfl, g7.sub, hFs2, st7, by decide, by decide, fun H8 r8 g8 st8 hr8 => ?_⟩
        have g78 := g7.callM g8
        have hf8 := g8.keepS hf7 nfb
        refine ⟨rfl, _, rfl, ite2 (fun c2 => ?_) fun c2 => ⟨none, F2, ys, ps, rfl, g78, st8, hf8, hF2, hal, hok, by omega⟩⟩
        refine ⟨_, rfl, _, rfl, _, _, rfl, .inl ⟨_, (g12.fs.trans g78.sub).seq u2, rfl⟩, F2, s0, _, rfl, g78.sub, hFs2, st8, by omega, by omega, fun H9 r9 g9 st9 hr9 => ?_⟩
        have g79 := g78.callM g9
        have hf9 := g9.keepS hf8 nfb
        have sF9 := g12.fs.trans g79.sub
        refine ⟨_, rfl, tyL hf9, _, rfl, _, _, _, _, rfl, rfl, Same.tup sF9 t1, rfl, _, rfl, _, rfl, _, rfl, _, rfl, (r9 : Int), rfl, _, rfl, _, _, rfl, rfl, _, rfl, F2, s0, 3, rfl, g79.sub, hFs2, st9, by decide, by decide, fun H10 r10 g10 st10 hr10 => ?_⟩
        have g710 := g79.callM g10
        have hf10 := g10.keepS hf9 nfb
        have sF10 := g12.fs.trans g710.sub
        refine ⟨_, _, rfl, rfl, (r9 : Int) + 1 + (r10 : Int), rfl, llv, lxs, rfl, sF10.seq u2, fun cb hcb => ?_⟩
        rw [show (r9 : Int) + 1 + (r10 : Int) = (r9 : Int) + ((1 + r10 : Nat) : Int) by omega, cutV_min (by omega)]
        refine ⟨by show 4 ≤ sizeLine; decide, fun qp hqp => ?_⟩
        have g11 := g710.frz (o := .lst ((lxs.drop r9).take (min (1 + r10) (lxs.length - r9)))) hcb
        have g12' := g11.frz (o := .tup [.int f.sg, .int (r6 : Int), .int (r9 : Int), .ref cb]) hqp
        have hf11 := keep_upd hf10 hcb (o' := .lst ((lxs.drop r9).take (min (1 + r10) (lxs.length - r9))))
        have hf12 := keep_upd hf11 hqp (o' := .tup [.int f.sg, .int (r6 : Int), .int (r9 : Int), .ref cb])
        have hF12 := off_upd hf11 hqp (off_upd hf10 hcb hF2 (o' := .lst ((lxs.drop r9).take (min (1 + r10) (lxs.length - r9))))) (o' := .tup [.int f.sg, .int (r6 : Int), .int (r9 : Int), .ref cb])
        have s1 := same_new (o := .lst ((lxs.drop r9).take (min (1 + r10) (lxs.length - r9)))) (g710.ffresh hcb)
        have s2 := same_new (o := .tup [.int f.sg, .int (r6 : Int), .int (r9 : Int), .ref cb]) (g11.ffresh hqp)
        have hyl := hal.len
        refine ⟨fb, ys, _, rfl, rfl, hf12, lt_line (by omega), ?_⟩
        refine ⟨some (.int (r9 : Int)), _, ys ++ [.ref qp], ps ++ [⟨r6, r9, min (1 + r10) (lxs.length - r9)⟩], rfl, g12'.put (.inl hfb0) hF12 hf12, ((st10.upd hcb).upd hqp).updNe nfb.symm, upd_same, hF12, (hal.mono fun _ _ h => Dp.up h (s1.trans s2)).snoc ?_, fun p hp => ?_, by simp; omega⟩
        · refine .tup (SqT.of upd_same) (.cons (.int _) (.cons (.int _) (.cons (.int _) (.cons (.lst (.inl (.inl (s2 _ _ upd_same))) ?_) .nil))))
          have e : PieceD.ls f ⟨r6, r9, min (1 + r10) (lxs.length - r9)⟩ = (f.lanes[r6].leaves.drop r9).take (min (1 + r10) (lxs.length - r9)) := by
            unfold PieceD.ls
            rw [elv]
          show DpAll K _ _ ((PieceD.ls f ⟨r6, r9, min (1 + r10) (lxs.length - r9)⟩).map LeafD.dat)
          rw [e, List.map_take, List.map_drop]
          exact ((u3.up g12.fs).up (s1.trans s2)).drop r9 |>.take _
        · rcases List.mem_append.mp hp with z | z
          · exact hok p z
          · rw [List.mem_singleton.mp z]
            exact ⟨by show r6 < f.lanes.length; omega, by show 1 ≤ min (1 + r10) (lxs.length - r9); omega, by show r9 + min (1 + r10) (lxs.length - r9) ≤ (f.lvs r6).length; rw [elv]; omega⟩
      · rintro σ H7 ⟨x6, F7, ys, ps, rfl, g7, st7, hf7, hF7, hal, hok, hpl⟩
        exact ⟨_, rfl, q _ _ fb ys ps (g7.hold hf7 hfb0 hF7) st7 upd_same (hal.mono fun _ _ h => Dp.up h (same_new hF7)) hok hpl⟩
end
end Sc

namespace Sc
open PySem PySem.Spec PyProof.Rows L2
theorem call_list_ofK {X : Cx} {K0 : PySem.W.Frag} (h : X.K = K0) : CallR X (.type "list") (fun xs H Q => ∃ p ys, xs = [.ref p] ∧ (SqL K0 H p ys ∨ SqT K0 H p ys) ∧ ∀ l, H l = none → Q (.ref l) (L2.upd H l (.lst ys))) := by
  subst h
  exact call_list_of
theorem al3 {α β : Type} {R : α → β → Prop} {a b c : α} {x y z : β} (h1 : R a x) (h2 : R b y) (h3 : R c z) : Al R [a, b, c] [x, y, z] := ((Al.nil.snoc h1).snoc h2).snoc h3
structure OkDue (d : Int × Int) : Prop where
  t0 : 0 ≤ d.1
  t1 : d.1 ≤ 1000000000
  b0 : 1 ≤ d.2
  b1 : d.2 ≤ 1000000
  g : Int.gcd d.1 d.2 = 1
theorem OkDue.fr {d : Int × Int} (h : OkDue d) : OkFr d := ⟨h.t0, by have := h.t1; unfold big; omega, h.b0, by have := h.b1; unfold big; omega, h.g⟩
theorem due_okd {f : FilmD} {p : PieceD} (ok : OkFilm f) (h : OkP f p) : OkDue (due f p) := by
  obtain ⟨a, b, c, d⟩ := due_bnd ok h
  exact ⟨a, b, by omega, d, (due_lowest ok h).g⟩
section
variable {P : Program} {w : World} {K : PySem.W.Frag} {mg : Str → Option Value} {base : Heap}
abbrev N_law_mixed : List Str := ["_law_state", "_law_some_here", "_law_left", "_law_found"]
theorem sc_law_mixed : FnScope N_law_mixed ["_law_state", "_law_some_here"] (defScope s_law_mixed) := ⟨rfl, rfl, rfl, by decide +kernel, rfl, by decide +kernel, by decide +kernel⟩
theorem ok_law_mixed (T : Ts K mg) (c_law_digit : C8.Cal P w K mg base 1 "_law_digit" sp_law_digit []) : C8.Cal P w K mg base 2 "_law_mixed" (sp_law_mixed K) [] := by
  refine cal_of T.f_law_mixed T.g_law_mixed sc_law_mixed (fun vs H Q E h => ?_) (fun _ _ _ _ _ _ us hl => match us, hl with | [_, _], _ => rfl) (fun cdv A outer s H vs Q E hr h => ⟨_, (pss_cons (ps_set (i := 2) sc_law_mixed.nd rfl (Or.inl rfl) (pe_callTy call_list_of (by rfl) T.m_list (by decide +kernel) (pa_cons (pv 1) pa_nil)))
      (pss_cons (ps_set (i := 3) sc_law_mixed.nd rfl (Or.inl rfl) (pe_lst pa_nil))
      (pss_cons (ps_while PassesOwn.never (pt_cmpR (op_neD hr.units) (pv 2) (pe_lst pa_nil) (nomark _)) (pss_one (ps_expr (pe_bm PySem.F.plainAttrs_list PySem.F.slot_list_append PySem.F.type_list_append mt_append (pv 3) (pa_cons (pe_bm PySem.F.plainAttrs_list PySem.F.slot_list_pop PySem.F.type_list_pop mt_popAt (pv 2) (pa_cons (C8.pe_c c_law_digit hr (by decide) (by rfl) (pa_cons (pv 0) (pa_cons (pe_callB call_len (by rfl) T.m_len PySem.boot_len (pa_cons (pv 2) pa_nil)) pa_nil))) pa_nil)) pa_nil)))))
      (pss_one (ps_ret (pv 3)))))), ?_⟩)
  · obtain ⟨F, s, a, f, xs, ps, rfl, _⟩ := h
    rfl
  · obtain ⟨F, s0, pa, f, xs, ps, rfl, sF, hFs, st, hpa, hps, hn, q⟩ := h
    refine ⟨_, rfl, pa, xs, rfl, .inl (.inl (.inl (sF _ _ hpa))), fun la hla => ?_⟩
    have g0 := (Gw.refl (M := [s0]) sF).alloc (o := .lst xs) hla
    have nla := st_ne st hla
    refine ⟨by decide, fun fb hfb => ?_⟩
    have g1 := g0.alloc (o := .lst []) hfb
    have st1 := (st.upd hla (o := .lst xs)).upd hfb (o := .lst [])
    have nfb := st_ne (st.upd hla (o := .lst xs)) hfb
    have nlf : la ≠ fb := ne_of_some (H := upd H la (.lst xs)) upd_same hfb
    have hfb0 := g0.dom _ hfb
    refine while_by (fun σ H' => ∃ F' ls fs lp fp, σ = [some (.ref s0), some (.ref pa), some (.ref la), some (.ref fb)] ∧ Gw [s0] F H F' H' ∧ StOk s0 H' ∧ H' la = some (.lst ls) ∧ F' la = none ∧ H' fb = some (.lst fs) ∧ F' fb = none ∧ Al (fun v p => Dp K F' v (PieceD.dat f p)) ls lp ∧ Al (fun v p => Dp K F' v (PieceD.dat f p)) fs fp ∧ (fp ++ lp).Perm ps)
      (fun _ H' => match H' la with | some (.lst ls) => ls.length | _ => 0)
      ⟨F, xs, [], ps, [], rfl, g1, st1, keep_upd upd_same hfb, sF.free hla, upd_same, sF.free hfb0, hps, .nil, .refl _⟩ ?_ (fun σ H Q Q' k h => ?_)
    · rintro σ H2 ⟨F2, ls, fs, lp, fp, rfl, g2, st2, hl2, hFl2, hf2, hFf2, hal, haf, hperm⟩
      have hFs2 := st.out g2 hFs
      have hpl := hperm.length_eq
      rw [List.length_append] at hpl
      have hll := hal.len
      have hfl := haf.len
      refine ⟨_, rfl, by decide, fun e he => ?_⟩
      have g3 := g2.alloc (o := .lst []) he
      have hl3 := keep_upd hl2 he (o' := .lst [])
      have hf3 := keep_upd hf2 he (o' := .lst [])
      have st3 := st2.upd he (o := .lst [])
      refine ⟨.list (lp.map (PieceD.dat f)), .list [], .lst (.inl (.inl hl3)) ((pcs_dp hal).up g3.sub), .lst (.inl (.inl upd_same)) .nil, (shp_pieces f lp).ok, (shp_list (n := 0) (by simp)).ok, ?_⟩
      rw [eqv_nil]
      refine ⟨_, rfl, ite2 (fun c => ?_) fun c => ?_⟩
      · have hlp : 0 < lp.length := by
          cases lp with
          | nil => simp at c
          | cons a r => simp
        refine ⟨_, rfl, tyL hf3, _, rfl, tyL hl3, _, rfl, _, rfl, _, _, rfl, .inl ⟨_, .inl (.inl hl3), rfl⟩, F2, s0, _, rfl, g3.sub, hFs2, st3, by omega, by omega, fun H4 r4 g4 st4 hr4 => ?_⟩
        have g34 := g3.callM g4
        have hl4 := g4.keepS hl3 nla
        have hf4 := g4.keepS hf3 nfb
        have hlt : r4 < ls.length := by omega
        have hy := List.getElem?_eq_getElem hlt
        obtain ⟨p, hp, hdp⟩ := hal.at1 hy
        refine ⟨la, ls, _, r4, _, rfl, rfl, hl4, by omega, by omega, seqIx hlt, hy, ?_⟩
        have g5 := g34.put (o' := .lst (ls.eraseIdx r4)) (.inl hla) hFl2 hl4
        have hf5 : upd H4 la (.lst (ls.eraseIdx r4)) fb = some (.lst fs) := by rw [upd_ne nlf.symm]; exact hf4
        have hl5 : upd H4 la (.lst (ls.eraseIdx r4)) la = some (.lst (ls.eraseIdx r4)) := upd_same
        refine ⟨fb, fs, _, rfl, rfl, hf5, lt_line (by omega), ?_⟩
        have hl6 : upd (upd H4 la (.lst (ls.eraseIdx r4))) fb (.lst (fs ++ [ls[r4]])) la = some (.lst (ls.eraseIdx r4)) := by rw [upd_ne nlf]; exact hl5
        refine ⟨⟨F2, ls.eraseIdx r4, fs ++ [ls[r4]], lp.eraseIdx r4, fp ++ [p], rfl, g5.put (.inl hfb0) hFf2 hf5, (st4.updNe nla.symm).updNe nfb.symm, hl6, hFl2, upd_same, hFf2, hal.erase r4, haf.snoc hdp, ?_⟩, ?_⟩
        · rw [List.append_assoc, List.singleton_append]
          exact ((erase_perm hp).append_left fp).trans hperm
        · show (match upd (upd H4 la (.lst (ls.eraseIdx r4))) fb (.lst (fs ++ [ls[r4]])) la with | some (.lst ls) => ls.length | _ => 0) < (match H2 la with | some (.lst ls) => ls.length | _ => 0)
          rw [hl6, hl2]
          show (ls.eraseIdx r4).length < ls.length
          rw [List.length_eraseIdx, if_pos hlt]
          omega
      · have hlp : lp = [] := by
          cases lp with
          | nil => rfl
          | cons a r => exact absurd rfl c
        subst hlp
        rw [List.append_nil] at hperm
        refine ⟨_, rfl, q _ _ fb fs fp (g3.hold hf3 hfb0 hFf2) st3 upd_same (haf.mono fun _ _ h => Dp.up h (same_new hFf2)) hperm⟩
    · obtain ⟨v, e1, h1, h2⟩ := h
      refine ⟨v, e1, h1, fun p hp => ?_⟩
      obtain ⟨dd, ee, k1, k2, k3, k4, kk, e5, h5⟩ := h2 p hp
      exact ⟨dd, ee, k1, k2, k3, k4, kk, e5, k _ _ h5⟩
def sp_law_moments (K : PySem.W.Frag) : Sp := fun vs H Q _ => ∃ (F : Hp) (s a : Addr) (xs : List V) (ds : List (Int × Int)), vs = [.ref s, .ref a] ∧ Same F H ∧ F s = none ∧ StOk s H ∧ F a = some (.lst xs) ∧ Al (fun v d => Dp K F v (frD d)) xs ds ∧ (∀ d, d ∈ ds → OkDue d) ∧
  ∀ (F' H' : Hp) (b : Addr) (ys : List V) (ts : List (Int × Int)), Gw [s] F H F' H' → StOk s H' → F' b = some (.lst ys) → Al (fun v d => Dp K F' v (frD d)) ys ts → (∀ d, d ∈ ts → OkFr d) → Q (.ref b) H'
def sp_law_read_by (K : PySem.W.Frag) : Sp := fun vs H Q _ => ∃ (F : Hp) (a : Addr) (tv : V) (xs : List V) (ds : List (Int × Int)) (t : Int × Int), vs = [.ref a, tv] ∧ Same F H ∧ F a = some (.lst xs) ∧ Al (fun v d => Dp K F v (frD d)) xs ds ∧ (∀ d, d ∈ ds → OkDue d) ∧ Dp K F tv (frD t) ∧ OkFr t ∧
  ∀ (F' H' : Hp), Gw [] F H F' H' → Q (.int (readBy t ds : Nat)) H'
def sp_law_copy (K : PySem.W.Frag) : Sp := fun vs H Q _ => ∃ (F : Hp) (a : Addr) (f : FilmD) (xs : List V) (ps : List PieceD), vs = [.ref a] ∧ Same F H ∧ F a = some (.lst xs) ∧ Al (fun v p => Dp K F v (p.dat f)) xs ps ∧ ps.length ≤ 20 ∧
  ∀ (F' H' : Hp) (b : Addr) (ys : List V), Gw [] F H F' H' → F' b = some (.lst ys) → Al (fun v p => Dp K F' v (p.dat f)) ys ps → Q (.ref b) H'
abbrev N_law_read_by : List Str := ["_law_dues", "_law_t", "_law_found", "_law_at", "_law_due_here"]
theorem sc_law_read_by : FnScope N_law_read_by ["_law_dues", "_law_t"] (defScope s_law_read_by) := ⟨rfl, rfl, rfl, by decide +kernel, rfl, by decide +kernel, by decide +kernel⟩
theorem ok_law_read_by (T : Ts K mg) (c_law_less : C8.Cal P w K mg base 1 "_law_less" (sp_less K) []) : C8.Cal P w K mg base 2 "_law_read_by" (sp_law_read_by K) [] := by
  refine cal_of T.f_law_read_by T.g_law_read_by sc_law_read_by (fun vs H Q E h => ?_) (fun _ _ _ _ _ _ us hl => match us, hl with | [_, _], _ => rfl) (fun cdv A outer s H vs Q E hr h => ⟨_, (pss_cons (ps_set (i := 2) sc_law_read_by.nd rfl (Or.inl rfl) pe_int)
      (pss_cons (ps_for PassesOwn.never rfl (pi_enum (by rfl) T.m_enumerate (pa_cons (pv 0) pa_nil)) (pg_tup rfl (pgs_cons (pg_name (i := 3) sc_law_read_by.nd rfl (Or.inl rfl)) (pgs_cons (pg_name (i := 4) sc_law_read_by.nd rfl (Or.inl rfl)) pgs_nil))) (pss_one (ps_if (pt_not (pt_val (C8.pe_c c_law_less hr (by decide) (by rfl) (pa_cons (pv 1) (pa_cons (pv 4) pa_nil))))) (pss_one (ps_set (i := 2) sc_law_read_by.nd rfl (Or.inl rfl) (pe_op op_add (pv 3) pe_int))) pss_nil)))
      (pss_one (ps_ret (pv 2))))), ?_⟩)
  · obtain ⟨F, a, tv, xs, ds, t, rfl, _⟩ := h
    rfl
  · obtain ⟨F, pa, tv, xs, ds, t, rfl, sF, hpa, hal, hok, ht, okt, q⟩ := h
    have hxl := hal.len
    refine ⟨_, rfl, pa, xs, rfl, .inl (.inl (sF _ _ hpa)), ?_⟩
    refine for_it (walk_enum (xs := xs)) (fun i σ H' => ∃ x3 x4, σ = [some (.ref pa), some tv, some (.int (readBy t (ds.take i) : Nat)), x3, x4] ∧ Gw [] F H F H') ⟨none, none, rfl, Gw.refl sF⟩ ?_ ?_ ?_
    · rintro i σ H2 hi ⟨x3, x4, rfl, g2⟩
      exact .inl (.inl (g2.sub _ _ hpa))
    · rintro i x σ H2 H3 hi ⟨x3, x4, rfl, g2⟩ ⟨tp, x', y', rfl, htp, rfl, e5, hy⟩
      cases e5
      have hp := List.getElem?_eq_getElem (show i < ds.length by omega)
      have okp := hok _ (List.mem_of_getElem? hp)
      have g3 := g2.alloc (o := .tup [.int ((i : Nat) : Int), y']) htp
      have hfr := (hal.rel i _ _ hy hp).up g3.sub
      refine ⟨_, _, rfl, SqT.of upd_same, rfl, _, _, rfl, _, _, rfl, rfl, ?_⟩
      refine ⟨_, rfl, _, rfl, _, _, t, _, rfl, ht.up g3.sub, hfr, okt.bnd, okp.fr.bnd, _, rfl, ?_⟩
      have e : readBy t (ds.take (i + 1)) = if dlt t ds[i] then readBy t (ds.take i) else i + 1 := by
        have := take_succ_map (f := id) hp
        simp only [List.map_id, id] at this
        rw [this, readBy_snoc, List.length_take, Nat.min_eq_left (by omega)]
      by_cases c : dlt t ds[i]
      · rw [decide_eq_true (show t.1 * ds[i].2 < ds[i].1 * t.2 from c)]
        refine iteF ⟨some (.int (i : Int)), some y', ?_, g3⟩
        rw [e, if_pos c]
        rfl
      · rw [decide_eq_false (show ¬ t.1 * ds[i].2 < ds[i].1 * t.2 from c)]
        refine iteT ⟨_, rfl, _, _, rfl, rfl, some (.int (i : Int)), some y', ?_, g3⟩
        rw [e, if_neg c]
        rfl
    · rintro σ H2 ⟨x3, x4, rfl, g2⟩
      refine ⟨_, rfl, ?_⟩
      rw [hxl, List.take_length]
      exact q F H2 g2
abbrev N_law_copy : List Str := ["_law_some_here", "_law_seal", "_law_lane_here", "_law_first", "_law_leaves_here"]
theorem sc_law_copy : FnScope N_law_copy ["_law_some_here"] (defScope s_law_copy) := ⟨rfl, rfl, rfl, by decide +kernel, rfl, by decide +kernel, by decide +kernel⟩
theorem ok_law_copy (T : Ts K mg) : C8.Cal P w K mg base 1 "_law_copy" (sp_law_copy K) [] := by
  refine cal_of T.f_law_copy T.g_law_copy sc_law_copy (fun vs H Q E h => ?_) (fun _ _ _ _ _ _ us hl => match us, hl with | [_], _ => rfl) (fun cdv A outer s H vs Q E hr h => ⟨_, (pss_one (ps_ret (pe_lc (own := [("_law_seal", 1), ("_law_lane_here", 2), ("_law_first", 3), ("_law_leaves_here", 4)]) rfl sc_law_copy.nd (pi_list (pv 0)) (blkOk_by (N := N_law_copy) (sc := defScope s_law_copy) (by decide +kernel)) (fun _ _ _ _ _ => (pg_tupK (K0 := K) (n := 4) rfl rfl (pgs_cons (pg_name (i := 1) sc_law_copy.nd rfl (Or.inl rfl) (Or.inr rfl)) (pgs_cons (pg_name (i := 2) sc_law_copy.nd rfl (Or.inl rfl) (Or.inr rfl)) (pgs_cons (pg_name (i := 3) sc_law_copy.nd rfl (Or.inl rfl) (Or.inr rfl)) (pgs_cons (pg_name (i := 4) sc_law_copy.nd rfl (Or.inl rfl) (Or.inr rfl)) pgs_nil)))))) (fun _ _ _ _ _ => pts_nil) (fun _ _ _ _ _ => (pe_tup (pa_cons (pv 1) (pa_cons (pv 2) (pa_cons (pv 3) (pa_cons (pe_callTy (call_list_ofK (K0 := K) rfl) (by rfl) T.m_list (by decide +kernel) (pa_cons (pv 4) pa_nil)) pa_nil))))))))), ?_⟩)
  · obtain ⟨F, a, f, xs, ps, rfl, _⟩ := h
    rfl
  · obtain ⟨F, pa, f, xs, ps, rfl, sF, hpa, hal, hn, q⟩ := h
    have hxl := hal.len
    refine ⟨_, rfl, pa, rfl, ⟨xs, .inl (.inl (sF _ _ hpa))⟩, fun D hD => ?_⟩
    refine lc_gw (M := []) (F1 := F) (walk_list (xs := xs)) (fun _ => True) (fun i F' y => ∃ p, ps[i]? = some p ∧ Dp K F' y (p.dat f)) sF hD (by simp) (by omega) trivial (fun _ _ _ => trivial) (fun i F F' v s h => by
      obtain ⟨p, a, b⟩ := h
      exact ⟨p, a, b.up s⟩) (fun H s => .inl (.inl (s _ _ hpa))) ?_ ?_
    · rintro i y F2 H2 _ Q' hi sub fs2 _ ⟨rfl, hy⟩ k
      obtain ⟨p, hp, hdp⟩ := hal.at1 hy
      obtain ⟨pt, lb, us, rfl, p1, p2, p3⟩ := dp_piece (hdp.up fs2)
      refine ⟨_, _, rfl, Same.tup sub p1, rfl, _, _, rfl, _, _, rfl, _, _, rfl, _, _, rfl, rfl, rfl, ?_⟩
      refine ⟨_, rfl, _, rfl, _, rfl, _, rfl, lb, us, rfl, .inl (sub.seq p2), fun l1 hl1 => ⟨by show 4 ≤ sizeLine; decide, fun tp htp => ?_⟩⟩
      have g1 := (Gw.refl (M := []) sub).frz (o := .lst us) hl1
      have g2 := g1.frz (o := .tup [.int f.sg, .int (p.lane : Int), .int (p.first : Int), .ref l1]) htp
      have s1 := same_new (o := .lst us) ((Gw.refl (M := []) sub).ffresh hl1)
      have s2 := same_new (o := .tup [.int f.sg, .int (p.lane : Int), .int (p.first : Int), .ref l1]) (g1.ffresh htp)
      exact k _ _ _ g2 trivial ⟨p, hp, .tup (SqT.of upd_same) (.cons (.int _) (.cons (.int _) (.cons (.int _) (.cons (.lst (.inl (.inl (s2 _ _ upd_same))) (p3.up (s1.trans s2))) .nil))))⟩
    · intro F2 H2 acc g2 fs2 _ hDa hFD hlen hres
      refine q _ _ D acc (((Gw.refl (M := []) sF).call g2).hold hDa hD hFD) upd_same ⟨by omega, fun i x p e1 e2 => ?_⟩
      obtain ⟨p', e3, r⟩ := hres i x e1
      rw [e2] at e3
      cases e3
      exact r.up (same_new hFD)
abbrev N_law_moments : List Str := ["_law_state", "_law_dues", "_law_found", "_law_top", "_law_bottom"]
theorem sc_law_moments : FnScope N_law_moments ["_law_state", "_law_dues"] (defScope s_law_moments) := ⟨rfl, rfl, rfl, by decide +kernel, rfl, by decide +kernel, by decide +kernel⟩
theorem ok_law_moments (T : Ts K mg) (c_law_digit : C8.Cal P w K mg base 1 "_law_digit" sp_law_digit []) (c_law_lowest : C8.Cal P w K mg base 2 "_law_lowest" sp_law_lowest []) : C8.Cal P w K mg base 3 "_law_moments" (sp_law_moments K) [] := by
  refine cal_of T.f_law_moments T.g_law_moments sc_law_moments (fun vs H Q E h => ?_) (fun _ _ _ _ _ _ us hl => match us, hl with | [_, _], _ => rfl) (fun cdv A outer s H vs Q E hr h => ⟨_, (pss_cons (ps_set (i := 2) sc_law_moments.nd rfl (Or.inl rfl) (pe_lst (pa_cons (pe_tup (pa_cons pe_int (pa_cons pe_int pa_nil))) (pa_cons (pe_tup (pa_cons (pe_op op_pow pe_int pe_int) (pa_cons pe_int pa_nil))) (pa_cons (C8.pe_c c_law_lowest hr (by decide) (by rfl) (pa_cons (C8.pe_c c_law_digit hr (by decide) (by rfl) (pa_cons (pv 0) (pa_cons pe_int pa_nil))) (pa_cons (pe_op op_add pe_int (C8.pe_c c_law_digit hr (by decide) (by rfl) (pa_cons (pv 0) (pa_cons pe_int pa_nil)))) pa_nil))) pa_nil)))))
      (pss_cons (ps_for PassesOwn.never rfl (pi_list (pe_slice sl_list (pv 1) po_none (po_some pe_int))) (pg_tup rfl (pgs_cons (pg_name (i := 3) sc_law_moments.nd rfl (Or.inl rfl)) (pgs_cons (pg_name (i := 4) sc_law_moments.nd rfl (Or.inl rfl)) pgs_nil))) (pss_cons (ps_set (i := 2) sc_law_moments.nd rfl (Or.inl rfl) (pe_op op_cat (pv 2) (pe_lst (pa_cons (pe_tup (pa_cons (pv 3) (pa_cons (pv 4) pa_nil))) (pa_cons (C8.pe_c c_law_lowest hr (by decide) (by rfl) (pa_cons (pe_op op_add (pe_op op_mul pe_int (pv 3)) pe_int) (pa_cons (pe_op op_mul pe_int (pv 4)) pa_nil))) pa_nil)))))
      (pss_one (ps_expr (pe_bm PySem.F.plainAttrs_list PySem.F.slot_list_append PySem.F.type_list_append mt_append (pv 2) (pa_cons (C8.pe_c c_law_lowest hr (by decide) (by rfl) (pa_cons (pe_callB (call_max2 rfl) (by rfl) T.m_max (by decide +kernel) (pa_cons pe_int (pa_cons (pe_op op_sub (pe_op op_mul pe_int (pv 3)) pe_int) pa_nil))) (pa_cons (pe_op op_mul pe_int (pv 4)) pa_nil))) pa_nil))))))
      (pss_one (ps_ret (pv 2))))), ?_⟩)
  · obtain ⟨F, s, a, xs, ds, rfl, _⟩ := h
    rfl
  · obtain ⟨F, s0, pa, xs, ds, rfl, sF, hFs, st, hpa, hal, hok, q⟩ := h
    have p12 : ((10 : Int) ^ (12 : Int).toNat) = 1000000000000 := by decide
    have b15 : big = 1000000000000000 := rfl
    refine ⟨by show 2 ≤ sizeLine; decide, fun t1 ht1 => ?_⟩
    have g1 := (Gw.refl (M := [s0]) sF).frz (o := .tup [.int 0, .int 1]) ht1
    refine ⟨_, _, rfl, rfl, ⟨by decide, by decide, by decide⟩, by show 2 ≤ sizeLine; decide, fun t2 ht2 => ?_⟩
    have g2 := g1.frz (o := .tup [.int ((10 : Int) ^ (12 : Int).toNat), .int 1]) ht2
    have st2 := (st.upd ht1 (o := .tup [.int 0, .int 1])).upd ht2 (o := .tup [.int ((10 : Int) ^ (12 : Int).toNat), .int 1])
    have hFs2 := st.out g2 hFs
    refine ⟨_, rfl, _, s0, 90, rfl, g2.sub, hFs2, st2, by decide, by decide, fun H3 r3 g3 st3 hr3 => ?_⟩
    refine ⟨_, rfl, _, s0, 7, rfl, (g2.callM g3).sub, hFs2, st3, by decide, by decide, fun H4 r4 g4 st4 hr4 => ?_⟩
    have g24 := (g2.callM g3).callM g4
    refine ⟨_, _, rfl, rfl, _, _, rfl, by omega, by omega, fun t3 ht3 => ?_⟩
    have g5 := g24.frz (o := .tup [.int (low (r3 : Int) (1 + (r4 : Int))).1, .int (low (r3 : Int) (1 + (r4 : Int))).2]) ht3
    have st5 := st4.upd ht3 (o := .tup [.int (low (r3 : Int) (1 + (r4 : Int))).1, .int (low (r3 : Int) (1 + (r4 : Int))).2])
    refine ⟨by show 3 ≤ sizeLine; decide, fun fb hfb => ?_⟩
    have g6 := g5.alloc (o := .lst [.ref t1, .ref t2, .ref t3]) hfb
    have st6 := st5.upd hfb (o := .lst [.ref t1, .ref t2, .ref t3])
    have nfb := st_ne st5 hfb
    have z1 := same_new (o := .tup [.int ((10 : Int) ^ (12 : Int).toNat), .int 1]) (g1.ffresh ht2)
    have z2 := same_new (o := .tup [.int (low (r3 : Int) (1 + (r4 : Int))).1, .int (low (r3 : Int) (1 + (r4 : Int))).2]) (g24.ffresh ht3)
    have al0 : Al (fun v d => Dp K (upd (upd (upd F t1 (.tup [.int 0, .int 1])) t2 (.tup [.int ((10 : Int) ^ (12 : Int).toNat), .int 1])) t3 (.tup [.int (low (r3 : Int) (1 + (r4 : Int))).1, .int (low (r3 : Int) (1 + (r4 : Int))).2])) v (frD d)) [V.ref t1, .ref t2, .ref t3] [((0, 1) : Int × Int), ((10 : Int) ^ (12 : Int).toNat, 1), low (r3 : Int) (1 + (r4 : Int))] :=
      al3 (Dp.fr (p := (0, 1)) (z2 _ _ (z1 _ _ upd_same))) (Dp.fr (p := ((10 : Int) ^ (12 : Int).toNat, 1)) (z2 _ _ upd_same)) (Dp.fr upd_same)
    have ok0 : ∀ d : Int × Int, d ∈ [((0, 1) : Int × Int), ((10 : Int) ^ (12 : Int).toNat, 1), low (r3 : Int) (1 + (r4 : Int))] → OkFr d := fun d hd => by
      simp only [List.mem_cons, List.not_mem_nil, or_false] at hd
      rcases hd with rfl | rfl | rfl
      · exact fr01
      · rw [p12]
        exact ⟨by decide, by decide, by decide, by decide, by decide⟩
      · exact low_ok (by omega) (by omega) (by omega) (by omega)
    have s05 := g5.fs
    have nfF := g5.ffresh hfb
    generalize upd (upd (upd F t1 (.tup [.int 0, .int 1])) t2 (.tup [.int ((10 : Int) ^ (12 : Int).toNat), .int 1])) t3 (.tup [.int (low (r3 : Int) (1 + (r4 : Int))).1, .int (low (r3 : Int) (1 + (r4 : Int))).2]) = F5 at *
    refine ⟨_, rfl, 2, rfl, pa, xs, rfl, .inl (.inl (g6.sub _ _ (s05 _ _ hpa))), fun cb hcb => ?_⟩
    have g7 := g6.frz (o := .lst (cutV xs none (some 2))) hcb
    have st7 := st6.upd hcb (o := .lst (cutV xs none (some 2)))
    have hf7 := keep_upd (upd_same (a := fb) (o := .lst [.ref t1, .ref t2, .ref t3])) hcb (o' := .lst (cutV xs none (some 2)))
    have z3 := same_new (o := .lst (cutV xs none (some 2))) (g6.ffresh hcb)
    have hfb0 := g5.dom _ hfb
    have nfF7 := off_upd (upd_same (a := fb) (o := .lst [.ref t1, .ref t2, .ref t3])) hcb nfF (o' := .lst (cutV xs none (some 2)))
    have hcl : (cutV xs none (some 2)).length ≤ 2 := by
      unfold cutV
      rw [List.length_take, HT.sIx_none, show (some (2 : Int)) = some ((2 : Nat) : Int) from rfl, HT.sIx_nat]
      omega
    have hcm : ∀ v, v ∈ cutV xs none (some 2) → v ∈ xs := fun v hv => by
      unfold cutV at hv
      exact List.mem_of_mem_drop (List.mem_of_mem_take hv)
    refine ⟨cb, rfl, ⟨_, .inl (.inl upd_same)⟩, ?_⟩
    refine for_list (xs := cutV xs none (some 2)) (fun i σ H' => ∃ fb x3 x4 F' ys ts, σ = [some (.ref s0), some (.ref pa), some (.ref fb), x3, x4] ∧ Gw [s0] F H F' H' ∧ Same (upd F5 cb (.lst (cutV xs none (some 2)))) F' ∧ StOk s0 H' ∧ fb ≠ s0 ∧ H' fb = some (.lst ys) ∧ F' fb = none ∧ H fb = none ∧ ys.length = 3 + 3 * i ∧ Al (fun v d => Dp K F' v (frD d)) ys ts ∧ ∀ d : Int × Int, d ∈ ts → OkFr d) ⟨fb, none, none, _, [.ref t1, .ref t2, .ref t3], [((0, 1) : Int × Int), ((10 : Int) ^ (12 : Int).toNat, 1), low (r3 : Int) (1 + (r4 : Int))], rfl, g7, Same.refl _, st7, nfb, hf7, nfF7, hfb0, rfl, al0.mono fun _ _ h => Dp.up h z3, ok0⟩ ?_ ?_ ?_
    · rintro i σ H8 hi ⟨fb, x3, x4, F8, ys, ts, rfl, g8, s8, _⟩
      exact .inl (.inl (g8.sub _ _ (s8 _ _ upd_same)))
    · rintro i x σ H8 hx ⟨fb, x3, x4, F8, ys, ts, rfl, g8, s8, st8, nfb, hf8, hF8, hfb0, hyl, hal8, hok8⟩
      have hi2 := (List.getElem?_eq_some_iff.mp hx).1
      obtain ⟨j, hj⟩ := List.getElem?_of_mem (hcm x (List.mem_of_getElem? hx))
      obtain ⟨d, hd, hdp⟩ := hal.at1 hj
      obtain ⟨d0, d1, d2, d3, d4⟩ := hok d (List.mem_of_getElem? hd)
      have sF8 := (s05.trans (z3.trans s8))
      obtain ⟨da, rfl, hda⟩ := (hdp.up (sF8.trans g8.sub)).frE
      refine ⟨_, _, rfl, hda, rfl, _, _, rfl, _, _, rfl, rfl, ?_⟩
      refine ⟨_, rfl, _, rfl, _, rfl, by show 2 ≤ sizeLine; decide, fun a1 ha1 => ?_⟩
      have k1 := g8.frz (o := .tup [.int d.1, .int d.2]) ha1
      refine ⟨_, rfl, _, _, rfl, rfl, .inl ⟨by decide, by decide⟩, _, _, rfl, rfl, _, rfl, _, _, rfl, rfl, .inl ⟨by decide, by decide⟩, _, _, rfl, by omega, by omega, fun a2 ha2 => ?_⟩
      have k2 := k1.frz (o := .tup [.int (low (2 * d.1 + 1) (2 * d.2)).1, .int (low (2 * d.1 + 1) (2 * d.2)).2]) ha2
      refine ⟨by show 2 ≤ sizeLine; decide, fun l1 hl1 => ?_⟩
      have k3 := k2.alloc (o := .lst [.ref a1, .ref a2]) hl1
      have hf9 := keep_upd (keep_upd (keep_upd hf8 ha1 (o' := .tup [.int d.1, .int d.2])) ha2 (o' := .tup [.int (low (2 * d.1 + 1) (2 * d.2)).1, .int (low (2 * d.1 + 1) (2 * d.2)).2])) hl1 (o' := .lst [.ref a1, .ref a2])
      refine ⟨fb, l1, ys, [.ref a1, .ref a2], rfl, rfl, hf9, upd_same, Nat.le_of_lt (lt_line (by simp; omega)), fun nb hnb => ?_⟩
      have k4 := k3.alloc (o := .lst (ys ++ [.ref a1, .ref a2])) hnb
      have st9 := (((st8.upd ha1 (o := .tup [.int d.1, .int d.2])).upd ha2 (o := .tup [.int (low (2 * d.1 + 1) (2 * d.2)).1, .int (low (2 * d.1 + 1) (2 * d.2)).2])).upd hl1 (o := .lst [.ref a1, .ref a2]))
      have nnb := st_ne st9 hnb
      have st10 := st9.upd hnb (o := .lst (ys ++ [.ref a1, .ref a2]))
      have hnb0 := k3.dom _ hnb
      have hnF := k3.ffresh hnb
      refine ⟨_, rfl, tyL upd_same, _, rfl, _, _, rfl, rfl, .inl ⟨by decide, by decide⟩, _, _, rfl, rfl, _, _, rfl, ?_⟩
      generalize hm : (if 3 * d.1 - 1 > (0 : Int) then 3 * d.1 - 1 else (0 : Int)) = mm
      have hmm : 0 ≤ mm ∧ mm ≤ 3000000000 := by
        by_cases c : 3 * d.1 - 1 > (0 : Int)
        · rw [if_pos c] at hm
          omega
        · rw [if_neg c] at hm
          omega
      refine ⟨_, rfl, _, _, rfl, rfl, .inl ⟨by decide, by decide⟩, mm, 3 * d.2, ?_, by omega, by omega, fun a3 ha3 => ?_⟩
      · rw [← hm]
        rfl
      have k5 := k4.frz (o := .tup [.int (low mm (3 * d.2)).1, .int (low mm (3 * d.2)).2]) ha3
      have hnb5 := keep_upd (upd_same (a := nb) (o := .lst (ys ++ [.ref a1, .ref a2]))) ha3 (o' := .tup [.int (low mm (3 * d.2)).1, .int (low mm (3 * d.2)).2])
      have hnF5 := off_upd (upd_same (a := nb) (o := .lst (ys ++ [.ref a1, .ref a2]))) ha3 hnF (o' := .tup [.int (low mm (3 * d.2)).1, .int (low mm (3 * d.2)).2])
      have y1 := same_new (o := .tup [.int d.1, .int d.2]) (g8.ffresh ha1)
      have y2 := same_new (o := .tup [.int (low (2 * d.1 + 1) (2 * d.2)).1, .int (low (2 * d.1 + 1) (2 * d.2)).2]) (k1.ffresh ha2)
      have y3 := same_new (o := .tup [.int (low mm (3 * d.2)).1, .int (low mm (3 * d.2)).2]) (k4.ffresh ha3)
      refine ⟨nb, _, _, rfl, rfl, hnb5, lt_line (by simp; omega), ?_⟩
      refine ⟨nb, some (.int d.1), some (.int d.2), _, _, ts ++ [d] ++ [low (2 * d.1 + 1) (2 * d.2)] ++ [low mm (3 * d.2)], rfl, k5.put (.inl hnb0) hnF5 hnb5, s8.trans ((y1.trans y2).trans y3), (st10.upd ha3).updNe nnb.symm, nnb, upd_same, hnF5, hnb0, by simp; omega, ?_, fun z hz => ?_⟩
      · rw [show ys ++ [V.ref a1, .ref a2] ++ [V.ref a3] = ys ++ [V.ref a1] ++ [V.ref a2] ++ [V.ref a3] by simp]
        exact (((hal8.mono fun _ _ h => Dp.up h ((y1.trans y2).trans y3)).snoc (x := V.ref a1) (Dp.fr (y3 _ _ (y2 _ _ upd_same)))).snoc (x := V.ref a2) (Dp.fr (y3 _ _ upd_same))).snoc (x := V.ref a3) (Dp.fr upd_same)
      · simp only [List.mem_append, List.mem_singleton] at hz
        rcases hz with ((hz | rfl) | rfl) | rfl
        · exact hok8 z hz
        · exact OkDue.fr ⟨d0, d1, d2, d3, d4⟩
        · exact low_ok (by omega) (by omega) (by omega) (by omega)
        · exact low_ok (by omega) (by omega) (by omega) (by omega)
    · rintro σ H8 ⟨fb, x3, x4, F8, ys, ts, rfl, g8, s8, st8, nfb, hf8, hF8, hfb0, hyl, hal8, hok8⟩
      exact ⟨_, rfl, q _ _ fb ys ts (g8.hold hf8 hfb0 hF8) st8 upd_same (hal8.mono fun _ _ h => Dp.up h (same_new hF8)) hok8⟩
end
end Sc

namespace Sc
open PySem PySem.Spec PyProof.Rows L2
section
variable {X : Cx} {st : Stmt} {rest : List Stmt} {t : TS}
/-- a statement that does not end: what stands behind it is not come to -/
theorem pss_stop (h1 : PS X st t) : PSs X (st :: rest) (fun D σ H => t { D with nx := fun _ _ => False } σ H) := by
  refine ⟨fun pins s σ H D I h => ?_⟩
  refine wpAny_execs_cons (thn (h1.run pins s σ H { D with nx := fun _ _ => False } I h) fun f s1 q => ?_)
  cases f with
  | next =>
    obtain ⟨σ', H', I', q⟩ := q
    exact q.elim
  | ret v => exact q
  | brk => exact q
  | cont => exact q
end
section
variable {P : Program} {w : World} {K : PySem.W.Frag} {mg : Str → Option Value} {base : Heap}
def sp_sure_momentX (K : PySem.W.Frag) : Sp := fun vs H _ E => ∃ (v : V) (d : PyData), vs = [v] ∧ Dp K H v d ∧ FracLike d ∧ isMom d = false ∧ E (.ref (He.ga K "NoMoment")) none H
def sp_read_byX (K : PySem.W.Frag) : Sp := fun vs H _ E => ∃ (v u x : V) (d : PyData), vs = [v, u, x] ∧ Dp K H x d ∧ FracLike d ∧ isMom d = false ∧ E (.ref (He.ga K "NoMoment")) none H
def sp_law_refused (K : PySem.W.Frag) : Sp := fun vs H Q _ => ∃ (v u x : V) (d : PyData), vs = [v, u, x] ∧ Dp K H x d ∧ FracLike d ∧ isMom d = false ∧ ∀ H', Same H H' → Q (.bl true) H'
/-- a def that raises, by its name -/
structure CalX (P : Program) (w : World) (K : PySem.W.Frag) (mg : Str → Option Value) (base : Heap) (k : Nat) (x : Str) (sp : Sp) : Prop where
  ex : ∃ (f : Addr) (fd : FuncData) (ps : List Str), FnOk P w K mg base (L2.CX P w) k f fd ps sp ∧ mg x = some (.ref f) ∧ PySem.W.keepIn K (.ref f) = true ∧ Binds K fd ps []
theorem okx_sure_moment (T : Ts K mg) (c_is_moment : C8.Cal P w K mg base 3 "is_moment" (sp_is_moment K) []) : CalX P w K mg base 4 "sure_moment" (sp_sure_momentX K) := by
  obtain ⟨fd, F⟩ := T.f_sure_moment
  obtain ⟨x1, x2, x3, x4⟩ := T.exc
  refine ⟨_, fd, ["thing"], F.ok sc_sure_moment (fun vs H Q E h => ?_) (fun cdv A outer s H vs Q E hr h => ⟨_, (pss_one (ps_if (pt_not (pt_val (C8.pe_c c_is_moment hr (by decide) (by rfl) (pa_cons (pv 0) pa_nil)))) (pss_one (ps_raise rfl (takes_of rfl rfl rfl rfl) (pmk_own PySem.F.excBase_ValueError x1 T.g_NoMoment x2 (raises_own x3 x4) (by rfl)))) pss_nil)), ?_⟩), T.g_sure_moment, F.kp, F.bindsN (fun _ _ _ _ _ _ us hl => match us, hl with | [_], _ => rfl)⟩
  · obtain ⟨v, d, rfl, _⟩ := h
    rfl
  · obtain ⟨v, d, rfl, hv, fl, hm, q⟩ := h
    refine ⟨_, rfl, _, _, rfl, hv, fl, _, rfl, ?_⟩
    rw [hm]
    exact iteT q
theorem okx_read_by (T : Ts K mg) (c : CalX P w K mg base 4 "sure_moment" (sp_sure_momentX K)) : CalX P w K mg base 5 "read_by" (sp_read_byX K) := by
  obtain ⟨fd, F⟩ := T.f_read_by
  obtain ⟨f1, fd1, ps1, F1, hm1, kp1, b1⟩ := c.ex
  refine ⟨_, fd, ["film", "pieces", "t"], F.ok sc_read_by (fun vs H Q E h => ?_) (fun cdv A outer s H vs Q E hr h => ⟨_, pss_stop (ps_expr (pe_callS F1 (hr.mono (by decide)) (by rfl) hm1 kp1 b1 (fun σ => passAt (takes_of rfl rfl rfl rfl) σ) (pa_cons (pv 2) pa_nil))), ?_⟩), T.g_read_by, F.kp, F.bindsN (fun _ _ _ _ _ _ us hl => match us, hl with | [_, _, _], _ => rfl)⟩
  · obtain ⟨v, u, x, d, rfl, _⟩ := h
    rfl
  · obtain ⟨v, u, x, d, rfl, hv, fl, hm, q⟩ := h
    exact ⟨_, rfl, _, _, rfl, hv, fl, hm, q⟩
abbrev N_law_refused : List Str := ["_law_film_here", "_law_some_here", "_law_odd", "e"]
theorem sc_law_refused : FnScope N_law_refused ["_law_film_here", "_law_some_here", "_law_odd"] (defScope s_law_refused) := ⟨rfl, rfl, rfl, by decide +kernel, rfl, by decide +kernel, by decide +kernel⟩
theorem ok_law_refused (T : Ts K mg) (c : CalX P w K mg base 5 "read_by" (sp_read_byX K)) : C8.Cal P w K mg base 6 "_law_refused" (sp_law_refused K) [] := by
  obtain ⟨f1, fd1, ps1, F1, hm1, kp1, b1⟩ := c.ex
  refine cal_of T.f_law_refused T.g_law_refused sc_law_refused (fun vs H Q E h => ?_) (fun _ _ _ _ _ _ us hl => match us, hl with | [_, _, _], _ => rfl)
    (fun cdv A outer s H vs Q E hr h => ⟨_, pss_cons (ps_try_fst (i := 3) (c := .ref (He.ga K "NoMoment"))
      (ts := fun a cls d D σ H => (cls = .ref (He.ga K "NoMoment") ∧ d = none) ∧ tRet (tNotV (tCB (rIsET K (He.ga K "NoMoment") a) (tCons (tVar 3) (tCons (tTup (tCons (tC (.ref (He.ga K "NoLane"))) (tCons (tC (.ref (He.ga K "NoNumber"))) tNil))) tNil)))) D σ H)
      rfl rfl sc_law_refused.nd rfl rfl ⟨by rfl, by decide, .inl T.g_NoMoment⟩
      (fun W pn xe tk po => pss_one (ps_expr (pe_callS F1 (hr.mono (by decide)) (by rfl) hm1 kp1 b1 (fun σ => passAt tk σ) (pa_cons (pv 0) (pa_cons (pv 1) (pa_cons (pv 2) pa_nil))))))
      (fun a oe cls d pn hz hf => ⟨fun pins s σ H D I h => ?_⟩)) (pss_one (ps_ret pe_bl)), ?_⟩)
  · obtain ⟨v, u, x, d, rfl, _⟩ := h
    rfl
  · obtain ⟨⟨rfl, rfl⟩, h⟩ := h
    exact (pss_one (ps_ret (pe_not (pe_callB (call_isET T.e.exc hz hf) (by rfl) T.m_isinstance (by decide +kernel) (pa_cons (pv 3) (pa_cons (pe_tup (pa_cons (pe_glob (by rfl) T.g_NoLane (rv_ref (He.ga K "NoLane"))) (pa_cons (pe_glob (by rfl) T.g_NoNumber (rv_ref (He.ga K "NoNumber"))) pa_nil))) pa_nil)))))).run pins s σ H D I h
  · obtain ⟨v, u, x, d, rfl, hv, fl, hm, q⟩ := h
    refine ⟨_, rfl, _, rfl, _, rfl, _, _, _, _, rfl, hv, fl, hm, T.exm, fun a ha => ⟨⟨rfl, rfl⟩, ?_⟩⟩
    refine ⟨_, rfl, by show 2 ≤ sizeLine; decide, fun tp htp => ⟨tp, _, _, _, rfl, upd_same, .cons (.own _) (.cons (.own _) .nil), T.e.kE, _, rfl, q _ (same_new htp)⟩⟩
end
end Sc

namespace Sc
open PySem PySem.Spec PyProof.Rows L2
/-! fewest are read in the told order -/
def isDue (t d : Int × Int) : Bool := decide (¬ dlt t d)
theorem count_le (t : Int × Int) : ∀ l : List (Int × Int), l.countP (isDue t) ≤ readR t l
  | [] => Nat.le_refl _
  | d :: r => by
    have ih := count_le t r
    have hl : (d :: r).countP (isDue t) ≤ (d :: r).length := List.countP_le_length
    show (d :: r).countP (isDue t) ≤ (if dlt t d then readR t r else r.length + 1)
    by_cases c : dlt t d
    · rw [if_pos c, List.countP_cons]
      have e : isDue t d = false := by
        unfold isDue
        rw [decide_eq_false]
        exact fun z => z c
      rw [e]
      simpa using ih
    · rw [if_neg c]
      exact hl
def Asc (l : List (Int × Int)) : Prop := l.Pairwise fun a b => ¬ dlt b a
theorem lt_via {t d e : Int × Int} (ht : 0 < t.2) (hd : 0 < d.2) (he : 0 < e.2) (h1 : dlt t e) (h2 : ¬ dlt d e) : dlt t d := by
  have h2 : e.1 * d.2 ≤ d.1 * e.2 := Int.not_lt.mp h2
  have a : t.1 * e.2 * d.2 < e.1 * t.2 * d.2 := Int.mul_lt_mul_of_pos_right h1 hd
  have b : e.1 * d.2 * t.2 ≤ d.1 * e.2 * t.2 := Int.mul_le_mul_of_nonneg_right h2 (Int.le_of_lt ht)
  have e1 : e.1 * t.2 * d.2 = e.1 * d.2 * t.2 := Int.mul_right_comm ..
  have c : t.1 * d.2 * e.2 < d.1 * t.2 * e.2 := by
    rw [Int.mul_right_comm t.1, Int.mul_right_comm d.1]
    omega
  exact Int.lt_of_mul_lt_mul_right c (Int.le_of_lt he)
theorem le_count {t : Int × Int} (ht : 0 < t.2) : ∀ l : List (Int × Int), (∀ d, d ∈ l → 0 < d.2) → Asc l.reverse → readR t l ≤ l.countP (isDue t)
  | [], _, _ => Nat.le_refl _
  | d :: r, hp, ha => by
    have ha2 := ha
    rw [List.reverse_cons] at ha2
    obtain ⟨a1, _, a3⟩ := List.pairwise_append.mp ha2
    have ih := le_count ht r (fun x hx => hp x (List.mem_cons_of_mem _ hx)) a1
    show (if dlt t d then readR t r else r.length + 1) ≤ (d :: r).countP (isDue t)
    by_cases c : dlt t d
    · rw [if_pos c, List.countP_cons]
      omega
    · rw [if_neg c]
      have all : (d :: r).countP (isDue t) = (d :: r).length := by
        rw [List.countP_eq_length]
        intro x hx
        unfold isDue
        rw [decide_eq_true_eq]
        rcases List.mem_cons.mp hx with rfl | hx
        · exact c
        · intro z
          have n := a3 x (List.mem_reverse.mpr hx) d (List.mem_singleton.mpr rfl)
          exact c (lt_via ht (hp d List.mem_cons_self) (hp x (List.mem_cons_of_mem _ hx)) z n)
      rw [all]
      exact Nat.le_refl _
theorem read_le {t : Int × Int} {ds es : List (Int × Int)} (ht : 0 < t.2) (hp : ∀ d, d ∈ ds → 0 < d.2) (ha : Asc ds) (h : ds.Perm es) : readBy t ds ≤ readBy t es := by
  unfold readBy
  have a := le_count ht ds.reverse (fun d hd => hp d (List.mem_reverse.mp hd)) (by rw [List.reverse_reverse]; exact ha)
  have b := count_le t es.reverse
  have e : ds.reverse.countP (isDue t) = es.reverse.countP (isDue t) := (((List.reverse_perm ds).trans h).trans (List.reverse_perm es).symm).countP_eq _
  omega
theorem asc_of {f : FilmD} {qs : List PieceD} (ok : OkFilm f) (hq : ∀ q, q ∈ qs → OkP f q) (h : qs.Pairwise (ple f)) : Asc (qs.map (due f)) := by
  unfold Asc
  rw [List.pairwise_map]
  refine List.Pairwise.imp_of_mem (fun {a b} ha hb h => ?_) h
  intro z
  have pa := (due_lowest ok (hq a ha)).pos
  have pb := (due_lowest ok (hq b hb)).pos
  rcases h with (h | ⟨h, _⟩) | h
  · exact dlt_irrefl _ (dlt_trans pa pb pa h z)
  · rw [h] at z
    exact dlt_irrefl _ z
  · rw [h] at z
    exact dlt_irrefl _ z
/-! several objects are held at once -/
def hpAnd (F H : Hp) (Ls : List Addr) : Hp := fun a => if a ∈ Ls then H a else F a
theorem hpAnd_in {F H : Hp} {Ls : List Addr} {a : Addr} (h : a ∈ Ls) : hpAnd F H Ls a = H a := by
  unfold hpAnd
  rw [if_pos h]
theorem hpAnd_out {F H : Hp} {Ls : List Addr} {a : Addr} (h : a ∉ Ls) : hpAnd F H Ls a = F a := by
  unfold hpAnd
  rw [if_neg h]
theorem Gw.holds {M : List Addr} {F0 H0 F H : Hp} {Ls : List Addr} (g : Gw M F0 H0 F H) (h : ∀ a, a ∈ Ls → F a = none ∧ H0 a = none) : Gw M F0 H0 (hpAnd F H Ls) H ∧ Same F (hpAnd F H Ls) := by
  have s : Same F (hpAnd F H Ls) := fun a o e => by
    by_cases c : a ∈ Ls
    · rw [(h a c).1] at e
      cases e
    · rw [hpAnd_out c]
      exact e
  refine ⟨⟨g.fs.trans s, fun a o e => ?_, g.keep, fun a o e n => ?_, g.dom⟩, s⟩
  · by_cases c : a ∈ Ls
    · rw [hpAnd_in c] at e
      exact e
    · rw [hpAnd_out c] at e
      exact g.sub a o e
  · by_cases c : a ∈ Ls
    · exact (h a c).2
    · rw [hpAnd_out c] at e
      exact g.new a o e n
end Sc

namespace Sc
open PySem PySem.Spec PyProof.Rows L2
theorem cut_ints (ns : List Int) (lo hi : Option Int) : ∃ l : List Int, cutV (ns.map V.int) lo hi = l.map V.int ∧ l.length ≤ ns.length := by
  unfold cutV
  rw [← List.map_drop, ← List.map_take]
  exact ⟨_, rfl, by rw [List.length_take, List.length_drop]; omega⟩
def OddD (d : PyData) : Prop := FracLike d ∧ isMom d = false
theorem odd_tup (ns : List Int) (h : isMom (.tuple (ns.map PyData.int)) = false) : OddD (.tuple (ns.map PyData.int)) := ⟨.inr (.inr (.inr (.inr ⟨ns, rfl⟩))), h⟩
theorem dp_tup {K : PySem.W.Frag} {H : Hp} {t : Addr} {ns : List Int} (h : H t = some (.tup (ns.map V.int))) : Dp K H (.ref t) (.tuple (ns.map PyData.int)) := .tup (SqT.of h) DpAll.ints
theorem st_same {s : Addr} {F H F' H' : Hp} (h : StOk s H) (g : Gw [] F H F' H') : StOk s H' := by
  obtain ⟨ns, a, b⟩ := h
  exact ⟨ns, g.same _ _ a, b⟩
section
variable {P : Program} {w : World} {K : PySem.W.Frag} {mg : Str → Option Value} {base : Heap}
def spLaw (K : PySem.W.Frag) : Sp := fun vs H Q _ => ∃ (a : Addr) (ns : List Int), vs = [.ref a] ∧ ns.length ≤ 63 ∧ SqL K H a (ns.map V.int) ∧ ∀ H', Q (.bl true) H'
theorem outs_dp {F H : Hp} {f : FilmD} {ts : List V} {qs : List PieceD} {Ls : List Addr} (s : Same F (hpAnd F H Ls)) (h : Al (fun t p => ∃ L, L ∈ Ls ∧ OutAt K F H f t L p) ts qs) : Al (fun v p => Dp K (hpAnd F H Ls) v (PieceD.dat f p)) ts qs :=
  h.mono fun t p ⟨L, hL, tp, xs, e, a, b, c⟩ => by
    subst e
    exact .tup (SqT.of (s _ _ a)) (.cons (.int _) (.cons (.int _) (.cons (.int _) (.cons (.lst (.inl (.inl (show hpAnd F H Ls L = some (.lst xs) by rw [hpAnd_in hL]; exact b))) (c.up s)) .nil))))
theorem outs_dpH {F H : Hp} {f : FilmD} {ts : List V} {qs : List PieceD} {Ls : List Addr} (s : Same F H) (h : Al (fun t p => ∃ L, L ∈ Ls ∧ OutAt K F H f t L p) ts qs) : Al (fun v p => Dp K H v (PieceD.dat f p)) ts qs :=
  h.mono fun t p ⟨L, hL, tp, xs, e, a, b, c⟩ => by
    subst e
    exact .tup (SqT.of (s _ _ a)) (.cons (.int _) (.cons (.int _) (.cons (.int _) (.cons (.lst (.inl (.inl b)) (c.up s)) .nil))))
theorem lst_dp {H : Hp} {f : FilmD} {a : Addr} {xs : List V} {ps : List PieceD} (h : H a = some (.lst xs)) (hal : Al (fun v p => Dp K H v (PieceD.dat f p)) xs ps) : Dp K H (.ref a) (.list (ps.map (PieceD.dat f))) := .lst (.inl (.inl h)) (pcs_dp hal)
abbrev N_law : List Str := ["_law_script", "_law_told", "_law_film_here", "_law_cell", "_law_state", "_law_some_here", "_law_due_order", "_law_mixed_here", "_law_handed", "_law_found", "_law_dues", "_law_due_dues", "_law_t", "_law_count", "_law_least_count", "_law_told_twice", "_law_one", "_law_k"]
theorem sc_law : FnScope N_law ["_law_script"] (defScope s_law) := ⟨rfl, rfl, rfl, by decide +kernel, rfl, by decide +kernel, by decide +kernel⟩
theorem ok_law {fd : FuncData} (F0 : FunD K "law" "law" (defArgs s_law) (defBody s_law) (defScope s_law) [] [] (He.ga K "law") fd) (T : Ts K mg)
    (c_law_film : C8.Cal P w K mg base 6 "_law_film" (sp_law_film K) []) (c_law_cell_at : C8.Cal P w K mg base 1 "_law_cell_at" (sp_law_cell_at K) []) (c_film_of : C8.Cal P w K mg base 9 "film_of" (sp_film_of K) [])
    (c_law_some : C8.Cal P w K mg base 2 "_law_some" (sp_law_some K) []) (c_law_ordered : C8.Cal P w K mg base 4 "_law_ordered" (sp_law_ordered K) []) (c_law_mixed : C8.Cal P w K mg base 2 "_law_mixed" (sp_law_mixed K) [])
    (c_law_copy : C8.Cal P w K mg base 1 "_law_copy" (sp_law_copy K) []) (c_ordered : C8.Cal P w K mg base 10 "ordered" (sp_ordered K) []) (c_law_due : C8.Cal P w K mg base 3 "_law_due" (sp_law_due K) [])
    (c_law_moments : C8.Cal P w K mg base 3 "_law_moments" (sp_law_moments K) []) (c_read_by : C8.Cal P w K mg base 10 "read_by" (sp_read_by K) []) (c_law_read_by : C8.Cal P w K mg base 2 "_law_read_by" (sp_law_read_by K) [])
    (c_law_refused : C8.Cal P w K mg base 6 "_law_refused" (sp_law_refused K) []) (c_law_digit : C8.Cal P w K mg base 1 "_law_digit" sp_law_digit []) (c_Film_told : C8.Met P w K mg base 2 (He.ga K "Film") "told" (sp_Film_told K) []) :
    FnOk P w K mg base C8.CX0 11 (He.ga K "law") fd ["_law_script"] (spLaw K) := by
  refine F0.ok sc_law (fun vs H Q E h => ?_) (fun cdv A outer s H vs Q E hr h => ⟨_, PSs.nox (pss_cons (ps_set (i := 1) sc_law.nd rfl (Or.inr rfl) (C8.pe_c c_law_film hr (by decide) (by rfl) (pa_cons (pe_lc (own := [("_law_k", 17)]) rfl sc_law.nd (pi_range1 (by rfl) T.m_range (pa_cons pe_int pa_nil)) (blkOk_by (N := N_law) (sc := defScope s_law) (by decide +kernel)) (fun _ _ _ _ _ => (pg_name (i := 17) sc_law.nd rfl (Or.inl rfl) (Or.inr rfl))) (fun _ _ _ _ _ => pts_nil) (fun _ _ _ _ _ => (C8.pe_c c_law_cell_at hr (by decide) (by rfl) (pa_cons (pv 0) (pa_cons (pv 17) pa_nil))))) (pa_cons pe_int pa_nil))))
      (pss_cons (ps_set (i := 2) sc_law.nd rfl (Or.inl rfl) (C8.pe_c c_film_of hr (by decide) (by rfl) (pa_cons (pv 1) pa_nil)))
      (pss_cons (ps_for PassesOwn.never rfl (pi_list (pe_op op_cat (pe_slice sl_list (pv 0) (po_some pe_int) (po_some pe_int)) (pe_lst (pa_cons pe_int (pa_cons pe_int pa_nil))))) (pg_name (i := 3) sc_law.nd rfl (Or.inl rfl)) (pss_cons (ps_set (i := 4) sc_law.nd rfl (Or.inl rfl) (pe_lst (pa_cons (pv 3) pa_nil)))
      (pss_cons (ps_set (i := 5) sc_law.nd rfl (Or.inl rfl) (C8.pe_c c_law_some hr (by decide) (by rfl) (pa_cons (pv 4) (pa_cons (pv 1) pa_nil))))
      (pss_cons (ps_set (i := 6) sc_law.nd rfl (Or.inl rfl) (C8.pe_c c_law_ordered hr (by decide) (by rfl) (pa_cons (pv 1) (pa_cons (pv 5) pa_nil))))
      (pss_cons (ps_set (i := 7) sc_law.nd rfl (Or.inl rfl) (C8.pe_c c_law_mixed hr (by decide) (by rfl) (pa_cons (pv 4) (pa_cons (pv 5) pa_nil))))
      (pss_cons (ps_set (i := 8) sc_law.nd rfl (Or.inl rfl) (C8.pe_c c_law_copy hr (by decide) (by rfl) (pa_cons (pv 7) pa_nil)))
      (pss_cons (ps_set (i := 9) sc_law.nd rfl (Or.inl rfl) (C8.pe_c c_ordered hr (by decide) (by rfl) (pa_cons (pv 2) (pa_cons (pv 8) pa_nil))))
      (pss_cons (ps_if (PW.pt (pw_or (pt_not (pt_val (pe_callB call_isi (by rfl) T.m_isinstance (by decide +kernel) (pa_cons (pv 9) (pa_cons (pe_bltn (v := .ty "list") (by rfl) T.m_list (by decide +kernel) rfl) pa_nil))))) (pw_or (pt_cmpR (op_neD hr.units) (pv 9) (pv 6) (nomark _)) (pw_or1 (pt_cmpR (op_neD hr.units) (pv 8) (pv 7) (nomark _)))))) (pss_one (ps_ret pe_bl)) pss_nil)
      (pss_cons (ps_setLc (i := 10) (own := [("_law_one", 16)]) rfl sc_law.nd rfl rfl (sw_true rfl rfl rfl (by decide +kernel)) (pi_list (pv 7)) (blkOk_by (N := N_law) (sc := defScope s_law) (by decide +kernel)) (fun _ _ _ _ _ => (pg_name (i := 16) sc_law.nd rfl (Or.inl rfl) (Or.inr rfl))) (fun _ _ _ _ _ => pts_nil) (fun _ _ _ _ _ => (C8.pe_c c_law_due hr (by decide) (by rfl) (pa_cons (pv 1) (pa_cons (pv 16) pa_nil)))))
      (pss_cons (ps_setLc (i := 11) (own := [("_law_one", 16)]) rfl sc_law.nd rfl rfl (sw_true rfl rfl rfl (by decide +kernel)) (pi_list (pv 6)) (blkOk_by (N := N_law) (sc := defScope s_law) (by decide +kernel)) (fun _ _ _ _ _ => (pg_name (i := 16) sc_law.nd rfl (Or.inl rfl) (Or.inr rfl))) (fun _ _ _ _ _ => pts_nil) (fun _ _ _ _ _ => (C8.pe_c c_law_due hr (by decide) (by rfl) (pa_cons (pv 1) (pa_cons (pv 16) pa_nil)))))
      (pss_cons (ps_for PassesOwn.never rfl (pi_list (C8.pe_c c_law_moments hr (by decide) (by rfl) (pa_cons (pv 4) (pa_cons (pv 10) pa_nil)))) (pg_name (i := 12) sc_law.nd rfl (Or.inl rfl)) (pss_cons (ps_set (i := 13) sc_law.nd rfl (Or.inl rfl) (C8.pe_c c_read_by hr (by decide) (by rfl) (pa_cons (pv 2) (pa_cons (pv 8) (pa_cons (pv 12) pa_nil)))))
      (pss_cons (ps_if (PW.pt (pw_or (pt_val (pe_callB call_isi (by rfl) T.m_isinstance (by decide +kernel) (pa_cons (pv 13) (pa_cons (pe_bltn (v := .ty "bool") (by rfl) T.m_bool (by decide +kernel) rfl) pa_nil)))) (pw_or (pt_cmpR op_ne (pv 13) (C8.pe_c c_law_read_by hr (by decide) (by rfl) (pa_cons (pv 10) (pa_cons (pv 12) pa_nil))) (nomark _)) (pw_or1 (pt_cmpR (op_neD hr.units) (pv 8) (pv 7) (nomark _)))))) (pss_one (ps_ret pe_bl)) pss_nil)
      (pss_cons (ps_set (i := 14) sc_law.nd rfl (Or.inl rfl) (C8.pe_c c_read_by hr (by decide) (by rfl) (pa_cons (pv 2) (pa_cons (pv 9) (pa_cons (pv 12) pa_nil)))))
      (pss_one (ps_if (PW.pt (pw_or (pt_cmpR op_ne (pv 14) (C8.pe_c c_law_read_by hr (by decide) (by rfl) (pa_cons (pv 11) (pa_cons (pv 12) pa_nil))) (nomark _)) (pw_or1 (pt_cmpR op_gt (pv 14) (pv 13) (nomark _))))) (pss_one (ps_ret pe_bl)) pss_nil))))))
      (pss_cons (ps_if (pt_not (pt_val (C8.pe_c c_law_refused hr (by decide) (by rfl) (pa_cons (pv 2) (pa_cons (pv 8) (pa_cons (pe_ix ix_list (pe_lst (pa_cons pe_non (pa_cons (pe_tup (pa_cons pe_int (pa_cons pe_int pa_nil))) (pa_cons (pe_tup (pa_cons (pe_un un_neg pe_int) (pa_cons pe_int pa_nil))) (pa_cons (pe_tup (pa_cons pe_int (pa_cons pe_int pa_nil))) (pa_cons pe_int (pa_cons pe_str (pa_cons (pe_tup (pa_cons pe_int pa_nil)) (pa_cons (pe_cmpR op_eq pe_int pe_int (nomark _)) pa_nil))))))))) (C8.pe_c c_law_digit hr (by decide) (by rfl) (pa_cons (pv 4) (pa_cons pe_int pa_nil))) (fun _ _ => rfl)) pa_nil)))))) (pss_one (ps_ret pe_bl)) pss_nil)
      (pss_cons (ps_expr (pe_bm0 PySem.F.plainAttrs_list PySem.F.slot_list_reverse PySem.F.type_list_reverse mt_reverse (pv 9)))
      (pss_cons (ps_set (i := 15) sc_law.nd rfl (Or.inl rfl) (C8.pe_c c_ordered hr (by decide) (by rfl) (pa_cons (pv 2) (pa_cons (pv 8) pa_nil))))
      (pss_cons (ps_for PassesOwn.never rfl (pi_list (pv 15)) (pg_name (i := 16) sc_law.nd rfl (Or.inl rfl)) (pss_one (ps_expr (pe_bm0 PySem.F.plainAttrs_list PySem.F.slot_list_clear PySem.F.type_list_clear mt_clear (pe_ix ix_tup (pv 16) pe_int (fun _ _ => rfl))))))
      (pss_one (ps_if (PW.pt (pw_or (pt_cmpR (op_neD hr.units) (pv 8) (pv 7) (nomark _)) (pw_or1 (pt_cmpR (op_neD hr.units) (C8.pe_c c_ordered hr (by decide) (by rfl) (pa_cons (pv 2) (pa_cons (pv 8) pa_nil))) (pv 6) (nomark _))))) (pss_one (ps_ret pe_bl)) pss_nil)))))))))))))))))
      (pss_one (ps_ret (pe_cmpR (op_eqD hr.units) (C8.pe_mt0 c_Film_told hr (by decide) (pv 2)) (pv 1) (nomark _))))))), ?_⟩)
  · obtain ⟨a, ns, rfl, _⟩ := h
    rfl
  · obtain ⟨sa, ns, rfl, hns, hsa, q⟩ := h
    refine ⟨4, rfl, by decide, by decide, fun D hD => ?_⟩
    refine lc_gw (M := []) (F1 := H) (walk_range (lo := 0) (n := (4 : Int).toNat)) (fun _ => True) (fun i _ y => ∃ x : Int, y = .int x) (Same.refl _) hD (by simp) (by decide) trivial (fun _ _ _ => trivial) (fun _ _ _ _ _ h => h) (fun _ _ => trivial) ?_ ?_
    · rintro i y F2 H2 _ Q' hi sub fs2 _ ⟨rfl, hy⟩ k
      obtain rfl : y = .int (i : Int) := hy.trans (congrArg V.int (Int.zero_add _))
      exact ⟨rfl, _, rfl, _, rfl, sa, ns, i, rfl, (fs2.trans sub).seq hsa, fun x => k _ F2 _ (Gw.refl sub) trivial ⟨x, rfl⟩⟩
    · intro Fa Ha acc ga fsa _ hDa hFD hlen hres
      obtain ⟨xs, hxs⟩ := exists_list (R := fun y (x : Int) => y = V.int x) hres
      have hx4 : xs.length = 4 := by rw [← hxs.len, hlen]; rfl
      have eacc : acc = xs.map V.int := by
        apply List.ext_getElem?
        intro j
        rcases Nat.lt_or_ge j acc.length with z | z
        · have e1 := List.getElem?_eq_getElem z
          obtain ⟨x, hx, e⟩ := hxs.at1 e1
          rw [e1, e, List.getElem?_map, hx]
          rfl
        · rw [List.getElem?_eq_none z, List.getElem?_eq_none (by rw [List.length_map, ← hxs.len]; exact z)]
      obtain ⟨x, y, z, u, exs⟩ : ∃ x y z u, xs = [x, y, z, u] := by
        match xs, hx4 with
        | [x, y, z, u], _ => exact ⟨x, y, z, u, rfl⟩
      rw [eacc, exs] at hDa
      have gb := ga.hold hDa hD hFD
      refine ⟨_, D, x, y, z, u, rfl, gb.sub, .inl (.inl upd_same), fun Fc Hc v f gc hv okf => ?_⟩
      refine ⟨_, rfl, Fc, v, f, rfl, gc.sub, hv, okf, fun F1 H1 flm g1 hflm => ?_⟩
      have s1 := (fsa.trans (same_new hFD)).trans (gc.fs.trans g1.fs)
      have hv1 := hv.up g1.fs
      have hsa1 := s1.seq hsa
      -- the cells
      obtain ⟨cl, ecl, hcl⟩ := cut_ints ns (some 4) (some 8)
      refine ⟨_, rfl, 4, rfl, 8, rfl, sa, _, rfl, g1.sub.seq hsa1, fun c1 hc1 => ?_⟩
      rw [ecl]
      have k1 := (Gw.refl (M := []) g1.sub).alloc (o := .lst (cl.map V.int)) hc1
      refine ⟨by show 2 ≤ sizeLine; decide, fun c2 hc2 => ?_⟩
      have k2 := k1.alloc (o := .lst [.int 0, .int 1]) hc2
      refine ⟨c1, c2, cl.map V.int, [.int 0, .int 1], rfl, rfl, keep_upd upd_same hc2, upd_same, Nat.le_of_lt (lt_line (by rw [List.length_map]; simp; omega)), fun c3 hc3 => ?_⟩
      have k3 := k2.frz (o := .lst (cl.map V.int ++ [.int 0, .int 1])) hc3
      have s3 := same_new (o := .lst (cl.map V.int ++ [.int 0, .int 1])) (k2.ffresh hc3)
      have hv3 := hv1.up s3
      have hf3 := hflm.up s3
      have hc3F : upd F1 c3 (.lst (cl.map V.int ++ [.int 0, .int 1])) c3 = some (.lst (cl.map V.int ++ [.int 0, .int 1])) := upd_same
      have sub3 := k3.sub
      generalize upd F1 c3 (.lst (cl.map V.int ++ [.int 0, .int 1])) = F3 at *
      generalize upd (upd (upd H1 c1 (.lst (cl.map V.int))) c2 (.lst [.int 0, .int 1])) c3 (.lst (cl.map V.int ++ [.int 0, .int 1])) = H3 at *
      have ecells : cl.map V.int ++ [V.int 0, .int 1] = (cl ++ [0, 1]).map V.int := by simp
      refine ⟨c3, rfl, ⟨_, .inl (.inl (sub3 _ _ hc3F))⟩, ?_⟩
      refine for_list (xs := cl.map V.int ++ [.int 0, .int 1]) (fun i σ H' => ∃ x3 x4 x5 x6 x7 x8 x9 x10 x11 x12 x13 x14 x15 x16 x17 F', σ = [some (.ref sa), some v, some flm, x3, x4, x5, x6, x7, x8, x9, x10, x11, x12, x13, x14, x15, x16, x17] ∧ Gw [] F3 H3 F' H') ⟨none, none, none, none, none, none, none, none, none, none, none, none, none, none, none, F3, rfl, Gw.refl sub3⟩ ?_ ?_ ?_
      · rintro i σ H4 hi ⟨x3, x4, x5, x6, x7, x8, x9, x10, x11, x12, x13, x14, x15, x16, x17, F4, rfl, g4⟩
        exact .inl (.inl (g4.same _ _ (sub3 _ _ hc3F)))
      · rintro i cv σ H4 hx ⟨x3, x4, x5, x6, x7, x8, x9, x10, x11, x12, x13, x14, x15, x16, x17, F4, rfl, g4⟩
        rw [ecells] at hx
        obtain ⟨c, hc, rfl⟩ := map_at hx
        clear hx hc
        -- the state
        refine ⟨_, rfl, by show 1 ≤ sizeLine; decide, fun s0 hs0 => ?_⟩
        have g5 := g4.alloc (o := .lst [.int c]) hs0
        have hs00 := g4.dom _ hs0
        have st5 : StOk s0 (upd H4 s0 (.lst [.int c])) := ⟨[c], upd_same, .inl rfl⟩
        have hFs5 := g4.ffresh hs0
        have tr : ∀ {Fa Ha Fb Hb : Hp}, Gw [] F3 H3 Fa Ha → Gw [s0] Fa Ha Fb Hb → Gw [] F3 H3 Fb Hb := fun g g2 => g.trans g2 fun a ha => .inr (by rw [List.mem_singleton.mp ha]; exact hs00)
        have hv4 := hv3.up g4.fs
        have hf4 := hf3.up g4.fs
        refine ⟨_, rfl, _, rfl, F4, s0, v, f, rfl, g5.sub, hFs5, st5, hv4, okf, fun F6 H6 sb sxs ps g6 st6 hsb hsal hsok hsn => ?_⟩
        have g56 := tr g5 g6
        have hFs6 := st5.out g6 hFs5
        have hv6 := hv4.up g6.fs
        have hf6 := hf4.up g6.fs
        refine ⟨_, rfl, _, rfl, F6, v, sb, sxs, f, ps, rfl, g56.sub, hv6, okf, hsb, hsal, hsok, by omega, fun F7 H7 ob oys qs g7 hob hoal hoperm hopw => ?_⟩
        have g57 := g56.call g7
        have st7 := st_same st6 g7
        have hFs7 := st6.out g7 hFs6
        refine ⟨_, rfl, _, rfl, F7, s0, sb, f, sxs, ps, rfl, g57.sub, hFs7, st7, g7.fs _ _ hsb, hsal.mono fun _ _ h => Dp.up h g7.fs, hsn, fun F8 H8 mb mys ms g8 st8 hmb hmal hmperm => ?_⟩
        have g58 := tr g57 g8
        have hFs8 := st7.out g8 hFs7
        have hmn := hmperm.length_eq
        have hmok : ∀ p, p ∈ ms → OkP f p := fun p hp => hsok p (hmperm.mem_iff.mp hp)
        have hqok : ∀ p, p ∈ qs → OkP f p := fun p hp => hsok p (hoperm.mem_iff.mp hp)
        refine ⟨_, rfl, F8, mb, f, mys, ms, rfl, g58.sub, hmb, hmal, by omega, fun F9 H9 hb hys g9 hhb hhal => ?_⟩
        have g59 := g58.call g9
        have st9 := st_same st8 g9
        have hFs9 := st8.out g9 hFs8
        have s79 := g8.fs.trans g9.fs
        have hv9 := (hv6.up g7.fs).up s79
        have hf9 := (hf6.up g7.fs).up s79
        have hob9 := s79 _ _ hob
        have hoal9 := hoal.mono fun _ _ h => Dp.up h s79
        have hmb9 := g9.fs _ _ hmb
        have hmal9 := hmal.mono fun _ _ h => Dp.up h g9.fs
        refine ⟨_, rfl, _, rfl, F9, flm, hb, hys, f, ms, rfl, g59.sub, hf9, okf, g59.sub _ _ hhb, hhal, hmok, by omega, fun F10 H10 fb ts Ls qs2 g10 hperm2 hpw2 hfb hFfb hfb9 hni hLs hts => ?_⟩
        obtain rfl : qs2 = qs := order_uniq okf hsok (hperm2.trans hmperm) hoperm hpw2 hopw
        have g510 := g59.call g10
        have st10 := st_same st9 g10
        have hFs10 := st9.out g10 hFs9
        have hfb0 : H3 fb = none := g59.dom _ hfb9
        obtain ⟨g11, s11⟩ := g510.holds (Ls := Ls) fun a ha => ⟨(hLs a ha).1, g59.dom _ (hLs a ha).2.1⟩
        have nsL : s0 ∉ Ls := fun z => by
          obtain ⟨o, ho⟩ := st9.some
          rw [(hLs s0 z).2.1] at ho
          cases ho
        have hFs11 : hpAnd F10 H10 Ls s0 = none := by rw [hpAnd_out nsL]; exact hFs10
        have hFfb11 : hpAnd F10 H10 Ls fb = none := by rw [hpAnd_out hni]; exact hFfb
        have htal := outs_dp (K := K) s11 hts
        have s911 := g10.fs.trans s11
        have hv11 := hv9.up s911
        have hf11 := hf9.up s911
        have hob11 := s911 _ _ hob9
        have hoal11 := hoal9.mono fun _ _ h => Dp.up h s911
        have hmb11 := s911 _ _ hmb9
        have hmal11 := hmal9.mono fun _ _ h => Dp.up h s911
        have hhb11 := s911 _ _ hhb
        have hhal11 := hhal.mono fun _ _ h => Dp.up h s911
        generalize hpAnd F10 H10 Ls = F11 at *
        have up11 : ∀ {xs : List V} {rs : List PieceD}, Al (fun v p => Dp K F11 v (PieceD.dat f p)) xs rs → Al (fun v p => Dp K H10 v (PieceD.dat f p)) xs rs := fun h => h.mono fun _ _ h => Dp.up h g11.sub
        have dfound := lst_dp hfb (up11 htal)
        have dorder := lst_dp (g11.sub _ _ hob11) (up11 hoal11)
        have dmixed := lst_dp (g11.sub _ _ hmb11) (up11 hmal11)
        have dhanded := lst_dp (g11.sub _ _ hhb11) (up11 hhal11)
        refine ⟨_, rfl, _, _, _, _, true, rfl, .ty _, dp_ty dfound, kb_list_list, true, rfl, iteF ?_⟩
        refine ⟨_, rfl, _, rfl, _, _, dfound, dorder, (shp_pieces f _).ok, (shp_pieces f _).ok, _, rfl, ?_⟩
        rw [eqv_refl_of (shp_pieces f _)]
        refine iteF ⟨_, rfl, _, rfl, _, _, dhanded, dmixed, (shp_pieces f _).ok, (shp_pieces f _).ok, _, rfl, ?_⟩
        rw [eqv_refl_of (shp_pieces f _)]
        refine iteF ?_
        -- the dues
        have hqp : qs2.Perm ms := hoperm.trans hmperm.symm
        refine ⟨_, rfl, mb, rfl, ⟨mys, .inl (.inl (g11.sub _ _ hmb11))⟩, fun D1 hD1 => ?_⟩
        have hmyl := hmal11.len
        have hoyl := hoal11.len
        have hqn := hoperm.length_eq
        refine lc_gw (M := []) (F1 := F11) (walk_list (xs := mys)) (fun _ => True) (fun i F' y => ∃ p, ms[i]? = some p ∧ Dp K F' y (frD (due f p))) g11.sub hD1 (by simp) (by omega) trivial (fun _ _ _ => trivial) (fun i F F' v s h => by
          obtain ⟨p, a, b⟩ := h
          exact ⟨p, a, b.up s⟩) (fun H s => .inl (.inl (s _ _ hmb11))) ?_ ?_
        · rintro j y F12 H12 _ Q' hj sub fs12 _ ⟨rfl, hy⟩ k
          obtain ⟨p, hp, hdp⟩ := hmal11.at1 hy
          exact ⟨rfl, _, rfl, _, rfl, F12, v, y, f, p, rfl, sub, hv11.up fs12, okf, hdp.up fs12, hmok p (List.mem_of_getElem? hp), fun F' H' t g ht => k (.ref t) F' H' g trivial ⟨p, hp, Dp.fr ht⟩⟩
        intro F12 H12 dacc g12 fs12 _ hDa1 hFD1 hlen1 hres1
        have g13 := (g11.call g12).hold hDa1 (g11.dom _ hD1) hFD1
        have s13 := same_new (o := .lst dacc) hFD1
        have hdal : Al (fun v d => Dp K (upd F12 D1 (.lst dacc)) v (frD d)) dacc (ms.map (due f)) := ⟨by rw [hlen1, List.length_map, hmyl], fun j y d e1 e2 => by
          obtain ⟨p, hp, r⟩ := hres1 j y e1
          obtain ⟨p', hp', rfl⟩ := map_at e2
          rw [hp] at hp'
          cases hp'
          exact r.up s13⟩
        have hdb : upd F12 D1 (.lst dacc) D1 = some (.lst dacc) := upd_same
        have hfb12 := g12.same _ _ hfb
        have st12 := st_same st10 g12
        have hFs12 : upd F12 D1 (.lst dacc) s0 = none := by
          rw [upd_ne (st_ne st10 hD1).symm]
          exact st10.out g12 hFs11
        have hFfb12 : upd F12 D1 (.lst dacc) fb = none := by
          rw [upd_ne (ne_of_some hfb hD1)]
          exact g12.out hfb hFfb11
        have s1113 := fs12.trans s13
        generalize upd F12 D1 (.lst dacc) = F13 at *
        have hob13 := s1113 _ _ hob11
        have hoal13 := hoal11.mono fun _ _ h => Dp.up h s1113
        have hv13 := hv11.up s1113
        refine ⟨_, rfl, ob, rfl, ⟨oys, .inl (.inl (g13.sub _ _ hob13))⟩, fun D2 hD2 => ?_⟩
        refine lc_gw (M := []) (F1 := F13) (walk_list (xs := oys)) (fun _ => True) (fun i F' y => ∃ p, qs2[i]? = some p ∧ Dp K F' y (frD (due f p))) g13.sub hD2 (by simp) (by omega) trivial (fun _ _ _ => trivial) (fun i F F' v s h => by
          obtain ⟨p, a, b⟩ := h
          exact ⟨p, a, b.up s⟩) (fun H s => .inl (.inl (s _ _ hob13))) ?_ ?_
        · rintro j y F14 H14 _ Q' hj sub fs14 _ ⟨rfl, hy⟩ k
          obtain ⟨p, hp, hdp⟩ := hoal13.at1 hy
          exact ⟨rfl, _, rfl, _, rfl, F14, v, y, f, p, rfl, sub, hv13.up fs14, okf, hdp.up fs14, hqok p (List.mem_of_getElem? hp), fun F' H' t g ht => k (.ref t) F' H' g trivial ⟨p, hp, Dp.fr ht⟩⟩
        intro F14 H14 qacc g14 fs14 _ hDa2 hFD2 hlen2 hres2
        have g15 := (g13.call g14).hold hDa2 (g13.dom _ hD2) hFD2
        have s15 := same_new (o := .lst qacc) hFD2
        have hqal : Al (fun v d => Dp K (upd F14 D2 (.lst qacc)) v (frD d)) qacc (qs2.map (due f)) := ⟨by rw [hlen2, List.length_map, hoyl], fun j y d e1 e2 => by
          obtain ⟨p, hp, r⟩ := hres2 j y e1
          obtain ⟨p', hp', rfl⟩ := map_at e2
          rw [hp] at hp'
          cases hp'
          exact r.up s15⟩
        have hqb : upd F14 D2 (.lst qacc) D2 = some (.lst qacc) := upd_same
        have hfb14 := g14.same _ _ hfb12
        have st14 := st_same st12 g14
        have hFs14 : upd F14 D2 (.lst qacc) s0 = none := by
          rw [upd_ne (st_ne st12 hD2).symm]
          exact st12.out g14 hFs12
        have hFfb14 : upd F14 D2 (.lst qacc) fb = none := by
          rw [upd_ne (ne_of_some hfb12 hD2)]
          exact g14.out hfb12 hFfb12
        have s1315 := fs14.trans s15
        generalize upd F14 D2 (.lst qacc) = F15 at *
        have hdb15 := s1315 _ _ hdb
        have hdal15 := hdal.mono fun _ _ h => Dp.up h s1315
        have s1115 := s1113.trans s1315
        have okm : ∀ d, d ∈ ms.map (due f) → OkDue d := fun d hd => by
          obtain ⟨p, hp, rfl⟩ := List.mem_map.mp hd
          exact due_okd okf (hmok p hp)
        have okq : ∀ d, d ∈ qs2.map (due f) → OkDue d := fun d hd => by
          obtain ⟨p, hp, rfl⟩ := List.mem_map.mp hd
          exact due_okd okf (hqok p hp)
        -- the moments
        refine ⟨_, rfl, _, rfl, F15, s0, D1, dacc, ms.map (due f), rfl, g15.sub, hFs14, st14, hdb15, hdal15, okm, fun F16 H16 tb tys tms g16 st16 htb htal2 htok => ?_⟩
        have g516 := tr g15 g16
        have hFs16 := st14.out g16 hFs14
        have nfs : fb ≠ s0 := fun z => by
          obtain ⟨o, ho⟩ := st9.some
          rw [z, ho] at hfb9
          cases hfb9
        have hfb16 := g16.keepS hfb14 nfs
        have hFfb16 := g16.out hfb14 hFfb14
        have s1116 := s1115.trans g16.fs
        have hv16 := hv11.up s1116
        have hf16 := hf11.up s1116
        have hob16 := s1116 _ _ hob11
        have hoal16 := hoal11.mono fun _ _ h => Dp.up h s1116
        have hmb16 := s1116 _ _ hmb11
        have hmal16 := hmal11.mono fun _ _ h => Dp.up h s1116
        have hhb16 := s1116 _ _ hhb11
        have hhal16 := hhal11.mono fun _ _ h => Dp.up h s1116
        have htal16 := htal.mono fun _ _ h => Dp.up h s1116
        have hdb16 := g16.fs _ _ hdb15
        have hdal16 := hdal15.mono fun _ _ h => Dp.up h g16.fs
        have hqb16 := g16.fs _ _ hqb
        have hqal16 := hqal.mono fun _ _ h => Dp.up h g16.fs
        refine ⟨tb, rfl, ⟨tys, .inl (.inl (g16.sub _ _ htb))⟩, ?_⟩
        refine for_list (xs := tys) (fun j σ H' => ∃ x12 x13 x14 x15 x16 x17 F', σ = [some (.ref sa), some v, some flm, some (.int c), some (.ref s0), some (.ref sb), some (.ref ob), some (.ref mb), some (.ref hb), some (.ref fb), some (.ref D1), some (.ref D2), x12, x13, x14, x15, x16, x17] ∧ Gw [] F16 H16 F' H') ⟨_, _, _, _, _, _, F16, rfl, Gw.refl g16.sub⟩ ?_ ?_ ?_
        · rintro j σ H17 hj ⟨x12, x13, x14, x15, x16, x17, F17, rfl, g17⟩
          exact .inl (.inl (g17.same _ _ (g16.sub _ _ htb)))
        · rintro j tv σ H17 hj ⟨x12, x13, x14, x15, x16, x17, F17, rfl, g17⟩
          obtain ⟨t, ht, htd⟩ := htal2.at1 hj
          have okt := htok t (List.mem_of_getElem? ht)
          have htd17 := htd.up g17.fs
          have upA : ∀ {xs : List V} {rs : List PieceD} {Fz : Hp}, Same F16 Fz → Al (fun v p => Dp K F16 v (PieceD.dat f p)) xs rs → Al (fun v p => Dp K Fz v (PieceD.dat f p)) xs rs := fun s h => h.mono fun _ _ h => Dp.up h s
          have upD : ∀ {xs : List V} {rs : List (Int × Int)} {Fz : Hp}, Same F16 Fz → Al (fun v d => Dp K F16 v (frD d)) xs rs → Al (fun v d => Dp K Fz v (frD d)) xs rs := fun s h => h.mono fun _ _ h => Dp.up h s
          refine ⟨_, rfl, _, rfl, _, rfl, F17, flm, tv, hb, hys, f, ms, t, rfl, g17.sub, hf16.up g17.fs, okf, g17.sub _ _ (g17.fs _ _ hhb16), upA g17.fs hhal16, hmok, by omega, htd17, okt, fun F18 H18 g18 => ?_⟩
          have g1718 := g17.call g18
          refine ⟨_, rfl, _, _, _, _, false, rfl, .ty _, dp_ty (.int _), kb_int_bool, false, rfl, iteF ?_⟩
          refine ⟨_, rfl, _, rfl, _, rfl, F18, D1, tv, dacc, ms.map (due f), t, rfl, g18.sub, g1718.fs _ _ hdb16, upD g1718.fs hdal16, okm, htd17.up g18.fs, okt, fun F19 H19 g19 => ?_⟩
          have g1719 := g1718.call g19
          refine ⟨rfl, _, rfl, ?_⟩
          rw [decide_eq_true (rfl : V.int (readBy t (ms.map (due f)) : Nat) = V.int (readBy t (ms.map (due f)) : Nat))]
          refine iteF ?_
          have dh := lst_dp (g1719.sub _ _ (g1719.fs _ _ hhb16)) (upA (g1719.fs.trans g1719.sub) hhal16)
          have dm := lst_dp (g1719.sub _ _ (g1719.fs _ _ hmb16)) (upA (g1719.fs.trans g1719.sub) hmal16)
          refine ⟨_, rfl, _, rfl, _, _, dh, dm, (shp_pieces f _).ok, (shp_pieces f _).ok, _, rfl, ?_⟩
          rw [eqv_refl_of (shp_pieces f _)]
          refine iteF ?_
          refine ⟨_, rfl, _, rfl, _, rfl, F19, flm, tv, fb, ts, f, qs2, t, rfl, g19.sub, hf16.up g1719.fs, okf, g1719.same _ _ hfb16, upA g1719.fs htal16, hqok, by omega, htd17.up (g18.fs.trans g19.fs), okt, fun F20 H20 g20 => ?_⟩
          have g1720 := g1719.call g20
          refine ⟨_, rfl, _, rfl, _, rfl, F20, D2, tv, qacc, qs2.map (due f), t, rfl, g20.sub, g1720.fs _ _ hqb16, upD g1720.fs hqal16, okq, (htd17.up (g18.fs.trans g19.fs)).up g20.fs, okt, fun F21 H21 g21 => ?_⟩
          refine ⟨rfl, _, rfl, ?_⟩
          rw [decide_eq_true (rfl : V.int (readBy t (qs2.map (due f)) : Nat) = V.int (readBy t (qs2.map (due f)) : Nat))]
          refine iteF ⟨_, rfl, _, rfl, _, _, rfl, rfl, _, rfl, ?_⟩
          have hle : readBy t (qs2.map (due f)) ≤ readBy t (ms.map (due f)) := read_le (by have := okt.b0; omega) (fun d hd => by have := (okq d hd).b0; omega) (asc_of okf hqok hopw) (hqp.map _)
          rw [decide_eq_false (show ¬ ((readBy t (ms.map (due f)) : Nat) : Int) < ((readBy t (qs2.map (due f)) : Nat) : Int) by omega)]
          exact iteF ⟨_, _, _, _, _, _, F21, rfl, g1720.call g21⟩
        · rintro σ H17 ⟨x12, x13, x14, x15, x16, x17, F17, rfl, g17⟩
          have st17 := st_same st16 g17
          have hFs17 := st16.out g17 hFs16
          have hfb17 := g17.same _ _ hfb16
          have hFfb17 := g17.out hfb16 hFfb16
          have g517 := g516.call g17
          have hb17 := g17.fs _ _ hhb16
          have hhal17 := hhal16.mono fun _ _ h => Dp.up h g17.fs
          have mb17 := g17.fs _ _ hmb16
          have hmal17 := hmal16.mono fun _ _ h => Dp.up h g17.fs
          have ob17 := g17.fs _ _ hob16
          have hoal17 := hoal16.mono fun _ _ h => Dp.up h g17.fs
          have hf17 := hf16.up g17.fs
          -- what is no moment
          refine ⟨_, rfl, _, rfl, by show 2 ≤ sizeLine; decide, fun t1 ht1 => ?_⟩
          have e1 := g517.frz (o := .tup [.int 1, .int 0]) ht1
          refine ⟨_, rfl, by show 2 ≤ sizeLine; decide, fun t2 ht2 => ?_⟩
          have e2 := e1.frz (o := .tup [.int (-1), .int 2]) ht2
          refine ⟨by show 2 ≤ sizeLine; decide, fun t3 ht3 => ?_⟩
          have e3 := e2.frz (o := .tup [.int 2, .int 4]) ht3
          refine ⟨by show 1 ≤ sizeLine; decide, fun t4 ht4 => ?_⟩
          have e4 := e3.frz (o := .tup [.int 1]) ht4
          have y1 := same_new (o := .tup [.int 1, .int 0]) (g517.ffresh ht1)
          have y2 := same_new (o := .tup [.int (-1), .int 2]) (e1.ffresh ht2)
          have y3 := same_new (o := .tup [.int 2, .int 4]) (e2.ffresh ht3)
          have y4 := same_new (o := .tup [.int 1]) (e3.ffresh ht4)
          have d1 : Dp K _ (.ref t1) (.tuple ([1, 0].map PyData.int)) := (dp_tup (K := K) (ns := [1, 0]) (upd_same (H := F17) (a := t1) (o := .tup [.int 1, .int 0]))).up (y2.trans (y3.trans y4))
          have d2 : Dp K _ (.ref t2) (.tuple ([-1, 2].map PyData.int)) := (dp_tup (K := K) (ns := [-1, 2]) (upd_same (H := upd F17 t1 (.tup [.int 1, .int 0])) (a := t2) (o := .tup [.int (-1), .int 2]))).up (y3.trans y4)
          have d3 : Dp K _ (.ref t3) (.tuple ([2, 4].map PyData.int)) := (dp_tup (K := K) (ns := [2, 4]) (upd_same (H := upd (upd F17 t1 (.tup [.int 1, .int 0])) t2 (.tup [.int (-1), .int 2])) (a := t3) (o := .tup [.int 2, .int 4]))).up y4
          have d4 : Dp K _ (.ref t4) (.tuple ([1].map PyData.int)) := dp_tup (K := K) (ns := [1]) (upd_same (H := upd (upd (upd F17 t1 (.tup [.int 1, .int 0])) t2 (.tup [.int (-1), .int 2])) t3 (.tup [.int 2, .int 4])) (a := t4) (o := .tup [.int 1]))
          have st18 := (((st17.upd ht1 (o := .tup [.int 1, .int 0])).upd ht2 (o := .tup [.int (-1), .int 2])).upd ht3 (o := .tup [.int 2, .int 4])).upd ht4 (o := .tup [.int 1])
          have hFs18 := off_upd (((st17.upd ht1 (o := .tup [.int 1, .int 0])).upd ht2 (o := .tup [.int (-1), .int 2])).upd ht3 (o := .tup [.int 2, .int 4])).some.choose_spec ht4
            (off_upd ((st17.upd ht1 (o := .tup [.int 1, .int 0])).upd ht2 (o := .tup [.int (-1), .int 2])).some.choose_spec ht3
              (off_upd (st17.upd ht1 (o := .tup [.int 1, .int 0])).some.choose_spec ht2
                (off_upd st17.some.choose_spec ht1 hFs17 (o' := .tup [.int 1, .int 0])) (o' := .tup [.int (-1), .int 2])) (o' := .tup [.int 2, .int 4])) (o' := .tup [.int 1])
          have hfb18 := keep_upd (keep_upd (keep_upd (keep_upd hfb17 ht1 (o' := .tup [.int 1, .int 0])) ht2 (o' := .tup [.int (-1), .int 2])) ht3 (o' := .tup [.int 2, .int 4])) ht4 (o' := .tup [.int 1])
          have hFfb18 := off_upd (keep_upd (keep_upd (keep_upd hfb17 ht1 (o' := .tup [.int 1, .int 0])) ht2 (o' := .tup [.int (-1), .int 2])) ht3 (o' := .tup [.int 2, .int 4])) ht4
            (off_upd (keep_upd (keep_upd hfb17 ht1 (o' := .tup [.int 1, .int 0])) ht2 (o' := .tup [.int (-1), .int 2])) ht3
              (off_upd (keep_upd hfb17 ht1 (o' := .tup [.int 1, .int 0])) ht2
                (off_upd hfb17 ht1 hFfb17 (o' := .tup [.int 1, .int 0])) (o' := .tup [.int (-1), .int 2])) (o' := .tup [.int 2, .int 4])) (o' := .tup [.int 1])
          have y14 := y1.trans (y2.trans (y3.trans y4))
          generalize upd (upd (upd (upd F17 t1 (.tup [.int 1, .int 0])) t2 (.tup [.int (-1), .int 2])) t3 (.tup [.int 2, .int 4])) t4 (.tup [.int 1]) = F18 at *
          refine ⟨rfl, by show 8 ≤ sizeLine; decide, fun le hle => ?_⟩
          have e5 := e4.alloc (o := .lst [.non, .ref t1, .ref t2, .ref t3, .int 3, .str "0", .ref t4, .bl (decide (V.int 1 = V.int 1))]) hle
          have nle := st_ne st18 hle
          have hfb19 := keep_upd hfb18 hle (o' := .lst [.non, .ref t1, .ref t2, .ref t3, .int 3, .str "0", .ref t4, .bl (decide (V.int 1 = V.int 1))])
          refine ⟨_, rfl, F18, s0, 8, rfl, e5.sub, hFs18, st18.upd hle, by decide, by decide, fun H20 r20 g20 st20 hr20 => ?_⟩
          have e6 := tr e5 g20
          have hle20 := g20.keepS (upd_same (a := le) (o := .lst [.non, .ref t1, .ref t2, .ref t3, .int 3, .str "0", .ref t4, .bl (decide (V.int 1 = V.int 1))])) nle
          have hfb20 := g20.keepS hfb19 nfs
          obtain ⟨od, dd, hod, hdd, hodd⟩ : ∃ (x : V) (d : PyData), atI [V.non, .ref t1, .ref t2, .ref t3, .int 3, .str "0", .ref t4, .bl (decide (V.int 1 = V.int 1))] (r20 : Int) = some x ∧ Dp K F18 x d ∧ OddD d := by
            have : r20 = 0 ∨ r20 = 1 ∨ r20 = 2 ∨ r20 = 3 ∨ r20 = 4 ∨ r20 = 5 ∨ r20 = 6 ∨ r20 = 7 := by omega
            rcases this with rfl | rfl | rfl | rfl | rfl | rfl | rfl | rfl
            · exact ⟨_, _, rfl, .non, .inl rfl, rfl⟩
            · exact ⟨_, _, rfl, d1, odd_tup _ (by decide +kernel)⟩
            · exact ⟨_, _, rfl, d2, odd_tup _ (by decide +kernel)⟩
            · exact ⟨_, _, rfl, d3, odd_tup _ (by decide +kernel)⟩
            · exact ⟨_, _, rfl, .int 3, .inr (.inr (.inl ⟨3, rfl⟩)), rfl⟩
            · exact ⟨_, _, rfl, .str "0", .inr (.inr (.inr (.inl ⟨"0", rfl⟩))), rfl⟩
            · exact ⟨_, _, rfl, d4, odd_tup _ (by decide +kernel)⟩
            · exact ⟨_, _, rfl, .bl _, .inr (.inl ⟨_, rfl⟩), rfl⟩
          refine ⟨le, _, _, _, rfl, rfl, .inl (.inl hle20), hod, _, _, _, dd, rfl, hdd.up e6.sub, hodd.1, hodd.2, fun H21 s21 => ⟨_, rfl, iteF ?_⟩⟩
          have e7 := e6.pure s21
          have hfb21 := s21 _ _ hfb20
          -- the found list is turned round
          refine ⟨_, rfl, tyL hfb21, fb, ts, rfl, rfl, hfb21, ?_⟩
          have e8 := e7.put (o' := .lst ts.reverse) (.inl hfb0) hFfb18 hfb21
          have hb18 := y14 _ _ hb17
          have hhal18 := hhal17.mono fun _ _ h => Dp.up h y14
          have mb18 := y14 _ _ mb17
          have hmal18 := hmal17.mono fun _ _ h => Dp.up h y14
          have ob18 := y14 _ _ ob17
          have hoal18 := hoal17.mono fun _ _ h => Dp.up h y14
          have hf18 := hf17.up y14
          generalize upd H21 fb (.lst ts.reverse) = H22 at *
          refine ⟨_, rfl, _, rfl, F18, flm, hb, hys, f, ms, rfl, e8.sub, hf18, okf, e8.sub _ _ hb18, hhal18, hmok, by omega, fun F23 H23 b2 ts2 Ls2 qs3 g23 _ _ hb2 hFb2 hb20 hni2 hLs2 hts2 => ?_⟩
          have e9 := e8.call g23
          refine ⟨_, rfl, b2, rfl, ⟨ts2, .inl (.inl hb2)⟩, ?_⟩
          refine for_list (xs := ts2) (fun j σ H' => ∃ x16 x17, σ = [some (.ref sa), some v, some flm, some (.int c), some (.ref s0), some (.ref sb), some (.ref ob), some (.ref mb), some (.ref hb), some (.ref fb), some (.ref D1), some (.ref D2), x12, x13, x14, some (.ref b2), x16, x17] ∧ Gw [] F3 H3 F23 H' ∧ H' b2 = some (.lst ts2) ∧ ∀ L, L ∈ Ls2 → ∃ zs, H' L = some (.lst zs)) ⟨_, _, rfl, e9, hb2, fun L hL => (hLs2 L hL).2.2⟩ ?_ ?_ ?_
          · rintro j σ H24 hj ⟨x16, x17, rfl, g24, hb24, _⟩
            exact .inl (.inl hb24)
          · rintro j tv σ H24 hj ⟨x16, x17, rfl, g24, hb24, hLs24⟩
            have hjl := (List.getElem?_eq_some_iff.mp hj).1
            obtain ⟨p, hp, L, hL, tp, us, rfl, htp, _, _⟩ := hts2.at1 hj
            obtain ⟨zs, hzs⟩ := hLs24 L hL
            refine ⟨_, rfl, _, _, _, _, rfl, rfl, SqT.of (g24.sub _ _ htp), rfl, tyL hzs, L, zs, rfl, rfl, hzs, ?_⟩
            have hL3 : H3 L = none := e8.dom _ (hLs2 L hL).2.1
            refine ⟨_, _, rfl, g24.put (.inl hL3) (hLs2 L hL).1 hzs, ?_, fun L' hL' => ?_⟩
            · rw [upd_ne (fun z => hni2 (by rw [z]; exact hL))]
              exact hb24
            · by_cases z : L' = L
              · subst z
                exact ⟨[], upd_same⟩
              · rw [upd_ne z]
                exact hLs24 L' hL'
          · rintro σ H24 ⟨x16, x17, rfl, g24, hb24, hLs24⟩
            have hb23 := g23.fs _ _ hb18
            have hhal23 := hhal18.mono fun _ _ h => Dp.up h g23.fs
            have mb23 := g23.fs _ _ mb18
            have hmal23 := hmal18.mono fun _ _ h => Dp.up h g23.fs
            have ob23 := g23.fs _ _ ob18
            have hoal23 := hoal18.mono fun _ _ h => Dp.up h g23.fs
            have dh := lst_dp (g24.sub _ _ hb23) (hhal23.mono fun _ _ h => Dp.up h g24.sub)
            have dm := lst_dp (g24.sub _ _ mb23) (hmal23.mono fun _ _ h => Dp.up h g24.sub)
            refine ⟨_, rfl, _, rfl, _, _, dh, dm, (shp_pieces f _).ok, (shp_pieces f _).ok, _, rfl, ?_⟩
            rw [eqv_refl_of (shp_pieces f _)]
            refine iteF ?_
            refine ⟨_, rfl, _, rfl, F23, flm, hb, hys, f, ms, rfl, g24.sub, hf18.up g23.fs, okf, g24.sub _ _ hb23, hhal23, hmok, by omega, fun F25 H25 b3 ts3 Ls3 qs4 g25 hperm4 hpw4 hb3 _ _ _ _ hts3 => ?_⟩
            obtain rfl : qs4 = qs2 := order_uniq okf hsok (hperm4.trans hmperm) hoperm hpw4 hopw
            have da := lst_dp hb3 (outs_dpH (K := K) g25.sub hts3)
            have db := lst_dp (g25.sub _ _ (g25.fs _ _ ob23)) (hoal23.mono fun _ _ h => Dp.up h (g25.fs.trans g25.sub))
            refine ⟨_, rfl, _, _, da, db, (shp_pieces f _).ok, (shp_pieces f _).ok, _, rfl, ?_⟩
            rw [eqv_refl_of (shp_pieces f _)]
            exact iteF ⟨_, _, _, _, _, _, _, _, _, _, _, _, _, _, _, F25, rfl, g24.call g25⟩
      · rintro σ H4 ⟨x3, x4, x5, x6, x7, x8, x9, x10, x11, x12, x13, x14, x15, x16, x17, F4, rfl, g4⟩
        have hf4 := hf3.up g4.fs
        obtain ⟨a, dx, fs, ea, ha, _, _, _, lt⟩ := (hf4.up g4.sub).len
        refine ⟨_, rfl, a, dx, fs, ea, ha, lt, F4, flm, f, rfl, g4.sub, hf4, okf, fun F5 H5 u2 g5 hu => ?_⟩
        refine ⟨_, rfl, _, _, hu.up g5.sub, (hv3.up (g4.fs.trans g5.fs)).up g5.sub, (shp_film f).ok, (shp_film f).ok, ?_⟩
        rw [eqv_refl_of (shp_film f)]
        exact q _
end
end Sc

namespace Sc
open PySem PySem.Spec PyProof.Rows L2
/-- what a function names, what a class names, what a table holds -/
def rfF (o : Obj) : List Addr := match o.data with
  | .func fd => He.refV fd.code ++ He.refV fd.defaults
  | .cls cd => cd.ns :: cd.mro.flatMap He.refV
  | _ => []
def rfD (o : Obj) : List Addr := match o.data with
  | .dict es _ => es.toList.flatMap fun e => He.refV e.val
  | _ => []
def nxt (g : Addr → Option Obj) (r : Obj → List Addr) (l : List Addr) : List Addr := l.flatMap fun a => match g a with
  | some o => r o
  | none => []
def kAs (g : Addr → Option Obj) : List Addr :=
  cStatics :: mainGlobals :: (nxt g rfD [mainGlobals] ++ (nxt g rfF (nxt g rfD [mainGlobals]) ++ (nxt g rfD (nxt g rfF (nxt g rfD [mainGlobals])) ++ nxt g rfF (nxt g rfD (nxt g rfF (nxt g rfD [mainGlobals]))))))
abbrev AlS : Type := He.AlD × Bool
def obsS (K : PySem.W.Frag) : AlS := (He.obsD fa fn K, ex K)
def hkS : PySem.W.Hook where
  α := AlS
  obs := fun s => obsS (He.frG s.heap.get? (kAs s.heap.get?))
  val := fun _ => (He.valD fn, true)
  says := fun _ h => ∃ K : PySem.W.Frag, K.In h ∧ He.SaysD fa fn K ∧ ex K = true
  of := fun _ _ e => ⟨_, He.frG_in, congrArg (fun z : AlS => z.1) e, congrArg (fun z : AlS => z.2) e⟩
  keeps := fun _ _ _ ⟨K, hK, c⟩ k => ⟨K, PySem.W.Frag.In.keeps hK k, c⟩
def obT (s : PySem.W.SharedT) : AlS := obsS (He.frG (HandSHeadRun.getT s) (kAs (HandSHeadRun.getT s)))
theorem obT_eq (s : PySem.W.SharedT) : obT s = hkS.obs s.abs := by
  have e : HandSHeadRun.getT s = s.abs.heap.get? := funext (HandSHeadRun.getT_eq s)
  unfold obT
  rw [e]
  rfl
abbrev R : PySem.W.OpenRow := PySem.W.OpenLaw.row PySem.Challenge.rw_lanescroll_k47_whole_no_order_is_read_by
theorem run (w : World) : HandSHeadRun.RunEq R (PySem.W.view R.prog [95]) hkS obT 30000 loose w := by
  intro os
  kernel_rfl
end Sc

namespace Sc
open PySem PySem.Spec PyProof.Rows L2
theorem all_ok {P : Program} {w : World} {K : PySem.W.Frag} {mg : Str → Option Value} {base : Heap} {fd : FuncData} (F : FunD K "law" "law" (defArgs s_law) (defBody s_law) (defScope s_law) [] [] (He.ga K "law") fd) (T : Ts K mg) :
    FnOk P w K mg base C8.CX0 11 (He.ga K "law") fd ["_law_script"] (spLaw K) := by
  have c_is_number := ok_is_number (P := P) (w := w) (base := base) T
  have c_divisor := ok_divisor (P := P) (w := w) (base := base) T
  have c_fraction := ok_fraction T c_is_number c_divisor
  have c_less := ok_less (P := P) (w := w) (base := base) T
  have c_is_fraction := ok_is_fraction T c_is_number c_divisor
  have c_is_moment := ok_is_moment T c_is_fraction
  have c_is_whole := ok_is_whole (P := P) (w := w) (base := base) T
  have c_is_edit := ok_is_edit T c_is_fraction c_is_moment c_less
  have c_is_edits := ok_is_edits T c_is_edit
  have c_is_small := ok_is_small (P := P) (w := w) (base := base) T
  have c_are_lane_edits := ok_are_lane_edits T c_is_edits c_is_small
  have c_sure_moment := ok_sure_moment T c_is_moment
  have c_Plain := ok_Plain_init (P := P) (w := w) (base := base) T
  have c_Moved := ok_Moved_init (P := P) (w := w) (base := base) T
  have c_Mixed := ok_Mixed_init (P := P) (w := w) (base := base) T
  have c_needs := ok_needs (P := P) (w := w) (base := base) T
  have c_is_need := ok_is_need T c_is_whole
  have c_is_need_k := ok_is_need_k T c_is_whole
  have c_rule_of := ok_rule_of T c_is_whole c_is_need c_is_need_k c_Plain c_Moved c_Mixed
  have c_Leaf := ok_Leaf_init (P := P) (w := w) (base := base) T
  have c_Full := ok_Full_init T c_Leaf
  have c_Still := ok_Still_init T c_Leaf
  have c_Woven := ok_Woven_init T c_Leaf
  have c_told := ok_told (P := P) (w := w) (base := base) T
  have c_cells := ok_cells (P := P) (w := w) (base := base) T
  have c_rule := ok_rule T (ok_Full_rule T c_is_whole c_Plain) (ok_Still_rule T c_is_whole c_Moved) (ok_Woven_rule T c_is_whole c_rule_of)
  have c_is_value := calat_of (ok_is_value T c_is_whole) T.g_is_value
  have c_is_rule := calat_of (ok_is_rule T c_rule_of) T.g_is_rule
  have c_is_row_of := ok_is_row_of T c_is_value c_is_rule
  have c_leaf_of := ok_leaf_of T c_is_whole c_is_row_of c_Full c_Still c_Woven
  have c_fits := ok_fits T c_cells c_rule c_needs
  have c_Film := ok_Film_init (P := P) (w := w) (base := base) T
  have c_len := ok_Film_len (P := P) (w := w) (base := base) T
  have c_lane_at := ok_Film_lane_at T c_is_whole
  have c_leaf_there := ok_Film_leaf_there T c_is_whole c_lane_at
  have c_units := ok_Film_units T c_lane_at
  have c_many := ok_Film_many T c_lane_at
  have c_told_leaf := ok_Film_told_leaf T c_leaf_there c_told
  have c_Film_told := ok_Film_told T c_told
  have c_are_apart := ok_are_apart (P := P) (w := w) (base := base) T
  have c_good_leaf := ok_good_leaf T c_leaf_of c_fits c_are_apart
  have c_lane_of := ok_lane_of T c_is_whole c_good_leaf c_are_lane_edits
  have c_film_of := ok_film_of T c_is_whole c_lane_of c_Film
  have c_needs_of := ok_needs_of T c_rule c_needs
  have c_hung := ok_hung T c_needs_of
  have c_needed := ok_needed T c_hung
  have c_begins_due := ok_begins_due T c_many c_told_leaf c_leaf_of c_needed
  have c_scale_of := ok_scale_of T c_units c_len
  have c_dues_of := ok_dues_of T c_units c_len c_begins_due c_fraction
  have c_ordered := ok_ordered T c_scale_of c_dues_of
  have c_read_by := ok_read_by T c_sure_moment c_less c_dues_of
  have l_digit := ok_law_digit (P := P) (w := w) (base := base) T
  have l_shared := ok_law_shared (P := P) (w := w) (base := base) T
  have l_lowest := ok_law_lowest T l_shared
  have l_rule := ok_law_rule T l_digit
  have l_leaf := ok_law_leaf T l_digit l_rule
  have l_leaves := ok_law_leaves T l_digit l_leaf
  have l_edits := ok_law_lane_edits T l_digit l_lowest
  have l_lane := ok_law_lane T l_digit l_leaves l_edits
  have l_film := ok_law_film T l_digit l_lane
  have l_rules := ok_law_rules (P := P) (w := w) (base := base) T
  have l_needs := ok_law_needs (P := P) (w := w) (base := base) T
  have l_begin := ok_law_begin_due T l_rules l_needs
  have l_runs := ok_law_runs (P := P) (w := w) (base := base) T
  have l_due := ok_law_due T l_begin l_lowest
  have l_less := ok_law_less (P := P) (w := w) (base := base) T
  have l_ahead := ok_law_ahead T l_less
  have l_ordered := ok_law_ordered T l_due l_ahead
  have l_some := ok_law_some T l_digit l_runs
  have l_mixed := ok_law_mixed T l_digit
  have l_moments := ok_law_moments T l_digit l_lowest
  have l_read := ok_law_read_by T l_less
  have l_copy := ok_law_copy (P := P) (w := w) (base := base) T
  have l_refused := ok_law_refused T (okx_read_by T (okx_sure_moment T c_is_moment))
  exact ok_law F T l_film (ok_law_cell_at T) c_film_of l_some l_ordered l_mixed l_copy c_ordered l_due l_moments c_read_by l_read l_refused l_digit c_Film_told
end Sc
open PySem PySem.W PySem.Calls PyProof.Rows
theorem PySem.Challenge.cw_lanescroll_k47_whole_no_order_is_read_by_holds : PySem.Challenge.rw_lanescroll_k47_whole_no_order_is_read_by.Holds := by
  w_on; o_law
  refine HandSHeadRun.head_any (r := OpenLaw.row PySem.Challenge.rw_lanescroll_k47_whole_no_order_is_read_by) (q := view (OpenLaw.row PySem.Challenge.rw_lanescroll_k47_whole_no_order_is_read_by).prog [95]) (H := Sc.hkS) (ob := Sc.obT) (M := 30000) (loose := Sc.loose) (d := HandSHeadRun.topDef (OpenLaw.row PySem.Challenge.rw_lanescroll_k47_whole_no_order_is_read_by).prog 95) (kwd := []) Sc.obT_eq
    (by kernel_rfl) (fun s => by kernel_rfl) Sc.run (by kernel_rfl) (by kernel_rfl) (by kernel_rfl) (by rfl) (by first | assumption | decide +kernel) (by decide +kernel) ⟨rfl, rfl, rfl, rfl, rfl, by decide +kernel⟩ ?hw ?hc
  case hw => w_witness2
  case hc =>
    refine L2.walk_ofE (l := PySem.Challenge.rw_lanescroll_k47_whole_no_order_is_read_by) (n := 63) (k := 11) (x := "_law_script") (CX := C8.CX0) rfl (by decide) (by kernel_rfl) ⟨rfl, by decide, by decide⟩ ?F (fun _ _ _ _ z => z)
    intro w mg fa h Y G hmg0
    obtain ⟨K, KX, c1, c2⟩ := Y
    have hmg : mg ("law" : PySem.Str) = some (.ref fa) := by
      have e : (HandSHeadRun.topDef (OpenLaw.row PySem.Challenge.rw_lanescroll_k47_whole_no_order_is_read_by).prog 95).name = ("law" : PySem.Str) := by kernel_rfl
      rw [← e]
      exact hmg0
    have T : Sc.Ts K mg := ⟨c1, Sc.ex_ok c2, ⟨h, KX, G⟩⟩
    obtain ⟨fd, F⟩ := T.f_law
    have e := hmg.symm.trans T.g_law
    cases e
    have b := L2.FunD.bindsA (ps := ["_law_script"]) F fun _ _ _ _ _ _ us hl => match us, hl with | [_], _ => rfl
    exact ⟨K, fd, Sc.spLaw K, KX, fun s v => b s [v] rfl, fun H a ns hl _ hS => ⟨a, ns, rfl, hl, hS, fun _ => rfl⟩, fun base _ _ => Sc.all_ok F T⟩
