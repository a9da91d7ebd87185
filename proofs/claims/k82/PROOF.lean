import PyProof.Rows.All
import Wide.All
import OpenK.AllK
import Wide.FinOn
import HandS.ForMost
import HandS.WordsExc
import HandS.Defaults
import HandS.Head0
import HandS.Head1
import HandS.Head2
import HandS.HeadEnd
import HandS.HeadHook1
import HandS.HeadHook2
import HandS.HeadHook3
import HandS.HeadHook4
import PySem.Challenge.RW_creasewrit_k82_whole_rows_of_maps
import HandS.Walk
import HandS.Deep
import HandS.Conv
import HandS.TupAny
import HandS.TupMul
import HandS.IsInst
import HandS.Style
import HandS.Lambda
import HandS.Zip
import KE.GoesEnum
import KE.KDictZip
import KE.DataMinMax
import KE.SortData
import KE.KTupSum
import HandS.NoneIn
import KE.KIndexOf
import KE.SortKeyHeap
import KE.KSortKey
import HandS.SortKw
import HandS.HeadWalk
set_option Elab.async false
set_option linter.all false
set_option maxRecDepth 100000
set_option maxHeartbeats 0
/-! ## part Head -/
/-! The head: facts by names, one kernel run. Printed by gen_head.py. -/
namespace K82
open PySem PySem.Spec PyProof.Rows L2
def top (i : Nat) : Stmt := PySem.Challenge.pw_creasewrit_k82_whole_rows_of_maps.main.body.getD i (.Pass ⟨0, 0, 0, 0⟩)
abbrev s_is_whole : Stmt := top 13
abbrev s_Strip_init : Stmt := inClass (top 14) 0
abbrev s_places : Stmt := top 15
abbrev s_ends : Stmt := top 16
abbrev s_u_are_creases : Stmt := top 19
abbrev s_Map_init : Stmt := inClass (top 20) 0
abbrev s_Map_place : Stmt := inClass (top 20) 1
abbrev s_Map_is_odd : Stmt := inClass (top 20) 2
abbrev s_creases : Stmt := top 21
abbrev s_is_pile : Stmt := top 24
abbrev s_check_pile : Stmt := top 25
abbrev s_u_heights : Stmt := top 26
abbrev s_cross_piles : Stmt := top 27
abbrev s_map_fault : Stmt := top 29
abbrev s_u_shown : Stmt := top 30
abbrev s_map_shown : Stmt := top 31
abbrev s_map_keeps_fault : Stmt := top 32
abbrev s_is_higher : Stmt := top 34
abbrev s_Pile_piling_init : Stmt := inClass (top 35) 0
abbrev s_Pile_piling_with_beside : Stmt := inClass (top 35) 1
abbrev s_Row_init : Stmt := inClass (top 37) 0
abbrev s_Row_up : Stmt := inClass (top 37) 1
abbrev s_Row_crimp_any : Stmt := inClass (top 37) 4
abbrev s_Row_fold_end : Stmt := inClass (top 37) 5
abbrev s_piled : Stmt := top 38
abbrev s_u_is_end : Stmt := top 48
abbrev s_is_step : Stmt := top 49
abbrev s_u_done : Stmt := top 50
abbrev s_due_step : Stmt := top 51
abbrev s_reduced : Stmt := top 52
abbrev s_ways_of : Stmt := top 55
abbrev s_count : Stmt := top 56
abbrev s_tellings : Stmt := top 57
abbrev s_u_told : Stmt := top 58
abbrev s_telling : Stmt := top 59
abbrev s_folds : Stmt := top 61
abbrev s_folded_folding : Stmt := top 62
abbrev s_Pile_mapfold_init : Stmt := inClass (top 70) 0
abbrev s_Pile_mapfold_left : Stmt := inClass (top 70) 1
abbrev s_Pile_mapfold_is_crease : Stmt := inClass (top 70) 2
abbrev s_Pile_mapfold_goal : Stmt := inClass (top 70) 3
abbrev s_Pile_mapfold_is_under : Stmt := inClass (top 70) 4
abbrev s_Pile_mapfold_reason : Stmt := inClass (top 70) 5
abbrev s_Pile_mapfold_find : Stmt := inClass (top 70) 6
abbrev s_Pile_mapfold_every : Stmt := inClass (top 70) 7
abbrev s_folded_mapfold : Stmt := top 72
abbrev s_states_of : Stmt := top 74
abbrev s_folded_map : Stmt := top 76
abbrev s_is_state : Stmt := top 78
abbrev s_check_state : Stmt := top 79
abbrev s_levels : Stmt := top 80
abbrev s_u_cut : Stmt := top 81
abbrev s_cross_states : Stmt := top 82
abbrev s_state_fault : Stmt := top 84
abbrev s_u_showing : Stmt := top 85
abbrev s_shown : Stmt := top 86
abbrev s_keeps_fault : Stmt := top 87
abbrev s_u_law_draws : Stmt := top 89
abbrev s_u_law_places : Stmt := top 91
abbrev s_u_law_order : Stmt := top 92
abbrev s_u_law_within : Stmt := top 93
abbrev s_u_law_fault : Stmt := top 94
abbrev s_u_law_shows : Stmt := top 95
abbrev s_u_law_states : Stmt := top 96
abbrev s_law : Stmt := top 97
def d_is_whole : He.DefD := ⟨("is_whole", none), "is_whole", "is_whole", defArgs s_is_whole, defBody s_is_whole, defScope s_is_whole, [], []⟩
def d_Strip_init : He.DefD := ⟨("Strip", some "__init__"), "__init__", "Strip.__init__", defArgs s_Strip_init, defBody s_Strip_init, defScope s_Strip_init, [], []⟩
def d_places : He.DefD := ⟨("places", none), "places", "places", defArgs s_places, defBody s_places, defScope s_places, [], []⟩
def d_ends : He.DefD := ⟨("ends", none), "ends", "ends", defArgs s_ends, defBody s_ends, defScope s_ends, [], []⟩
def d_u_are_creases : He.DefD := ⟨("_are_creases", none), "_are_creases", "_are_creases", defArgs s_u_are_creases, defBody s_u_are_creases, defScope s_u_are_creases, [], []⟩
def d_Map_init : He.DefD := ⟨("Map", some "__init__"), "__init__", "Map.__init__", defArgs s_Map_init, defBody s_Map_init, defScope s_Map_init, [], []⟩
def d_Map_place : He.DefD := ⟨("Map", some "place"), "place", "Map.place", defArgs s_Map_place, defBody s_Map_place, defScope s_Map_place, [], []⟩
def d_Map_is_odd : He.DefD := ⟨("Map", some "is_odd"), "is_odd", "Map.is_odd", defArgs s_Map_is_odd, defBody s_Map_is_odd, defScope s_Map_is_odd, [], []⟩
def d_creases : He.DefD := ⟨("creases", none), "creases", "creases", defArgs s_creases, defBody s_creases, defScope s_creases, [], []⟩
def d_is_pile : He.DefD := ⟨("is_pile", none), "is_pile", "is_pile", defArgs s_is_pile, defBody s_is_pile, defScope s_is_pile, [], []⟩
def d_check_pile : He.DefD := ⟨("check_pile", none), "check_pile", "check_pile", defArgs s_check_pile, defBody s_check_pile, defScope s_check_pile, [], []⟩
def d_u_heights : He.DefD := ⟨("_heights", none), "_heights", "_heights", defArgs s_u_heights, defBody s_u_heights, defScope s_u_heights, [], []⟩
def d_cross_piles : He.DefD := ⟨("cross_piles", none), "_cross", "_cross", defArgs s_cross_piles, defBody s_cross_piles, defScope s_cross_piles, [], []⟩
def d_map_fault : He.DefD := ⟨("map_fault", none), "map_fault", "map_fault", defArgs s_map_fault, defBody s_map_fault, defScope s_map_fault, [], []⟩
def d_u_shown : He.DefD := ⟨("_shown", none), "_shown", "_shown", defArgs s_u_shown, defBody s_u_shown, defScope s_u_shown, [], []⟩
def d_map_shown : He.DefD := ⟨("map_shown", none), "map_shown", "map_shown", defArgs s_map_shown, defBody s_map_shown, defScope s_map_shown, [], []⟩
def d_map_keeps_fault : He.DefD := ⟨("map_keeps_fault", none), "map_keeps_fault", "map_keeps_fault", defArgs s_map_keeps_fault, defBody s_map_keeps_fault, defScope s_map_keeps_fault, [], []⟩
def d_is_higher : He.DefD := ⟨("is_higher", none), "is_higher", "is_higher", defArgs s_is_higher, defBody s_is_higher, defScope s_is_higher, [], []⟩
def d_Pile_piling_init : He.DefD := ⟨("Pile_piling", some "__init__"), "__init__", "Pile.__init__", defArgs s_Pile_piling_init, defBody s_Pile_piling_init, defScope s_Pile_piling_init, [], []⟩
def d_Pile_piling_with_beside : He.DefD := ⟨("Pile_piling", some "with_beside"), "with_beside", "Pile.with_beside", defArgs s_Pile_piling_with_beside, defBody s_Pile_piling_with_beside, defScope s_Pile_piling_with_beside, [], []⟩
def d_Row_init : He.DefD := ⟨("Row", some "__init__"), "__init__", "Row.__init__", defArgs s_Row_init, defBody s_Row_init, defScope s_Row_init, [], []⟩
def d_Row_up : He.DefD := ⟨("Row", some "_up"), "_up", "Row._up", defArgs s_Row_up, defBody s_Row_up, defScope s_Row_up, [], []⟩
def d_Row_crimp_any : He.DefD := ⟨("Row", some "crimp_any"), "crimp_any", "Row.crimp_any", defArgs s_Row_crimp_any, defBody s_Row_crimp_any, defScope s_Row_crimp_any, [], []⟩
def d_Row_fold_end : He.DefD := ⟨("Row", some "fold_end"), "fold_end", "Row.fold_end", defArgs s_Row_fold_end, defBody s_Row_fold_end, defScope s_Row_fold_end, [], []⟩
def d_piled : He.DefD := ⟨("piled", none), "piled", "piled", defArgs s_piled, defBody s_piled, defScope s_piled, [], []⟩
def d_u_is_end : He.DefD := ⟨("_is_end", none), "_is_end", "_is_end", defArgs s_u_is_end, defBody s_u_is_end, defScope s_u_is_end, [], []⟩
def d_is_step : He.DefD := ⟨("is_step", none), "is_step", "is_step", defArgs s_is_step, defBody s_is_step, defScope s_is_step, [], []⟩
def d_u_done : He.DefD := ⟨("_done", none), "_done", "_done", defArgs s_u_done, defBody s_u_done, defScope s_u_done, [], []⟩
def d_due_step : He.DefD := ⟨("due_step", none), "due_step", "due_step", defArgs s_due_step, defBody s_due_step, defScope s_due_step, [], []⟩
def d_reduced : He.DefD := ⟨("reduced", none), "reduced", "reduced", defArgs s_reduced, defBody s_reduced, defScope s_reduced, [], []⟩
def d_ways_of : He.DefD := ⟨("ways_of", none), "ways_of", "ways_of", defArgs s_ways_of, defBody s_ways_of, defScope s_ways_of, [], []⟩
def d_count : He.DefD := ⟨("count", none), "count", "count", defArgs s_count, defBody s_count, defScope s_count, [], []⟩
def d_tellings : He.DefD := ⟨("tellings", none), "tellings", "tellings", defArgs s_tellings, defBody s_tellings, defScope s_tellings, [], []⟩
def d_u_told : He.DefD := ⟨("_told", none), "_told", "_told", defArgs s_u_told, defBody s_u_told, defScope s_u_told, [], []⟩
def d_telling : He.DefD := ⟨("telling", none), "telling", "telling", defArgs s_telling, defBody s_telling, defScope s_telling, [], []⟩
def d_folds : He.DefD := ⟨("folds", none), "folds", "folds", defArgs s_folds, defBody s_folds, defScope s_folds, [], []⟩
def d_folded_folding : He.DefD := ⟨("folded_folding", none), "folded", "folded", defArgs s_folded_folding, defBody s_folded_folding, defScope s_folded_folding, [], []⟩
def d_Pile_mapfold_init : He.DefD := ⟨("Pile_mapfold", some "__init__"), "__init__", "Pile.__init__", defArgs s_Pile_mapfold_init, defBody s_Pile_mapfold_init, defScope s_Pile_mapfold_init, [], []⟩
def d_Pile_mapfold_left : He.DefD := ⟨("Pile_mapfold", some "left"), "left", "Pile.left", defArgs s_Pile_mapfold_left, defBody s_Pile_mapfold_left, defScope s_Pile_mapfold_left, [], []⟩
def d_Pile_mapfold_is_crease : He.DefD := ⟨("Pile_mapfold", some "is_crease"), "is_crease", "Pile.is_crease", defArgs s_Pile_mapfold_is_crease, defBody s_Pile_mapfold_is_crease, defScope s_Pile_mapfold_is_crease, [], []⟩
def d_Pile_mapfold_goal : He.DefD := ⟨("Pile_mapfold", some "_goal"), "_goal", "Pile._goal", defArgs s_Pile_mapfold_goal, defBody s_Pile_mapfold_goal, defScope s_Pile_mapfold_goal, [], []⟩
def d_Pile_mapfold_is_under : He.DefD := ⟨("Pile_mapfold", some "is_under"), "is_under", "Pile.is_under", defArgs s_Pile_mapfold_is_under, defBody s_Pile_mapfold_is_under, defScope s_Pile_mapfold_is_under, [], []⟩
def d_Pile_mapfold_reason : He.DefD := ⟨("Pile_mapfold", some "reason"), "reason", "Pile.reason", defArgs s_Pile_mapfold_reason, defBody s_Pile_mapfold_reason, defScope s_Pile_mapfold_reason, [], []⟩
def d_Pile_mapfold_find : He.DefD := ⟨("Pile_mapfold", some "find"), "find", "Pile.find", defArgs s_Pile_mapfold_find, defBody s_Pile_mapfold_find, defScope s_Pile_mapfold_find, [], []⟩
def d_Pile_mapfold_every : He.DefD := ⟨("Pile_mapfold", some "every"), "every", "Pile.every", defArgs s_Pile_mapfold_every, defBody s_Pile_mapfold_every, defScope s_Pile_mapfold_every, [], []⟩
def d_folded_mapfold : He.DefD := ⟨("folded_mapfold", none), "folded", "folded", defArgs s_folded_mapfold, defBody s_folded_mapfold, defScope s_folded_mapfold, [], []⟩
def d_states_of : He.DefD := ⟨("states_of", none), "states_of", "states_of", defArgs s_states_of, defBody s_states_of, defScope s_states_of, [], []⟩
def d_folded_map : He.DefD := ⟨("folded_map", none), "folded_map", "folded_map", defArgs s_folded_map, defBody s_folded_map, defScope s_folded_map, [], []⟩
def d_is_state : He.DefD := ⟨("is_state", none), "is_state", "is_state", defArgs s_is_state, defBody s_is_state, defScope s_is_state, [], []⟩
def d_check_state : He.DefD := ⟨("check_state", none), "check_state", "check_state", defArgs s_check_state, defBody s_check_state, defScope s_check_state, [], []⟩
def d_levels : He.DefD := ⟨("levels", none), "levels", "levels", defArgs s_levels, defBody s_levels, defScope s_levels, [], []⟩
def d_u_cut : He.DefD := ⟨("_cut", none), "_cut", "_cut", defArgs s_u_cut, defBody s_u_cut, defScope s_u_cut, [], []⟩
def d_cross_states : He.DefD := ⟨("cross_states", none), "_cross", "_cross", defArgs s_cross_states, defBody s_cross_states, defScope s_cross_states, [], []⟩
def d_state_fault : He.DefD := ⟨("state_fault", none), "state_fault", "state_fault", defArgs s_state_fault, defBody s_state_fault, defScope s_state_fault, [], []⟩
def d_u_showing : He.DefD := ⟨("_showing", none), "_showing", "_showing", defArgs s_u_showing, defBody s_u_showing, defScope s_u_showing, [], []⟩
def d_shown : He.DefD := ⟨("shown", none), "shown", "shown", defArgs s_shown, defBody s_shown, defScope s_shown, [], []⟩
def d_keeps_fault : He.DefD := ⟨("keeps_fault", none), "keeps_fault", "keeps_fault", defArgs s_keeps_fault, defBody s_keeps_fault, defScope s_keeps_fault, [], []⟩
def d_u_law_draws : He.DefD := ⟨("_law_draws", none), "_law_draws", "_law_draws", defArgs s_u_law_draws, defBody s_u_law_draws, defScope s_u_law_draws, [], []⟩
def d_u_law_places : He.DefD := ⟨("_law_places", none), "_law_places", "_law_places", defArgs s_u_law_places, defBody s_u_law_places, defScope s_u_law_places, [], []⟩
def d_u_law_order : He.DefD := ⟨("_law_order", none), "_law_order", "_law_order", defArgs s_u_law_order, defBody s_u_law_order, defScope s_u_law_order, [], []⟩
def d_u_law_within : He.DefD := ⟨("_law_within", none), "_law_within", "_law_within", defArgs s_u_law_within, defBody s_u_law_within, defScope s_u_law_within, [], []⟩
def d_u_law_fault : He.DefD := ⟨("_law_fault", none), "_law_fault", "_law_fault", defArgs s_u_law_fault, defBody s_u_law_fault, defScope s_u_law_fault, [], []⟩
def d_u_law_shows : He.DefD := ⟨("_law_shows", none), "_law_shows", "_law_shows", defArgs s_u_law_shows, defBody s_u_law_shows, defScope s_u_law_shows, [], []⟩
def d_u_law_states : He.DefD := ⟨("_law_states", none), "_law_states", "_law_states", defArgs s_u_law_states, defBody s_u_law_states, defScope s_u_law_states, [], []⟩
def d_law : He.DefD := ⟨("law", none), "law", "law", defArgs s_law, defBody s_law, defScope s_law, [], []⟩
def fn0 : List He.DefD := [d_is_whole, d_Strip_init, d_places, d_ends, d_u_are_creases, d_Map_init, d_Map_place, d_Map_is_odd, d_creases, d_is_pile, d_check_pile, d_u_heights, d_cross_piles, d_map_fault, d_u_shown, d_map_shown, d_map_keeps_fault, d_is_higher, d_Pile_piling_init, d_Pile_piling_with_beside, d_Row_init, d_Row_up, d_Row_crimp_any, d_Row_fold_end, d_piled, d_u_is_end, d_is_step, d_u_done, d_due_step, d_reduced]
def fn1 : List He.DefD := [d_ways_of, d_count, d_tellings, d_u_told, d_telling, d_folds, d_folded_folding, d_Pile_mapfold_init, d_Pile_mapfold_left, d_Pile_mapfold_is_crease, d_Pile_mapfold_goal, d_Pile_mapfold_is_under, d_Pile_mapfold_reason, d_Pile_mapfold_find, d_Pile_mapfold_every, d_folded_mapfold, d_states_of, d_folded_map, d_is_state, d_check_state, d_levels, d_u_cut, d_cross_states, d_state_fault, d_u_showing, d_shown, d_keeps_fault, d_u_law_draws, d_u_law_places, d_u_law_order]
def fn2 : List He.DefD := [d_u_law_within, d_u_law_fault, d_u_law_shows, d_u_law_states, d_law]
def fn : List He.DefD := fn0 ++ fn1 ++ fn2
def fa0 : List He.Fa := [.glo "is_whole", .glo "places", .glo "ends", .glo "_are_creases", .glo "creases", .glo "is_pile", .glo "check_pile", .glo "_heights", .glo "cross_piles", .glo "map_fault", .glo "_shown", .glo "map_shown", .glo "map_keeps_fault", .glo "is_higher", .glo "piled", .glo "_is_end", .glo "is_step", .glo "_done", .glo "due_step", .glo "reduced", .glo "ways_of", .glo "count", .glo "tellings", .glo "_told", .glo "telling", .glo "folds", .glo "folded_folding", .glo "folded_mapfold", .glo "states_of", .glo "folded_map"]
def fa1 : List He.Fa := [.glo "is_state", .glo "check_state", .glo "levels", .glo "_cut", .glo "cross_states", .glo "state_fault", .glo "_showing", .glo "shown", .glo "keeps_fault", .glo "_law_draws", .glo "_law_places", .glo "_law_order", .glo "_law_within", .glo "_law_fault", .glo "_law_shows", .glo "_law_states", .glo "law", .glo "Strip", .glo "Map", .glo "Pile_piling", .glo "Row", .glo "Pile_mapfold", .glo "LEFT", .glo "RIGHT", .free "len", .free "range", .free "isinstance", .free "int", .free "bool", .free "str"]
def fa2 : List He.Fa := [.free "tuple", .free "list", .free "all", .free "any", .free "min", .free "max", .free "sum", .free "sorted", .free "enumerate", .free "zip", .free "abs", .str "MOUNTAIN" "M", .str "VALLEY" "V", .str "OPEN" "?", .str "FORM" "form", .str "BLOCK" "block", .str "CREASE" "crease", .str "UNDER" "under", .str "THEN" "then", .int "MOST_SEGMENTS" 20, .int "MOST_LENGTH" 1000, .int "MOST_LINES" 6, .int "MOST_FOLDED" 10, .int "MOST_LISTED" 9, .cls "Strip", .mkr "Strip", .noat "Strip" "lengths", .noat "Strip" "creases", .noat "Strip" "size", .cls "Map"]
def fa3 : List He.Fa := [.mkr "Map", .noat "Map" "rows", .noat "Map" "columns", .noat "Map" "across", .noat "Map" "down", .noat "Map" "cells", .cls "Pile_piling", .mkr "Pile_piling", .noat "Pile_piling" "length", .noat "Pile_piling" "layers", .cls "Row", .mkr "Row", .noat "Row" "size", .noat "Row" "is_ring", .noat "Row" "piles", .noat "Row" "creases", .cls "Pile_mapfold", .mkr "Pile_mapfold", .noat "Pile_mapfold" "sheet", .noat "Pile_mapfold" "cells", .noat "Pile_mapfold" "near", .meth "Map" "place", .meth "Map" "is_odd", .meth "Pile_piling" "with_beside", .meth "Row" "_up", .meth "Row" "crimp_any", .meth "Row" "fold_end", .meth "Pile_mapfold" "left", .meth "Pile_mapfold" "is_crease", .meth "Pile_mapfold" "_goal"]
def fa4 : List He.Fa := [.meth "Pile_mapfold" "is_under", .meth "Pile_mapfold" "reason", .meth "Pile_mapfold" "find", .meth "Pile_mapfold" "every"]
def fa : List He.Fa := fa0 ++ fa1 ++ fa2 ++ fa3 ++ fa4
def loose0 : List Str := ["FoldError", "BadStrip", "BadState", "BadNumber", "BadMap", "TooMany", "MOST_SEGMENTS", "MOST_LENGTH", "MOUNTAIN", "VALLEY", "OPEN", "is_whole", "Strip", "places", "ends", "MOST_LINES", "_are_creases", "Map", "creases", "FORM", "is_pile", "check_pile", "_heights", "_cross", "cross_piles", "map_fault", "_shown", "map_shown", "map_keeps_fault", "is_higher"]
def loose1 : List Str := ["Pile", "Pile_piling", "Row", "piled", "LEFT", "RIGHT", "BLOCK", "is_block", "gives_way", "left_crease", "without_block", "_after_block", "_is_end", "is_step", "_done", "due_step", "reduced", "products", "ways_of", "count", "tellings", "_told", "telling", "folds", "folded", "folded_folding", "CREASE", "UNDER", "THEN", "MOST_FOLDED"]
def loose2 : List Str := ["MOST_LISTED", "Pile_mapfold", "folded_mapfold", "states_of", "folded_map", "is_state", "check_state", "levels", "_cut", "cross_states", "state_fault", "_showing", "shown", "keeps_fault", "_law_draws", "_law_strip", "_law_places", "_law_order", "_law_within", "_law_fault", "_law_shows", "_law_states"]
def loose : List Str := loose0 ++ loose1 ++ loose2
def tf : List He.Defn := [("Pile_mapfold", some "__init__")]
def ex (K : PySem.W.Frag) : Bool := He.tupB K "LEFT" [.str "left"] && He.tupB K "RIGHT" [.str "right"]
abbrev R : PySem.W.OpenRow := PySem.W.OpenLaw.row PySem.Challenge.rw_creasewrit_k82_whole_rows_of_maps
abbrev hk : PySem.W.Hook := He.hookX 4 fa fn [] tf ex
def ob (s : PySem.W.SharedT) : He.AlX := He.obsX 4 fa fn [] tf ex (HandSHeadRun.getT s)
theorem ob_eq (s : PySem.W.SharedT) : ob s = hk.obs s.abs := He.obsX_eq (HandSHeadRun.getT_eq s)
theorem run (w : World) : HandSHeadRun.RunEq R (PySem.W.view R.prog [97]) hk ob 6000 loose w := by
  intro os
  kernel_rfl
end K82
/-! ## part D -/
/-! A layer over HandS: values as address-free data (Dt), readings as big steps over data. F: the part of the tracked heap that is frozen (known for ever); H: the tracked heap; F0, H0: at the def's entry. -/
namespace K82
open PySem PySem.Spec PyProof.Rows L2

/-- data: what a value is, without addresses; ins: an instance that is no more changed; ref: that very address; nn: some object; scr: the script -/
inductive Dt where
  | non | bl (b : Bool) | int (i : Int) | str (s : Str) | lst (ds : List Dt) | tup (ds : List Dt) | ins (C : Addr) (fs : List (Str × Dt)) | ref (a : Addr) | nn | scr (ns : List Int) | etup (ds : List Dt)

mutual
def Den (K : PySem.W.Frag) (F : Hp) : Dt → V → Prop
  | .non, v => v = .non
  | .bl b, v => v = .bl b
  | .int i, v => v = .int i
  | .str s, v => v = .str s
  | .lst ds, v => ∃ a xs, v = .ref a ∧ F a = some (.lst xs) ∧ DenL K F ds xs
  | .tup ds, v => ∃ a xs, v = .ref a ∧ SqT K F a xs ∧ DenL K F ds xs
  | .ins C fs, v => ∃ a dx fv, v = .ref a ∧ F a = some (.ins C dx fv) ∧ DenF K F fs fv
  | .ref a, v => v = .ref a
  | .nn, v => ∃ a, v = .ref a
  | .scr ns, v => ∃ a, v = .ref a ∧ SqL K F a (ns.map V.int)
  | .etup ds, v => ∃ a o xs, v = .ref a ∧ F a = some (.frz o (.tup xs)) ∧ o.dict = none ∧ DenL K F ds xs
def DenL (K : PySem.W.Frag) (F : Hp) : List Dt → List V → Prop
  | [], xs => xs = []
  | d :: ds, xs => ∃ x r, xs = x :: r ∧ Den K F d x ∧ DenL K F ds r
def DenF (K : PySem.W.Frag) (F : Hp) : List (Str × Dt) → List (Str × V) → Prop
  | [], xs => xs = []
  | (f, d) :: ds, xs => ∃ x r, xs = (f, x) :: r ∧ Den K F d x ∧ DenF K F ds r
end

/-! ### heaps that grow -/
def Ex (H H' : Hp) : Prop := ∀ a o, H a = some o → H' a = some o
theorem Ex.refl (H : Hp) : Ex H H := fun _ _ h => h
theorem Ex.trans {H H1 H2 : Hp} (a : Ex H H1) (b : Ex H1 H2) : Ex H H2 := fun x o h => b x o (a x o h)
theorem Ex.none {H H' : Hp} {p : Addr} (e : Ex H H') (h : H' p = Option.none) : H p = Option.none := by
  cases q : H p with
  | none => rfl
  | some o => rw [e p o q] at h; cases h
theorem Ex.new {H : Hp} {p : Addr} {o : HO} (h : H p = Option.none) : Ex H (upd H p o) := fun a u e => by
  rw [upd_ne (ne_of_none e h)]; exact e
theorem Ex.upd2 {F H : Hp} {p : Addr} {o : HO} (e : Ex F H) (h : F p = Option.none) : Ex F (upd H p o) := fun a u q => by
  rw [upd_ne (ne_of_none q h)]; exact e a u q
theorem Ex.both {F H : Hp} {p : Addr} {o : HO} (e : Ex F H) : Ex (upd F p o) (upd H p o) := fun a u q => by
  by_cases h : a = p
  · subst h; rw [upd_same] at q ⊢; exact q
  · rw [upd_ne h] at q ⊢; exact e a u q
theorem ex_rd {H H' : Hp} {a : Addr} {u : HO} (e : Ex H H') (h : Rd H a u) : Rd H' a u := by
  rcases h with h | ⟨o, h⟩
  · exact Or.inl (e a _ h)
  · exact Or.inr ⟨o, e a _ h⟩
theorem ex_l {K : PySem.W.Frag} {H H' : Hp} {a : Addr} {xs : List V} (e : Ex H H') (h : SqL K H a xs) : SqL K H' a xs := by
  rcases h with h | h
  · exact Or.inl (ex_rd e h)
  · exact Or.inr h
theorem ex_t {K : PySem.W.Frag} {H H' : Hp} {a : Addr} {xs : List V} (e : Ex H H') (h : SqT K H a xs) : SqT K H' a xs := by
  rcases h with h | h
  · exact Or.inl (ex_rd e h)
  · exact Or.inr h
/-- the name of the only lambda -/
def lamQ : Str := "Pile.__init__.<locals>.<lambda>"
/-- all but the tables of code objects stays; those stay tables, and tell no other names -/
structure ExT (H H' : Hp) : Prop where
  get : ∀ a o, H a = some o → (∀ ps, o ≠ .tbl ps) → H' a = some o
  tab : ∀ a ps, H a = some (.tbl ps) → ∃ ps', H' a = some (.tbl ps')
  tabs : ∀ p, LamX.TabS H p lamQ → LamX.TabS H' p lamQ
theorem Ex.t {H H' : Hp} (e : Ex H H') : ExT H H' := ⟨fun a o h _ => e a o h, fun a ps h => ⟨ps, e _ _ h⟩, fun p h => h.ext e⟩
theorem ExT.refl (H : Hp) : ExT H H := (Ex.refl H).t
theorem ExT.trans {H H1 H2 : Hp} (a : ExT H H1) (b : ExT H1 H2) : ExT H H2 := ⟨fun x o h n => b.get x o (a.get x o h n) n, fun x ps h => by
  obtain ⟨ps', h'⟩ := a.tab x ps h
  exact b.tab x ps' h', fun p h => b.tabs p (a.tabs p h)⟩
theorem ExT.none {H H' : Hp} {p : Addr} (e : ExT H H') (h : H' p = Option.none) : H p = Option.none := by
  cases q : H p with
  | none => rfl
  | some o =>
    by_cases z : ∃ ps, o = .tbl ps
    · obtain ⟨ps, z⟩ := z
      rw [z] at q
      obtain ⟨ps', k⟩ := e.tab p ps q
      rw [k] at h; cases h
    · rw [e.get p o q fun ps w => z ⟨ps, w⟩] at h; cases h
theorem ExT.lst {H H' : Hp} (e : ExT H H') {a : Addr} {xs : List V} (h : H a = some (.lst xs)) : H' a = some (.lst xs) := e.get a _ h fun _ z => nomatch z
theorem ExT.ins {H H' : Hp} (e : ExT H H') {a C dx : Addr} {fs : List (Str × V)} (h : H a = some (.ins C dx fs)) : H' a = some (.ins C dx fs) := e.get a _ h fun _ z => nomatch z
theorem ExT.upd2 {H0 H : Hp} {p : Addr} {o : HO} (e : ExT H0 H) (h : H0 p = Option.none) (n : ∀ c q ps, H p ≠ some (LamX.CodeO c q) ∧ H p ≠ some (.tbl ps)) : ExT H0 (upd H p o) := ⟨fun a u q z => by
  rw [upd_ne (ne_of_none q h)]; exact e.get a u q z, fun a ps q => by
  rw [upd_ne (ne_of_none q h)]; exact e.tab a ps q, fun P t => by
  obtain ⟨ps, h1, h2, h3⟩ := e.tabs P t
  refine ⟨ps, ?_, h2, fun pos cv hc => ?_⟩
  · have z : P ≠ p := fun z => (n 0 "" ps).2 (by rw [← z]; exact h1)
    rw [upd_ne z]; exact h1
  · obtain ⟨c, e1, e2⟩ := h3 pos cv hc
    have z : c ≠ p := fun z => (n c lamQ #[]).1 (by rw [← z]; exact e2)
    exact ⟨c, e1, by rw [upd_ne z]; exact e2⟩⟩
theorem codeO_lst {c : Addr} {q : Str} {xs : List V} : some (HO.lst xs) ≠ some (LamX.CodeO c q) := fun z => by unfold LamX.CodeO at z; cases z
theorem codeO_ins {c : Addr} {q : Str} {C dx : Addr} {xs : List (Str × V)} : some (HO.ins C dx xs) ≠ some (LamX.CodeO c q) := fun z => by unfold LamX.CodeO at z; cases z
theorem ExT.updL {H0 H : Hp} {p : Addr} {o : HO} {xs : List V} (e : ExT H0 H) (h : H0 p = Option.none) (hx : H p = some (.lst xs)) : ExT H0 (upd H p o) := e.upd2 h fun c q ps => by
  rw [hx]; exact ⟨codeO_lst, fun z => nomatch z⟩
theorem ext_rd {H H' : Hp} {a : Addr} {u : HO} (e : ExT H H') (n : ∀ ps, u ≠ .tbl ps) (h : Rd H a u) : Rd H' a u := by
  rcases h with h | ⟨o, h⟩
  · exact Or.inl (e.get a _ h n)
  · exact Or.inr ⟨o, e.get a _ h fun _ z => nomatch z⟩
theorem ext_l {K : PySem.W.Frag} {H H' : Hp} {a : Addr} {xs : List V} (e : ExT H H') (h : SqL K H a xs) : SqL K H' a xs := by
  rcases h with h | h
  · exact Or.inl (ext_rd e (fun _ z => nomatch z) h)
  · exact Or.inr h
theorem ext_t {K : PySem.W.Frag} {H H' : Hp} {a : Addr} {xs : List V} (e : ExT H H') (h : SqT K H a xs) : SqT K H' a xs := by
  rcases h with h | h
  · exact Or.inl (ext_rd e (fun _ z => nomatch z) h)
  · exact Or.inr h
structure Gr (F H F2 H2 : Hp) : Prop where
  h : ExT H H2
  f : Ex F F2
  s : Ex F2 H2
  n : ∀ a o, F2 a = some o → F a = some o ∨ H a = none
theorem Gr.refl {F H : Hp} (e : Ex F H) : Gr F H F H := ⟨ExT.refl _, Ex.refl _, e, fun _ _ h => Or.inl h⟩
theorem Gr.trans {F H F2 H2 F3 H3 : Hp} (a : Gr F H F2 H2) (b : Gr F2 H2 F3 H3) : Gr F H F3 H3 :=
  ⟨a.h.trans b.h, a.f.trans b.f, b.s, fun p o q => by
    rcases b.n p o q with h | h
    · exact a.n p o h
    · exact Or.inr (a.h.none h)⟩
/-- a new object that is frozen at once -/
theorem Gr.new {F H : Hp} {p : Addr} {o : HO} (e : Ex F H) (h : H p = none) : Gr F H (upd F p o) (upd H p o) :=
  ⟨(Ex.new h).t, Ex.new (e.none h), e.both, fun a u q => by
    by_cases z : a = p
    · subst z; exact Or.inr h
    · rw [upd_ne z] at q; exact Or.inl q⟩
/-- a new object that is not -/
theorem Gr.loose {F H : Hp} {p : Addr} {o : HO} (e : Ex F H) (h : H p = none) : Gr F H F (upd H p o) :=
  ⟨(Ex.new h).t, Ex.refl _, e.trans (Ex.new h), fun _ _ q => Or.inl q⟩
theorem Gr.free {F H F2 H2 : Hp} (g : Gr F H F2 H2) {a : Addr} {o : HO} (hF : F a = none) (hH : H a = some o) : F2 a = none := by
  cases q : F2 a with
  | none => rfl
  | some u =>
    rcases g.n a u q with h | h
    · rw [hF] at h; cases h
    · rw [hH] at h; cases h

/-! ### what is known stays -/
mutual
theorem Den.mono {K : PySem.W.Frag} {F F' : Hp} (e : Ex F F') : ∀ (d : Dt) {v : V}, Den K F d v → Den K F' d v
  | .non, _, h => h
  | .bl _, _, h => h
  | .int _, _, h => h
  | .str _, _, h => h
  | .lst ds, _, h => by
    simp only [Den] at h ⊢
    obtain ⟨a, xs, h1, h2, h3⟩ := h
    exact ⟨a, xs, h1, e _ _ h2, DenL.mono e ds h3⟩
  | .tup ds, _, h => by
    simp only [Den] at h ⊢
    obtain ⟨a, xs, h1, h2, h3⟩ := h
    exact ⟨a, xs, h1, ex_t e h2, DenL.mono e ds h3⟩
  | .ins _ fs, _, h => by
    simp only [Den] at h ⊢
    obtain ⟨a, dx, fv, h1, h2, h3⟩ := h
    exact ⟨a, dx, fv, h1, e _ _ h2, DenF.mono e fs h3⟩
  | .ref _, _, h => h
  | .nn, _, h => h
  | .scr _, _, h => by
    simp only [Den] at h ⊢
    obtain ⟨a, h1, h2⟩ := h
    exact ⟨a, h1, ex_l e h2⟩
  | .etup ds, _, h => by
    simp only [Den] at h ⊢
    obtain ⟨a, o, xs, h1, h2, h3, h4⟩ := h
    exact ⟨a, o, xs, h1, e _ _ h2, h3, DenL.mono e ds h4⟩
theorem DenL.mono {K : PySem.W.Frag} {F F' : Hp} (e : Ex F F') : ∀ (ds : List Dt) {xs : List V}, DenL K F ds xs → DenL K F' ds xs
  | [], _, h => h
  | d :: ds, _, h => by
    simp only [DenL] at h ⊢
    obtain ⟨x, r, h1, h2, h3⟩ := h
    exact ⟨x, r, h1, Den.mono e d h2, DenL.mono e ds h3⟩
theorem DenF.mono {K : PySem.W.Frag} {F F' : Hp} (e : Ex F F') : ∀ (ds : List (Str × Dt)) {xs : List (Str × V)}, DenF K F ds xs → DenF K F' ds xs
  | [], _, h => h
  | (f, d) :: ds, _, h => by
    simp only [DenF] at h ⊢
    obtain ⟨x, r, h1, h2, h3⟩ := h
    exact ⟨x, r, h1, Den.mono e d h2, DenF.mono e ds h3⟩
end
section
variable {K : PySem.W.Frag} {F : Hp}
theorem DenL.nil : DenL K F [] [] := by simp only [DenL]
theorem DenL.cons {d : Dt} {ds : List Dt} {x : V} {xs : List V} (h : Den K F d x) (t : DenL K F ds xs) : DenL K F (d :: ds) (x :: xs) := by
  simp only [DenL]; exact ⟨x, xs, rfl, h, t⟩
theorem DenL.length : ∀ {ds : List Dt} {xs : List V}, DenL K F ds xs → xs.length = ds.length
  | [], _, h => by simp only [DenL] at h; subst h; rfl
  | d :: ds, _, h => by
    simp only [DenL] at h; obtain ⟨x, r, rfl, _, h3⟩ := h
    rw [List.length_cons, List.length_cons, DenL.length h3]
theorem DenL.get : ∀ {ds : List Dt} {xs : List V} {i : Nat} {d : Dt}, DenL K F ds xs → ds[i]? = some d → ∃ x, xs[i]? = some x ∧ Den K F d x
  | [], _, i, d, _, e => by simp at e
  | d :: ds, _, 0, _, h, e => by
    simp only [DenL] at h; obtain ⟨x, r, rfl, h2, _⟩ := h
    have e' : d = _ := Option.some.inj e
    subst e'; exact ⟨x, rfl, h2⟩
  | d :: ds, _, i + 1, _, h, e => by
    simp only [DenL] at h; obtain ⟨x, r, rfl, _, h3⟩ := h
    exact DenL.get (i := i) h3 e
theorem DenL.get' : ∀ {ds : List Dt} {xs : List V} {i : Nat} {x : V}, DenL K F ds xs → xs[i]? = some x → ∃ d, ds[i]? = some d ∧ Den K F d x
  | [], _, i, x, h, e => by simp only [DenL] at h; subst h; simp at e
  | d :: ds, _, 0, _, h, e => by
    simp only [DenL] at h; obtain ⟨x, r, rfl, h2, _⟩ := h
    have e' : x = _ := Option.some.inj e
    subst e'; exact ⟨d, rfl, h2⟩
  | d :: ds, _, i + 1, _, h, e => by
    simp only [DenL] at h; obtain ⟨x, r, rfl, _, h3⟩ := h
    exact DenL.get' (i := i) h3 e
theorem DenL.append : ∀ {ds es : List Dt} {xs ys : List V}, DenL K F ds xs → DenL K F es ys → DenL K F (ds ++ es) (xs ++ ys)
  | [], _, _, _, h, t => by simp only [DenL] at h; subst h; exact t
  | d :: ds, _, _, _, h, t => by
    simp only [DenL] at h; obtain ⟨x, r, rfl, h2, h3⟩ := h
    exact DenL.cons h2 (DenL.append h3 t)
theorem DenL.take : ∀ {ds : List Dt} {xs : List V} (n : Nat), DenL K F ds xs → DenL K F (ds.take n) (xs.take n)
  | _, _, 0, _ => by rw [List.take_zero, List.take_zero]; exact DenL.nil
  | [], _, _ + 1, h => by simp only [DenL] at h; subst h; exact DenL.nil
  | d :: ds, _, n + 1, h => by
    simp only [DenL] at h; obtain ⟨x, r, rfl, h2, h3⟩ := h
    exact DenL.cons h2 (DenL.take n h3)
theorem DenL.drop : ∀ {ds : List Dt} {xs : List V} (n : Nat), DenL K F ds xs → DenL K F (ds.drop n) (xs.drop n)
  | _, _, 0, h => h
  | [], _, _ + 1, h => by simp only [DenL] at h; subst h; exact DenL.nil
  | d :: ds, _, n + 1, h => by
    simp only [DenL] at h; obtain ⟨x, r, rfl, _, h3⟩ := h
    exact DenL.drop n h3
theorem DenL.set : ∀ {ds : List Dt} {xs : List V} (n : Nat) {d : Dt} {x : V}, DenL K F ds xs → Den K F d x → DenL K F (ds.set n d) (xs.set n x)
  | [], _, _, _, _, h, _ => by simp only [DenL] at h; subst h; exact DenL.nil
  | d :: ds, _, 0, _, _, h, q => by
    simp only [DenL] at h; obtain ⟨x, r, rfl, _, h3⟩ := h
    exact DenL.cons q h3
  | d :: ds, _, n + 1, _, _, h, q => by
    simp only [DenL] at h; obtain ⟨x, r, rfl, h2, h3⟩ := h
    exact DenL.cons h2 (DenL.set n h3 q)
theorem DenL.reverse : ∀ {ds : List Dt} {xs : List V}, DenL K F ds xs → DenL K F ds.reverse xs.reverse
  | [], _, h => by simp only [DenL] at h; subst h; exact DenL.nil
  | d :: ds, _, h => by
    simp only [DenL] at h; obtain ⟨x, r, rfl, h2, h3⟩ := h
    rw [List.reverse_cons, List.reverse_cons]
    exact DenL.append (DenL.reverse h3) (DenL.cons h2 DenL.nil)
theorem DenL.dropLast {ds : List Dt} {xs : List V} (h : DenL K F ds xs) : DenL K F ds.dropLast xs.dropLast := by
  rw [List.dropLast_eq_take, List.dropLast_eq_take, h.length]; exact h.take _
theorem DenL.ints : ∀ {ns : List Int} {xs : List V}, DenL K F (ns.map Dt.int) xs → xs = ns.map V.int
  | [], _, h => by simp only [List.map, DenL] at h; exact h
  | n :: ns, _, h => by
    simp only [List.map, DenL] at h; obtain ⟨x, r, rfl, h2, h3⟩ := h
    simp only [Den] at h2
    rw [h2, DenL.ints h3]; rfl
theorem DenL.of_ints : ∀ ns : List Int, DenL K F (ns.map Dt.int) (ns.map V.int)
  | [] => DenL.nil
  | n :: ns => DenL.cons (by simp only [Den]) (DenL.of_ints ns)
theorem DenL.bls : ∀ {ns : List Bool} {xs : List V}, DenL K F (ns.map Dt.bl) xs → xs = ns.map V.bl
  | [], _, h => by simp only [List.map, DenL] at h; exact h
  | n :: ns, _, h => by
    simp only [List.map, DenL] at h; obtain ⟨x, r, rfl, h2, h3⟩ := h
    simp only [Den] at h2
    rw [h2, DenL.bls h3]; rfl
theorem den_lst {a : Addr} {xs : List V} {ds : List Dt} (h : F a = some (.lst xs)) (t : DenL K F ds xs) : Den K F (.lst ds) (.ref a) := by
  simp only [Den]; exact ⟨a, xs, rfl, h, t⟩
theorem den_et {ds : List Dt} {v : V} (h : Den K F (.etup ds) v) : Den K F (.tup ds) v := by
  simp only [Den] at h ⊢
  obtain ⟨a, o, xs, h1, h2, h3, h4⟩ := h
  exact ⟨a, xs, h1, .inl (.inr ⟨o, h2⟩), h4⟩
theorem den_tup {a : Addr} {xs : List V} {ds : List Dt} (h : SqT K F a xs) (t : DenL K F ds xs) : Den K F (.tup ds) (.ref a) := by
  simp only [Den]; exact ⟨a, xs, rfl, h, t⟩
theorem st_new {a : Addr} {xs : List V} : SqT K (upd F a (.tup xs)) a xs := Or.inl (Or.inl upd_same)
theorem DenF.look : ∀ {fs : List (Str × Dt)} {fv : List (Str × V)} {f : Str} {d : Dt}, DenF K F fs fv → fs.lookup f = some d → ∃ v, fv.lookup f = some v ∧ Den K F d v
  | [], _, f, d, _, e => by simp at e
  | (g, d0) :: fs, _, f, d, h, e => by
    simp only [DenF] at h; obtain ⟨x, r, rfl, h2, h3⟩ := h
    rw [List.lookup_cons] at e ⊢
    cases hb : f == g with
    | true =>
      rw [hb] at e
      have e' : d0 = d := Option.some.inj e
      subst e'; exact ⟨x, rfl, h2⟩
    | false =>
      rw [hb] at e
      exact DenF.look h3 e
theorem DenF.no : ∀ {fs : List (Str × Dt)} {fv : List (Str × V)} {f : Str}, DenF K F fs fv → fs.lookup f = none → fv.lookup f = none
  | [], _, f, h, _ => by simp only [DenF] at h; subst h; rfl
  | (g, d0) :: fs, _, f, h, e => by
    simp only [DenF] at h; obtain ⟨x, r, rfl, h2, h3⟩ := h
    rw [List.lookup_cons] at e ⊢
    cases hb : f == g with
    | true => rw [hb] at e; cases e
    | false => rw [hb] at e; exact DenF.no h3 e
theorem DenF.length : ∀ {fs : List (Str × Dt)} {fv : List (Str × V)}, DenF K F fs fv → fv.length = fs.length
  | [], _, h => by simp only [DenF] at h; subst h; rfl
  | (g, d0) :: fs, _, h => by
    simp only [DenF] at h; obtain ⟨x, r, rfl, _, h3⟩ := h
    rw [List.length_cons, List.length_cons, DenF.length h3]
end
/-- an attribute put among data -/
def putD (f : Str) (v : Dt) : List (Str × Dt) → List (Str × Dt)
  | [] => [(f, v)]
  | (g, x) :: r => if g = f then (g, v) :: r else (g, x) :: putD f v r
theorem DenF.put {K : PySem.W.Frag} {F : Hp} {f : Str} {d : Dt} {v : V} (h : Den K F d v) : ∀ {fs : List (Str × Dt)} {fv : List (Str × V)}, DenF K F fs fv → DenF K F (putD f d fs) (putF f v fv)
  | [], _, t => by
    simp only [DenF] at t; subst t
    simp only [putD, putF, DenF]; exact ⟨v, [], rfl, h, rfl⟩
  | (g, d0) :: fs, _, t => by
    simp only [DenF] at t; obtain ⟨x, r, rfl, h2, h3⟩ := t
    unfold putD putF
    by_cases q : g = f
    · rw [if_pos q, if_pos q]; simp only [DenF]; exact ⟨v, r, rfl, h, h3⟩
    · rw [if_neg q, if_neg q]; simp only [DenF]; exact ⟨x, _, rfl, h2, DenF.put h h3⟩

/-! ### slots -/
/-- a slot: data; a list of this def's own that still changes; an instance that still changes; an instance that still changes, with lists that no one else has -/
inductive Sv where
  | im (d : Dt) | mu (ds : List Dt) | mi (t : Option (Addr × Addr)) (C : Addr) (fs : List (Str × Dt))
  | isl (p dx C : Addr) (fv : List (Str × V)) (fs : List (Str × Dt)) (os : List (Addr × List Dt))
def Sv.mut : Sv → Bool
  | .im _ => false
  | _ => true
def Sv.ox : Sv → List Addr
  | .isl _ _ _ _ _ os => os.map (·.1)
  | _ => []
def SvOk (K : PySem.W.Frag) (H0 F H : Hp) : Sv → V → Prop
  | .im d, v => Den K F d v
  | .mu ds, v => ∃ l xs, v = .ref l ∧ H0 l = none ∧ F l = none ∧ H l = some (.lst xs) ∧ DenL K F ds xs
  | .mi t C fs, v => ∃ a dx fv, v = .ref a ∧ H0 a = none ∧ F a = none ∧ H a = some (.ins C dx fv) ∧ DenF K F fs fv ∧ ∀ q, t = some q → q = (a, dx)
  | .isl p dx C fv fs os, v => v = .ref p ∧ H0 p = none ∧ F p = none ∧ H p = some (.ins C dx fv) ∧ DenF K F fs fv ∧ (∀ c ds, (c, ds) ∈ os → H0 c = none ∧ F c = none ∧ ∃ xs, H c = some (.lst xs) ∧ DenL K F ds xs) ∧ (os.map (·.1)).Nodup
abbrev Rho := List (Option Sv)
/-- slot i, s, has what stands at a for its own -/
def Own (σ : L2.St) (i : Nat) (s : Sv) (a : Addr) : Prop := (s.mut = true ∧ σ[i]? = some (some (.ref a))) ∨ a ∈ s.ox
structure Sta (K : PySem.W.Frag) (F0 H0 F H : Hp) (σ : L2.St) (ρ : Rho) : Prop where
  g : Gr F0 H0 F H
  len : σ.length = ρ.length
  ok : ∀ (i : Nat) (s : Sv), ρ[i]? = some (some s) → ∃ v, σ[i]? = some (some v) ∧ SvOk K H0 F H s v
  dis : ∀ (i j : Nat) (s t : Sv) (a : Addr), i ≠ j → ρ[i]? = some (some s) → ρ[j]? = some (some t) → Own σ i s a → Own σ j t a → False
theorem own_im {σ : L2.St} {i : Nat} {d : Dt} {a : Addr} (h : Own σ i (.im d) a) : False := by
  rcases h with ⟨h, _⟩ | h
  · cases h
  · cases h
theorem own_mut {σ : L2.St} {i : Nat} {s : Sv} {a : Addr} (m : s.mut = true) (q : σ[i]? = some (some (.ref a))) : Own σ i s a := .inl ⟨m, q⟩
theorem Own.to {σ σ' : L2.St} {i : Nat} {s : Sv} {a : Addr} (h : Own σ i s a) (e : σ'[i]? = σ[i]?) : Own σ' i s a := by
  rcases h with ⟨h, q⟩ | h
  · exact .inl ⟨h, e.trans q⟩
  · exact .inr h
theorem SvOk.mono {K : PySem.W.Frag} {H0 F H F2 H2 : Hp} (g : Gr F H F2 H2) {s : Sv} {v : V} (h : SvOk K H0 F H s v) : SvOk K H0 F2 H2 s v := by
  cases s with
  | im d => exact Den.mono g.f d h
  | mu ds =>
    obtain ⟨l, xs, h1, h2, h3, h4, h5⟩ := h
    exact ⟨l, xs, h1, h2, g.free h3 h4, g.h.lst h4, DenL.mono g.f _ h5⟩
  | mi t C fs =>
    obtain ⟨a, dx, fv, h1, h2, h3, h4, h5, h6⟩ := h
    exact ⟨a, dx, fv, h1, h2, g.free h3 h4, g.h.ins h4, DenF.mono g.f _ h5, h6⟩
  | isl p dx C fv fs os =>
    obtain ⟨h1, h2, h3, h4, h5, h6, h7⟩ := h
    exact ⟨h1, h2, g.free h3 h4, g.h.ins h4, DenF.mono g.f _ h5, fun c ds hc => by
      obtain ⟨k1, k2, xs, k3, k4⟩ := h6 c ds hc
      exact ⟨k1, g.free k2 k3, xs, g.h.lst k3, DenL.mono g.f _ k4⟩, h7⟩
section
variable {K : PySem.W.Frag} {F0 H0 F H F2 H2 : Hp} {σ : L2.St} {ρ : Rho}
theorem Sta.ex (S : Sta K F0 H0 F H σ ρ) : Ex F H := S.g.s
theorem Sta.mono (S : Sta K F0 H0 F H σ ρ) (g : Gr F H F2 H2) : Sta K F0 H0 F2 H2 σ ρ :=
  ⟨S.g.trans g, S.len, fun i s e => by obtain ⟨v, h1, h2⟩ := S.ok i s e; exact ⟨v, h1, h2.mono g⟩, S.dis⟩
theorem Sta.slot (S : Sta K F0 H0 F H σ ρ) {i : Nat} {d : Dt} (e : ρ[i]? = some (some (.im d))) : ∃ v, σ[i]? = some (some v) ∧ Den K F d v := S.ok i _ e
theorem Sta.lt (S : Sta K F0 H0 F H σ ρ) {i : Nat} {s : Option Sv} (e : ρ[i]? = some s) : i < σ.length := by
  rw [S.len]; exact (List.getElem?_eq_some_iff.mp e).1
/-- a slot takes s, that shares nothing with others -/
theorem Sta.put (S : Sta K F0 H0 F H σ ρ) {i : Nat} {s : Sv} {v : V} (hi : i < ρ.length) (h : SvOk K H0 F H s v) (hn : ∀ (j : Nat) (t : Sv) (a : Addr), j ≠ i → ρ[j]? = some (some t) → Own σ j t a → Own (σ.set i (some v)) i s a → False) : Sta K F0 H0 F H (σ.set i (some v)) (ρ.set i (some s)) := by
  have hi' : i < σ.length := by rw [S.len]; exact hi
  refine ⟨S.g, by rw [List.length_set, List.length_set, S.len], fun j s' e => ?_, fun j k s' t b hjk e1 e2 q1 q2 => ?_⟩
  · by_cases z : i = j
    · subst z
      rw [List.getElem?_set_self hi] at e
      cases e
      exact ⟨_, List.getElem?_set_self hi', h⟩
    · rw [List.getElem?_set_ne z] at e ⊢
      exact S.ok j s' e
  · by_cases z : i = j
    · subst z
      have y : i ≠ k := hjk
      rw [List.getElem?_set_self hi] at e1
      cases e1
      rw [List.getElem?_set_ne y] at e2
      exact hn k t b (Ne.symm y) e2 (q2.to (List.getElem?_set_ne y).symm) q1
    · rw [List.getElem?_set_ne z] at e1
      by_cases y : i = k
      · subst y
        rw [List.getElem?_set_self hi] at e2
        cases e2
        exact hn j s' b (Ne.symm z) e1 (q1.to (List.getElem?_set_ne z).symm) q2
      · rw [List.getElem?_set_ne y] at e2
        exact S.dis j k s' t b hjk e1 e2 (q1.to (List.getElem?_set_ne z).symm) (q2.to (List.getElem?_set_ne y).symm)
/-- a slot takes data -/
theorem Sta.set (S : Sta K F0 H0 F H σ ρ) {i : Nat} {d : Dt} {v : V} (hi : i < ρ.length) (h : Den K F d v) : Sta K F0 H0 F H (σ.set i (some v)) (ρ.set i (some (.im d))) := S.put hi h fun _ _ _ _ _ _ q => own_im q
/-- a slot takes an address that no other slot of ours holds -/
theorem Sta.setM (S : Sta K F0 H0 F H σ ρ) {i : Nat} {s : Sv} {a : Addr} (hi : i < ρ.length) (h : SvOk K H0 F H s (.ref a))
    (hn : ∀ (j : Nat) (t : Sv), j ≠ i → ρ[j]? = some (some t) → Own σ j t a → False) (hx : s.ox = [] := by rfl) : Sta K F0 H0 F H (σ.set i (some (.ref a))) (ρ.set i (some s)) := by
  have hi' : i < σ.length := by rw [S.len]; exact hi
  refine S.put hi h fun j t b hj e q1 q2 => ?_
  rcases q2 with ⟨_, q⟩ | q
  · rw [List.getElem?_set_self hi'] at q
    cases q
    exact hn j t hj e q1
  · rw [hx] at q; cases q
/-- what a slot of ours that changes holds stands in H -/
theorem Sta.there (S : Sta K F0 H0 F H σ ρ) {j : Nat} {t : Sv} {a : Addr} (e : ρ[j]? = some (some t)) (q : Own σ j t a) : ((∃ xs, H a = some (.lst xs)) ∨ ∃ C dx fv, H a = some (.ins C dx fv)) ∧ F a = none ∧ H0 a = none := by
  obtain ⟨v, h1, h2⟩ := S.ok j t e
  cases t with
  | im d => exact (own_im q).elim
  | mu ds =>
    rcases q with ⟨_, q⟩ | q
    · rw [q] at h1; cases h1
      obtain ⟨l, xs, h3, h4, h5, h6, _⟩ := h2; cases h3; exact ⟨.inl ⟨_, h6⟩, h5, h4⟩
    · cases q
  | mi t C fs =>
    rcases q with ⟨_, q⟩ | q
    · rw [q] at h1; cases h1
      obtain ⟨l, dx, xs, h3, h4, h5, h6, _⟩ := h2; cases h3; exact ⟨.inr ⟨_, _, _, h6⟩, h5, h4⟩
    · cases q
  | isl p dx C fv fs os =>
    obtain ⟨k1, k2, k3, k4, k5, k6, k7⟩ := h2
    rcases q with ⟨_, q⟩ | q
    · rw [q] at h1; cases h1
      cases k1
      exact ⟨.inr ⟨_, _, _, k4⟩, k3, k2⟩
    · obtain ⟨⟨c, ds⟩, m, e⟩ := List.mem_map.mp q
      subst e
      obtain ⟨w1, w2, xs, w3, _⟩ := k6 c ds m
      exact ⟨.inl ⟨_, w3⟩, w2, w1⟩
theorem Sta.some_ (S : Sta K F0 H0 F H σ ρ) {j : Nat} {t : Sv} {a : Addr} (e : ρ[j]? = some (some t)) (q : Own σ j t a) : H a ≠ none := fun z => by
  rcases (S.there e q).1 with ⟨xs, w⟩ | ⟨C, dx, fv, w⟩ <;> rw [w] at z <;> cases z
/-- .. kept, where what is at a is another slot's own -/
theorem SvOk.but {s : Sv} {j : Nat} {v : V} {a : Addr} {H' F' : Hp} (h : SvOk K H0 F H s v) (hv : σ[j]? = some (some v)) (hn : ¬ Own σ j s a) (eH : ∀ b, b ≠ a → H' b = H b) (eF : ∀ b, b ≠ a → F' b = F b) (ef : Ex F F') : SvOk K H0 F' H' s v := by
  cases s with
  | im d => exact Den.mono ef d h
  | mu ds =>
    obtain ⟨l, xs, g1, g2, g3, g4, g5⟩ := h
    subst g1
    have hne : l ≠ a := fun w => by subst w; exact hn (own_mut rfl hv)
    exact ⟨l, xs, rfl, g2, by rw [eF _ hne]; exact g3, by rw [eH _ hne]; exact g4, DenL.mono ef _ g5⟩
  | mi tg C fs =>
    obtain ⟨l, dx, xs, g1, g2, g3, g4, g5, g6⟩ := h
    subst g1
    have hne : l ≠ a := fun w => by subst w; exact hn (own_mut rfl hv)
    exact ⟨l, dx, xs, rfl, g2, by rw [eF _ hne]; exact g3, by rw [eH _ hne]; exact g4, DenF.mono ef _ g5, g6⟩
  | isl p dx C fv fs os =>
    obtain ⟨g1, g2, g3, g4, g5, g6, g7⟩ := h
    subst g1
    have hne : p ≠ a := fun w => by subst w; exact hn (own_mut rfl hv)
    refine ⟨rfl, g2, by rw [eF _ hne]; exact g3, by rw [eH _ hne]; exact g4, DenF.mono ef _ g5, fun c ds hc => ?_, g7⟩
    obtain ⟨k1, k2, xs, k3, k4⟩ := g6 c ds hc
    have hc' : c ≠ a := fun w => by subst w; exact hn (.inr (List.mem_map_of_mem (f := (·.1)) hc))
    exact ⟨k1, by rw [eF _ hc']; exact k2, xs, by rw [eH _ hc']; exact k3, DenL.mono ef _ k4⟩
/-- the object at a, a slot's own, is changed -/
theorem Sta.writeO (S : Sta K F0 H0 F H σ ρ) {i : Nat} {s t : Sv} {a : Addr} {o : HO} {v : V} (e : ρ[i]? = some (some t)) (q : Own σ i t a) (hv : σ[i]? = some (some v)) (hs : SvOk K H0 F (upd H a o) s v) (hsub : ∀ b, Own σ i s b → Own σ i t b) :
    Sta K F0 H0 F (upd H a o) σ (ρ.set i (some s)) := by
  obtain ⟨h1, h2, h3⟩ := S.there e q
  have hi : i < ρ.length := (List.getElem?_eq_some_iff.mp e).1
  refine ⟨⟨S.g.h.upd2 h3 fun c q ps => ?_, S.g.f, S.g.s.upd2 h2, S.g.n⟩, by rw [List.length_set, S.len], fun j s' e' => ?_, fun j k s' t' b hjk e1 e2 q1 q2 => ?_⟩
  · rcases h1 with ⟨xs, w⟩ | ⟨C, dx, fv, w⟩ <;> rw [w]
    · exact ⟨codeO_lst, fun z => nomatch z⟩
    · exact ⟨codeO_ins, fun z => nomatch z⟩
  · by_cases z : i = j
    · subst z
      rw [List.getElem?_set_self hi] at e'
      cases e'
      exact ⟨_, hv, hs⟩
    · rw [List.getElem?_set_ne z] at e'
      obtain ⟨u, k1, k2⟩ := S.ok j s' e'
      exact ⟨u, k1, k2.but k1 (fun w => S.dis i j t s' a z e e' q w) (fun b hb => upd_ne hb) (fun _ _ => rfl) (Ex.refl _)⟩
  · have key : ∀ (j : Nat) (s' : Sv), (ρ.set i (some s))[j]? = some (some s') → Own σ j s' b → ∃ s2, ρ[j]? = some (some s2) ∧ Own σ j s2 b := fun j s' e' m' => by
      by_cases z : i = j
      · subst z
        rw [List.getElem?_set_self hi] at e'
        cases e'
        exact ⟨t, e, hsub b m'⟩
      · rw [List.getElem?_set_ne z] at e'; exact ⟨s', e', m'⟩
    obtain ⟨s2, f1, f2⟩ := key j s' e1 q1
    obtain ⟨t2, f3, f4⟩ := key k t' e2 q2
    exact S.dis j k s2 t2 b hjk f1 f3 f2 f4
theorem Sta.write (S : Sta K F0 H0 F H σ ρ) {i : Nat} {s t : Sv} {a : Addr} {o : HO} (e : ρ[i]? = some (some t)) (m : t.mut = true) (q : σ[i]? = some (some (.ref a))) (hs : SvOk K H0 F (upd H a o) s (.ref a)) (hx : s.ox = [] := by rfl) :
    Sta K F0 H0 F (upd H a o) σ (ρ.set i (some s)) := S.writeO e (own_mut m q) q hs fun b w => by
  rcases w with ⟨_, w⟩ | w
  · exact own_mut m w
  · rw [hx] at w; cases w
/-- what a slot has for its own is changed no more, in part or whole: it becomes s -/
theorem Sta.freezeO (S : Sta K F0 H0 F H σ ρ) {i : Nat} {s t : Sv} {a : Addr} {o : HO} {v : V} (e : ρ[i]? = some (some t)) (q : Own σ i t a) (hv : σ[i]? = some (some v)) (ho : H a = some o) (hs : SvOk K H0 (upd F a o) H s v) (hsub : ∀ b, Own σ i s b → Own σ i t b) :
    Gr F0 H0 (upd F a o) H ∧ Sta K F0 H0 (upd F a o) H σ (ρ.set i (some s)) := by
  obtain ⟨h1, h2, h3⟩ := S.there e q
  have hi : i < ρ.length := (List.getElem?_eq_some_iff.mp e).1
  have eF : Ex F (upd F a o) := Ex.new h2
  have gr : Gr F0 H0 (upd F a o) H := ⟨S.g.h, S.g.f.trans eF, fun b u w => by
    by_cases z : b = a
    · subst z; rw [upd_same] at w; cases w; exact ho
    · rw [upd_ne z] at w; exact S.g.s b u w, fun b u w => by
    by_cases z : b = a
    · subst z; exact Or.inr h3
    · rw [upd_ne z] at w; exact S.g.n b u w⟩
  refine ⟨gr, gr, by rw [List.length_set, S.len], fun j s' e' => ?_, fun j k s' t' b hjk e1 e2 q1 q2 => ?_⟩
  · by_cases z : i = j
    · subst z
      rw [List.getElem?_set_self hi] at e'
      cases e'
      exact ⟨_, hv, hs⟩
    · rw [List.getElem?_set_ne z] at e'
      obtain ⟨u, k1, k2⟩ := S.ok j s' e'
      exact ⟨u, k1, k2.but k1 (fun w => S.dis i j t s' a z e e' q w) (fun _ _ => rfl) (fun b hb => upd_ne hb) eF⟩
  · have key : ∀ (j : Nat) (s' : Sv), (ρ.set i (some s))[j]? = some (some s') → Own σ j s' b → ∃ s2, ρ[j]? = some (some s2) ∧ Own σ j s2 b := fun j s' e' m' => by
      by_cases z : i = j
      · subst z
        rw [List.getElem?_set_self hi] at e'
        cases e'
        exact ⟨t, e, hsub b m'⟩
      · rw [List.getElem?_set_ne z] at e'; exact ⟨s', e', m'⟩
    obtain ⟨s2, f1, f2⟩ := key j s' e1 q1
    obtain ⟨t2, f3, f4⟩ := key k t' e2 q2
    exact S.dis j k s2 t2 b hjk f1 f3 f2 f4
/-- the object at a, a slot's own, is changed no more -/
theorem Sta.freeze (S : Sta K F0 H0 F H σ ρ) {i : Nat} {t : Sv} {d : Dt} {a : Addr} {o : HO} (e : ρ[i]? = some (some t)) (m : t.mut = true) (q : σ[i]? = some (some (.ref a))) (ho : H a = some o) (hd : Den K (upd F a o) d (.ref a)) :
    Gr F0 H0 (upd F a o) H ∧ Sta K F0 H0 (upd F a o) H σ (ρ.set i (some (.im d))) := S.freezeO e (own_mut m q) q ho hd fun b w => (own_im w).elim
/-- slots forgotten -/
theorem Sta.weak (S : Sta K F0 H0 F H σ ρ) {σ' : L2.St} {ρ' : Rho} (hl : σ'.length = ρ'.length) (h : ∀ (i : Nat) (s : Sv), ρ'[i]? = some (some s) → ρ[i]? = some (some s) ∧ σ'[i]? = σ[i]?) : Sta K F0 H0 F H σ' ρ' :=
  ⟨S.g, hl, fun i s e => by
    obtain ⟨h1, h2⟩ := h i s e
    obtain ⟨v, k1, k2⟩ := S.ok i s h1
    exact ⟨v, h2.trans k1, k2⟩, fun i j s t a hij e1 e2 q1 q2 => by
    obtain ⟨h1, h2⟩ := h i s e1
    obtain ⟨h3, h4⟩ := h j t e2
    exact S.dis i j s t a hij h1 h3 (q1.to h2.symm) (q2.to h4.symm)⟩
end
end K82
/-! ## part E -/
/-! Big steps over data: what an expression, a test, a statement comes to, by the canonical readings (wpE ..). -/
namespace K82
open PySem PySem.Spec PyProof.Rows L2

/-! ### canonical readings -/
def wpE (X : Cx) (e : Expr) : TE := fun σ H Q => ∀ (pins : List (Addr × Obj)) (s : Shared), Inv X pins σ H s → wpAny (model X.prog X.w) X.A (eval e X.env) (EP X pins σ Q) X.xe s
def wpT (X : Cx) (e : Expr) : TT := fun σ H Q => ∀ (pins : List (Addr × Obj)) (s : Shared), Inv X pins σ H s → wpAny (model X.prog X.w) X.A (isTrue e X.env (eval e X.env)) (TP X pins σ Q) X.xe s
def wpW (X : Cx) (e : Expr) : TT := fun σ H Q => ∀ (whole : Sem Value) (pins : List (Addr × Obj)) (s : Shared), Inv X pins σ H s → wpAny (model X.prog X.w) X.A (isTrue e X.env whole) (TP X pins σ Q) X.xe s
def wpA (X : Cx) (es : List Expr) : TA := fun σ H Q => ∀ (pos : Pos) (pins : List (Addr × Obj)) (s : Shared), Inv X pins σ H s → wpAny (model X.prog X.w) X.A (spliced (backTo pos (starEach es X.env))) (AP X pins σ Q) X.xe s
def wpS (X : Cx) (st : Stmt) : TS := fun D σ H => ∀ (pins : List (Addr × Obj)) (s : Shared), Inv X pins σ H s → wpAny (model X.prog X.w) X.A (exec st X.env) (SP X pins D) X.xe s
def wpSs (X : Cx) (st : List Stmt) : TS := fun D σ H => ∀ (pins : List (Addr × Obj)) (s : Shared), Inv X pins σ H s → wpAny (model X.prog X.w) X.A (execs st X.env) (SP X pins D) X.xe s
section
variable {X : Cx}
theorem pe_wp {e : Expr} : PE X e (wpE X e) := ⟨fun pins s σ H Q I h => h pins s I⟩
theorem pt_wp {e : Expr} : PT X e (wpT X e) := ⟨fun pins s σ H Q I h => h pins s I⟩
theorem pw_wp {e : Expr} : PW X e (wpW X e) := ⟨fun whole pins s σ H Q I h => h whole pins s I⟩
theorem pa_wp {es : List Expr} : PA X es (wpA X es) := ⟨fun pos pins s σ H Q I h => h pos pins s I⟩
theorem ps_wp {st : Stmt} : PS X st (wpS X st) := ⟨fun pins s σ H D I h => h pins s I⟩
theorem pss_wp {st : List Stmt} : PSs X st (wpSs X st) := ⟨fun pins s σ H D I h => h pins s I⟩
theorem wpE_of {e : Expr} {t : TE} (h : PE X e t) {σ : L2.St} {H : Hp} {Q : VK} (q : t σ H Q) : wpE X e σ H Q := fun pins s I => h.run pins s σ H Q I q
theorem wpT_of {e : Expr} {t : TT} (h : PT X e t) {σ : L2.St} {H : Hp} {Q : Bool → Hp → Prop} (q : t σ H Q) : wpT X e σ H Q := fun pins s I => h.run pins s σ H Q I q
theorem wpW_of {e : Expr} {t : TT} (h : PW X e t) {σ : L2.St} {H : Hp} {Q : Bool → Hp → Prop} (q : t σ H Q) : wpW X e σ H Q := fun whole pins s I => h.run whole pins s σ H Q I q
theorem wpA_of {es : List Expr} {t : TA} (h : PA X es t) {σ : L2.St} {H : Hp} {Q : List V → Hp → Prop} (q : t σ H Q) : wpA X es σ H Q := fun pos pins s I => h.run pos pins s σ H Q I q
theorem wpS_of {st : Stmt} {t : TS} (h : PS X st t) {D : Ends} {σ : L2.St} {H : Hp} (q : t D σ H) : wpS X st D σ H := fun pins s I => h.run pins s σ H D I q
theorem wpSs_of {st : List Stmt} {t : TS} (h : PSs X st t) {D : Ends} {σ : L2.St} {H : Hp} (q : t D σ H) : wpSs X st D σ H := fun pins s I => h.run pins s σ H D I q
end

/-! ### what it comes to -/
/-- a list that may be read -/
def RdL (K : PySem.W.Frag) (F H : Hp) (ds : List Dt) (v : V) : Prop := ∃ a xs, v = .ref a ∧ H a = some (.lst xs) ∧ DenL K F ds xs
theorem RdL.mono {K : PySem.W.Frag} {F H F2 H2 : Hp} (g : Gr F H F2 H2) {ds : List Dt} {v : V} (h : RdL K F H ds v) : RdL K F2 H2 ds v := by
  obtain ⟨a, xs, h1, h2, h3⟩ := h
  exact ⟨a, xs, h1, g.h.lst h2, h3.mono g.f⟩
def EvD (K : PySem.W.Frag) (te : TE) (ρ : Rho) (d : Dt) : Prop := ∀ F0 H0 F H σ, Sta K F0 H0 F H σ ρ → ∀ Q : VK, (∀ v F2 H2, Gr F H F2 H2 → Den K F2 d v → Q v H2) → te σ H Q
/-- a new list -/
def EvN (K : PySem.W.Frag) (te : TE) (ρ : Rho) (ds : List Dt) : Prop := ∀ F0 H0 F H σ, Sta K F0 H0 F H σ ρ → ∀ Q : VK, (∀ l xs F2 H2, Gr F H F2 H2 → H l = none → F2 l = none → H2 l = some (.lst xs) → DenL K F2 ds xs → Q (.ref l) H2) → te σ H Q
/-- a new instance -/
def EvI (K : PySem.W.Frag) (te : TE) (ρ : Rho) (C : Addr) (fs : List (Str × Dt)) : Prop := ∀ F0 H0 F H σ, Sta K F0 H0 F H σ ρ → ∀ Q : VK, (∀ a dx fv F2 H2, Gr F H F2 H2 → H a = none → F2 a = none → H2 a = some (.ins C dx fv) → DenF K F2 fs fv → Q (.ref a) H2) → te σ H Q
def EvR (K : PySem.W.Frag) (te : TE) (ρ : Rho) (ds : List Dt) : Prop := ∀ F0 H0 F H σ, Sta K F0 H0 F H σ ρ → ∀ Q : VK, (∀ v F2 H2, Gr F H F2 H2 → RdL K F2 H2 ds v → Q v H2) → te σ H Q
def EvT (K : PySem.W.Frag) (tt : TT) (ρ : Rho) (b : Bool) : Prop := ∀ F0 H0 F H σ, Sta K F0 H0 F H σ ρ → ∀ Q : Bool → Hp → Prop, (∀ F2 H2, Gr F H F2 H2 → Q b H2) → tt σ H Q
def EvA (K : PySem.W.Frag) (ta : TA) (ρ : Rho) (ds : List Dt) : Prop := ∀ F0 H0 F H σ, Sta K F0 H0 F H σ ρ → ∀ Q : List V → Hp → Prop, (∀ vs F2 H2, Gr F H F2 H2 → DenL K F2 ds vs → Q vs H2) → ta σ H Q
theorem EvN.d {K : PySem.W.Frag} {te : TE} {ρ : Rho} {ds : List Dt} (h : EvN K te ρ ds) : EvD K te ρ (.lst ds) := fun F0 H0 F H σ S Q q =>
  h F0 H0 F H σ S Q fun l xs F2 H2 g hl fl h2 hd => by
    have eF : Ex F2 (upd F2 l (.lst xs)) := Ex.new fl
    refine q _ (upd F2 l (.lst xs)) H2 ⟨g.h, g.f.trans eF, fun b u w => ?_, fun b u w => ?_⟩ (den_lst upd_same (hd.mono eF))
    · by_cases z : b = l
      · subst z; rw [upd_same] at w; cases w; exact h2
      · rw [upd_ne z] at w; exact g.s b u w
    · by_cases z : b = l
      · subst z; exact Or.inr hl
      · rw [upd_ne z] at w; exact g.n b u w
theorem EvI.d {K : PySem.W.Frag} {te : TE} {ρ : Rho} {C : Addr} {fs : List (Str × Dt)} (h : EvI K te ρ C fs) : EvD K te ρ (.ins C fs) := fun F0 H0 F H σ S Q q =>
  h F0 H0 F H σ S Q fun l dx fv F2 H2 g hl fl h2 hd => by
    have eF : Ex F2 (upd F2 l (.ins C dx fv)) := Ex.new fl
    refine q _ (upd F2 l (.ins C dx fv)) H2 ⟨g.h, g.f.trans eF, fun b u w => ?_, fun b u w => ?_⟩ (by simp only [Den]; exact ⟨l, dx, fv, rfl, upd_same, hd.mono eF⟩)
    · by_cases z : b = l
      · subst z; rw [upd_same] at w; cases w; exact h2
      · rw [upd_ne z] at w; exact g.s b u w
    · by_cases z : b = l
      · subst z; exact Or.inr hl
      · rw [upd_ne z] at w; exact g.n b u w
theorem EvD.r {K : PySem.W.Frag} {te : TE} {ρ : Rho} {ds : List Dt} (h : EvD K te ρ (.lst ds)) : EvR K te ρ ds := fun F0 H0 F H σ S Q q =>
  h F0 H0 F H σ S Q fun v F2 H2 g hd => by
    simp only [Den] at hd
    obtain ⟨a, xs, h1, h2, h3⟩ := hd
    exact q v F2 H2 g ⟨a, xs, h1, g.s _ _ h2, h3⟩

abbrev XE (X : Cx) (e : Expr) (ρ : Rho) (d : Dt) : Prop := EvD X.K (wpE X e) ρ d
abbrev XN (X : Cx) (e : Expr) (ρ : Rho) (ds : List Dt) : Prop := EvN X.K (wpE X e) ρ ds
abbrev XI (X : Cx) (e : Expr) (ρ : Rho) (C : Addr) (fs : List (Str × Dt)) : Prop := EvI X.K (wpE X e) ρ C fs
abbrev XR (X : Cx) (e : Expr) (ρ : Rho) (ds : List Dt) : Prop := EvR X.K (wpE X e) ρ ds
abbrev XT (X : Cx) (e : Expr) (ρ : Rho) (b : Bool) : Prop := EvT X.K (wpT X e) ρ b
abbrev XW (X : Cx) (e : Expr) (ρ : Rho) (b : Bool) : Prop := EvT X.K (wpW X e) ρ b
abbrev XA (X : Cx) (es : List Expr) (ρ : Rho) (ds : List Dt) : Prop := EvA X.K (wpA X es) ρ ds

section
variable {X : Cx} {ρ : Rho} {e a b c o : Expr} {es : List Expr} {pos p apos cpos : Pos} {d d1 d2 d3 : Dt} {ds ds1 ds2 : List Dt} {x : Str}
theorem EvD.of (h : PE X e t) (ev : EvD X.K t ρ d) : XE X e ρ d := fun F0 H0 F H σ S Q q => wpE_of h (ev F0 H0 F H σ S Q q)
theorem EvN.of (h : PE X e t) (ev : EvN X.K t ρ ds) : XN X e ρ ds := fun F0 H0 F H σ S Q q => wpE_of h (ev F0 H0 F H σ S Q q)
theorem EvT.of (h : PT X e t) (ev : EvT X.K t ρ b') : XT X e ρ b' := fun F0 H0 F H σ S Q q => wpT_of h (ev F0 H0 F H σ S Q q)
theorem EvA.of (h : PA X es t) (ev : EvA X.K t ρ ds) : XA X es ρ ds := fun F0 H0 F H σ S Q q => wpA_of h (ev F0 H0 F H σ S Q q)
/-! ### names, constants -/
theorem x_var {i : Nat} (e : ρ[i]? = some (some (.im d))) (hN : X.N[i]? = some x := by rfl) (hv : Vis X.env.scope x := by first | exact Or.inl rfl | exact Or.inr (Or.inl rfl) | exact Or.inr (Or.inr rfl)) (hd : (x == ("__debug__" : Str)) = false := by decide)
    (hcd : (x == ("__classdict__" : Str)) = false := by decide) : XE X (.Name x pos) ρ d := EvD.of (pe_var hN hv hd hcd) fun F0 H0 F H σ S Q q => by
  obtain ⟨v, h1, h2⟩ := S.slot e
  exact ⟨v, h1, q v F H (Gr.refl S.ex) h2⟩
theorem xr_mu {i : Nat} (e : ρ[i]? = some (some (.mu ds))) (hN : X.N[i]? = some x := by rfl) (hv : Vis X.env.scope x := by first | exact Or.inl rfl | exact Or.inr (Or.inl rfl) | exact Or.inr (Or.inr rfl)) (hd : (x == ("__debug__" : Str)) = false := by decide)
    (hcd : (x == ("__classdict__" : Str)) = false := by decide) : XR X (.Name x pos) ρ ds := fun F0 H0 F H σ S Q q => wpE_of (pe_var hN hv hd hcd) (by
  obtain ⟨v, h1, l, xs, h2, h3, h4, h5, h6⟩ := S.ok i _ e
  exact ⟨v, h1, q v F H (Gr.refl S.ex) ⟨l, xs, h2, h5, h6⟩⟩)
theorem ev_c {K : PySem.W.Frag} {v : V} (h : ∀ F, Den K F d v) : EvD K (tC v) ρ d := fun F0 H0 F H σ S Q q => q v F H (Gr.refl S.ex) (h F)
theorem x_int {i : Int} {j} : XE X (.Constant (.int i) j pos) ρ (.int i) := EvD.of pe_int (ev_c fun _ => by simp only [Den])
theorem x_bl {i : Bool} {j} : XE X (.Constant (.bool i) j pos) ρ (.bl i) := EvD.of pe_bl (ev_c fun _ => by simp only [Den])
theorem x_non {j} : XE X (.Constant .none j pos) ρ .non := EvD.of pe_non (ev_c fun _ => by simp only [Den])
theorem x_str {i : Str} {j} : XE X (.Constant (.str i) j pos) ρ (.str i) := EvD.of pe_str (ev_c fun _ => by simp only [Den])
theorem x_glob {v : V} {u : Value} (hm : X.mg x = some u) (r : RelV v u) (h : ∀ F, Den X.K F d v) (hg : Gl X x := by rfl) (hd : (x == ("__debug__" : Str)) = false := by decide) : XE X (.Name x pos) ρ d := EvD.of (pe_glob hg hm r hd) (ev_c h)
/-- the module's int, text -/
theorem x_gint {i : Int} (hm : ∃ t, X.mg x = some (.int i t)) (hg : Gl X x := by rfl) (hd : (x == ("__debug__" : Str)) = false := by decide) : XE X (.Name x pos) ρ (.int i) := by
  obtain ⟨t, hm⟩ := hm
  exact x_glob (v := .int i) hm ⟨t, rfl⟩ (fun _ => by simp only [Den]) hg hd
theorem x_gstr {i : Str} (hm : ∃ t, X.mg x = some (.str i t)) (hg : Gl X x := by rfl) (hd : (x == ("__debug__" : Str)) = false := by decide) : XE X (.Name x pos) ρ (.str i) := by
  obtain ⟨t, hm⟩ := hm
  exact x_glob (v := .str i) hm ⟨t, rfl⟩ (fun _ => by simp only [Den]) hg hd
/-! ### two values, an operation -/
def RD (K : PySem.W.Frag) (r : R2) (d1 d2 d : Dt) : Prop := ∀ F H x y, Ex F H → Den K F d1 x → Den K F d2 y → ∀ Q : VK, (∀ v F2 H2, Gr F H F2 H2 → Den K F2 d v → Q v H2) → r x y H Q
theorem ev_op {K : PySem.W.Frag} {r : R2} {ta tb : TE} (ha : EvD K ta ρ d1) (hb : EvD K tb ρ d2) (hr : RD K r d1 d2 d) : EvD K (tOp r ta tb) ρ d := fun F0 H0 F H σ S Q q =>
  ha F0 H0 F H σ S _ fun x F2 H2 g1 dx => hb F0 H0 F2 H2 σ (S.mono g1) _ fun y F3 H3 g2 dy =>
    hr F3 H3 x y g2.s (dx.mono g2.f) dy Q fun v F4 H4 g3 dv => q v F4 H4 ((g1.trans g2).trans g3) dv
theorem x_bin {op : Operator} {r : R2} (ho : OpR X (binaryOp op) r) (ha : XE X a ρ d1) (hb : XE X b ρ d2) (hr : RD X.K r d1 d2 d) : XE X (.BinOp a op b pos) ρ d :=
  EvD.of (pe_op ho pe_wp pe_wp) (ev_op ha hb hr)
theorem x_cmp {op : CmpOp} {r : R2} (ho : OpR X (compareOp op) r) (hm : behindInMarks op b = false) (ha : XE X a ρ d1) (hb : XE X b ρ d2) (hr : RD X.K r d1 d2 d) : XE X (.Compare a [op] [b] pos) ρ d :=
  EvD.of (pe_cmpR ho pe_wp pe_wp hm) (ev_op ha hb hr)
theorem rd_val {K : PySem.W.Frag} {r : R2} (h : ∀ F H x y, Ex F H → Den K F d1 x → Den K F d2 y → ∃ v, (∀ Q : VK, Q v H → r x y H Q) ∧ Den K F d v) : RD K r d1 d2 d := fun F H x y e h1 h2 Q q => by
  obtain ⟨v, h3, h4⟩ := h F H x y e h1 h2
  exact h3 Q (q v F H (Gr.refl e) h4)
theorem rd_I0 {K : PySem.W.Frag} {g : Int → Int → Int} {i j : Int} : RD K (rI0 fun i j => .int (g i j)) (.int i) (.int j) (.int (g i j)) := fun F H x y e h1 h2 Q q => by
  simp only [Den] at h1 h2
  exact ⟨i, j, h1, h2, q _ F H (Gr.refl e) (by simp only [Den])⟩
theorem rd_B0 {K : PySem.W.Frag} {g : Int → Int → Bool} {i j : Int} : RD K (rI0 fun i j => .bl (g i j)) (.int i) (.int j) (.bl (g i j)) := fun F H x y e h1 h2 Q q => by
  simp only [Den] at h1 h2
  exact ⟨i, j, h1, h2, q _ F H (Gr.refl e) (by simp only [Den])⟩
theorem rd_I {K : PySem.W.Frag} {C : Int → Int → Prop} {g : Int → Int → Int} {i j : Int} (hc : C i j) : RD K (rI C fun i j => .int (g i j)) (.int i) (.int j) (.int (g i j)) := fun F H x y e h1 h2 Q q => by
  simp only [Den] at h1 h2
  exact ⟨i, j, h1, h2, hc, q _ F H (Gr.refl e) (by simp only [Den])⟩
/-- a scalar's own value -/
def Dt.v : Dt → V
  | .non => .non
  | .bl b => .bl b
  | .int i => .int i
  | .str s => .str s
  | _ => .non
def Dt.sc : Dt → Bool
  | .non => true
  | .bl b => true
  | .int i => true
  | .str s => true
  | _ => false
theorem Den.sc {K : PySem.W.Frag} {F : Hp} {v : V} (h : Den K F d v) (hs : d.sc = true) : v = d.v := by
  cases d <;> first | (cases hs; done) | (simp only [Den] at h; exact h)
theorem Den.of_sc {K : PySem.W.Frag} {F : Hp} (hs : d.sc = true) : Den K F d d.v := by
  cases d <;> first | (cases hs; done) | (simp only [Den, Dt.v])
theorem rd_eq {K : PySem.W.Frag} (h1 : d1.sc = true) (h2 : d2.sc = true) (h : scal d1.v d2.v = true) : RD K rEq d1 d2 (.bl (decide (d1.v = d2.v))) := fun F H x y e k1 k2 Q q => by
  rw [k1.sc h1, k2.sc h2]
  exact ⟨h, q _ F H (Gr.refl e) (by simp only [Den])⟩
theorem rd_ne {K : PySem.W.Frag} (h1 : d1.sc = true) (h2 : d2.sc = true) (h : scal d1.v d2.v = true) : RD K rNe d1 d2 (.bl (!decide (d1.v = d2.v))) := fun F H x y e k1 k2 Q q => by
  rw [k1.sc h1, k2.sc h2]
  exact ⟨h, q _ F H (Gr.refl e) (by simp only [Den])⟩
/-- is it None -/
def Dt.isN : Dt → Bool
  | .non => true
  | _ => false
theorem Den.isN {K : PySem.W.Frag} {F : Hp} {v : V} (h : Den K F d v) : decide (v = .non) = d.isN := by
  cases d <;> simp only [Den] at h <;> first | (subst h; rfl) | (obtain ⟨a, xs, rfl, _⟩ := h; rfl) | (obtain ⟨a, dx, fv, rfl, _⟩ := h; rfl) | (obtain ⟨a, rfl⟩ := h; rfl) | (obtain ⟨a, rfl, _⟩ := h; rfl)
theorem x_isN {j pos'} (ha : XE X a ρ d) : XE X (.Compare a [.Is] [.Constant .none j pos'] pos) ρ (.bl d.isN) :=
  EvD.of (pe_cmpR op_isN pe_wp pe_non (nomark _)) fun F0 H0 F H σ S Q q => ha F0 H0 F H σ S _ fun x F2 H2 g h => ⟨rfl, by rw [h.isN]; exact q _ F2 H2 g (by simp only [Den])⟩
theorem x_notN {j pos'} (ha : XE X a ρ d) : XE X (.Compare a [.IsNot] [.Constant .none j pos'] pos) ρ (.bl (!d.isN)) :=
  EvD.of (pe_cmpR op_notN pe_wp pe_non (nomark _)) fun F0 H0 F H σ S Q q => ha F0 H0 F H σ S _ fun x F2 H2 g h => ⟨rfl, by rw [h.isN]; exact q _ F2 H2 g (by simp only [Den])⟩
/-! ### data compared as a whole -/
mutual
def Dt.py : Dt → PyData
  | .non => .none
  | .bl b => .bool b
  | .int i => .int i
  | .str s => .str s
  | .lst ds => .list (Dt.pyL ds)
  | .tup ds => .tuple (Dt.pyL ds)
  | _ => .none
def Dt.pyL : List Dt → List PyData
  | [] => []
  | d :: ds => d.py :: Dt.pyL ds
end
mutual
def Dt.pure : Dt → Bool
  | .non => true
  | .bl b => true
  | .int i => true
  | .str s => true
  | .lst ds => Dt.pureL ds
  | .tup ds => Dt.pureL ds
  | _ => false
def Dt.pureL : List Dt → Bool
  | [] => true
  | d :: ds => d.pure && Dt.pureL ds
end
mutual
theorem Den.dp {K : PySem.W.Frag} {F H : Hp} (e : Ex F H) : ∀ (d : Dt) {v : V}, Den K F d v → d.pure = true → Dp K H v d.py
  | .non, _, h, _ => by simp only [Den] at h; subst h; simp only [Dt.py]; exact .non
  | .bl b, _, h, _ => by simp only [Den] at h; subst h; simp only [Dt.py]; exact .bl b
  | .int i, _, h, _ => by simp only [Den] at h; subst h; simp only [Dt.py]; exact .int i
  | .str s, _, h, _ => by simp only [Den] at h; subst h; simp only [Dt.py]; exact .str s
  | .lst ds, _, h, p => by
    simp only [Den] at h
    simp only [Dt.pure] at p
    obtain ⟨a, xs, rfl, h2, h3⟩ := h
    simp only [Dt.py]
    exact .lst (SqL.of (e _ _ h2)) (DenL.dp e ds h3 p)
  | .tup ds, _, h, p => by
    simp only [Den] at h
    simp only [Dt.pure] at p
    obtain ⟨a, xs, rfl, h2, h3⟩ := h
    simp only [Dt.py]
    exact .tup (ex_t e h2) (DenL.dp e ds h3 p)
  | .ins _ _, _, _, p => by simp [Dt.pure] at p
  | .ref _, _, _, p => by simp [Dt.pure] at p
  | .nn, _, _, p => by simp [Dt.pure] at p
  | .scr _, _, _, p => by simp [Dt.pure] at p
  | .etup _, _, _, p => by simp [Dt.pure] at p
theorem DenL.dp {K : PySem.W.Frag} {F H : Hp} (e : Ex F H) : ∀ (ds : List Dt) {xs : List V}, DenL K F ds xs → Dt.pureL ds = true → DpAll K H xs (Dt.pyL ds)
  | [], _, h, _ => by simp only [DenL] at h; subst h; simp only [Dt.pyL]; exact .nil
  | d :: ds, _, h, p => by
    simp only [DenL] at h
    obtain ⟨x, r, rfl, h2, h3⟩ := h
    simp only [Dt.pureL, Bool.and_eq_true] at p
    simp only [Dt.pyL]
    exact .cons (Den.dp e d h2 p.1) (DenL.dp e ds h3 p.2)
end
theorem rd_eqD {K : PySem.W.Frag} (p1 : d1.pure = true) (p2 : d2.pure = true) (s1 : SeqAt.shaped d1.py = true) (s2 : SeqAt.shaped d2.py = true) : RD K (rEqD K) d1 d2 (.bl (PyData.eqv d1.py d2.py)) := fun F H x y e k1 k2 Q q =>
  ⟨_, _, Den.dp e d1 k1 p1, Den.dp e d2 k2 p2, s1, s2, q _ F H (Gr.refl e) (by simp only [Den])⟩
theorem rd_neD {K : PySem.W.Frag} (p1 : d1.pure = true) (p2 : d2.pure = true) (s1 : SeqAt.shaped d1.py = true) (s2 : SeqAt.shaped d2.py = true) : RD K (rNeD K) d1 d2 (.bl (!PyData.eqv d1.py d2.py)) := fun F H x y e k1 k2 Q q =>
  ⟨_, _, Den.dp e d1 k1 p1, Den.dp e d2 k2 p2, s1, s2, q _ F H (Gr.refl e) (by simp only [Den])⟩
/-! ### arguments, displays -/
theorem xa_nil : XA X [] ρ [] := EvA.of pa_nil fun F0 H0 F H σ S Q q => q [] F H (Gr.refl S.ex) DenL.nil
theorem ev_cons {K : PySem.W.Frag} {ta : TE} {tr : TA} (h : EvD K ta ρ d) (t : EvA K tr ρ ds) : EvA K (tCons ta tr) ρ (d :: ds) := fun F0 H0 F H σ S Q q =>
  h F0 H0 F H σ S _ fun x F2 H2 g1 dx => t F0 H0 F2 H2 σ (S.mono g1) _ fun xs F3 H3 g2 dxs => q _ F3 H3 (g1.trans g2) (DenL.cons (dx.mono g2.f) dxs)
theorem xa_cons (h : XE X e ρ d) (t : XA X es ρ ds) (hs : starEach (e :: es) X.env = (false, eval e X.env) :: starEach es X.env := by rfl) : XA X (e :: es) ρ (d :: ds) :=
  EvA.of (pa_cons pe_wp pa_wp hs) (ev_cons h t)
theorem x_tup {x1} (h : XA X es ρ ds) (hl : ds.length ≤ 1000 := by exact Nat.le_of_ble_eq_true rfl) : XE X (.Tuple es x1 pos) ρ (.tup ds) := EvD.of (pe_tup pa_wp) fun F0 H0 F H σ S Q q =>
  h F0 H0 F H σ S _ fun xs F2 H2 g dxs => ⟨by rw [dxs.length]; exact Nat.le_of_lt (small1000 hl), fun p hp => q _ _ _ (g.trans (Gr.new g.s hp)) (den_tup st_new (dxs.mono (Ex.new (g.s.none hp))))⟩
theorem xn_lst (h : XA X es ρ ds) (hl : ds.length ≤ 1000 := by exact Nat.le_of_ble_eq_true rfl) : XN X (.List es pos) ρ ds := EvN.of (pe_lst pa_wp) fun F0 H0 F H σ S Q q =>
  h F0 H0 F H σ S _ fun xs F2 H2 g dxs => ⟨by rw [dxs.length]; exact Nat.le_of_lt (small1000 hl), fun p hp => q p xs F2 _ (g.trans (Gr.loose g.s hp)) (g.h.none hp) (g.s.none hp) upd_same dxs⟩
theorem _root_.K82.XN.toD (h : XN X e ρ ds) : XE X e ρ (.lst ds) := EvN.d h
theorem _root_.K82.XN.toR (h : XN X e ρ ds) : XR X e ρ ds := EvD.r (EvN.d h)
theorem _root_.K82.XE.toR (h : XE X e ρ (.lst ds)) : XR X e ρ ds := EvD.r h
theorem XE.is (h : XE X e ρ d1) (q : d1 = d2) : XE X e ρ d2 := q ▸ h
theorem XR.is (h : XR X e ρ ds1) (q : ds1 = ds2) : XR X e ρ ds2 := q ▸ h
theorem XN.is (h : XN X e ρ ds1) (q : ds1 = ds2) : XN X e ρ ds2 := q ▸ h
theorem XT.is {k1 k2 : Bool} (h : XT X e ρ k1) (q : k1 = k2) : XT X e ρ k2 := q ▸ h
/-! ### tests -/
theorem xt_val {k : Bool} (h : XE X e ρ (.bl k)) (he : ∀ whole, isTrue e X.env whole = (do let v ← whole; standAt e.pos; holding [v] (truthy v)) := by intro _; rfl) : XT X e ρ k :=
  EvT.of (pt_val pe_wp he) fun F0 H0 F H σ S Q q => h F0 H0 F H σ S _ fun v F2 H2 g dv => by simp only [Den] at dv; exact ⟨k, dv, q F2 H2 g⟩
theorem xt_cmp {op : CmpOp} {r : R2} {k : Bool} (ho : OpR X (compareOp op) r) (hm : behindInMarks op b = false) (ha : XE X a ρ d1) (hb : XE X b ρ d2) (hr : RD X.K r d1 d2 (.bl k)) : XT X (.Compare a [op] [b] pos) ρ k :=
  EvT.of (pt_cmpR ho pe_wp pe_wp hm) fun F0 H0 F H σ S Q q => ev_op ha hb hr F0 H0 F H σ S _ fun v F2 H2 g dv => by simp only [Den] at dv; exact ⟨k, dv, q F2 H2 g⟩
theorem xt_isN {j pos'} (ha : XE X a ρ d) : XT X (.Compare a [.Is] [.Constant .none j pos'] pos) ρ d.isN :=
  EvT.of (pt_cmpR op_isN pe_wp pe_non (nomark _)) fun F0 H0 F H σ S Q q => ha F0 H0 F H σ S _ fun x F2 H2 g h => ⟨rfl, _, rfl, by rw [h.isN]; exact q F2 H2 g⟩
theorem xt_notN {j pos'} (ha : XE X a ρ d) : XT X (.Compare a [.IsNot] [.Constant .none j pos'] pos) ρ (!d.isN) :=
  EvT.of (pt_cmpR op_notN pe_wp pe_non (nomark _)) fun F0 H0 F H σ S Q q => ha F0 H0 F H σ S _ fun x F2 H2 g h => ⟨rfl, _, rfl, by rw [h.isN]; exact q F2 H2 g⟩
theorem xt_not {k : Bool} (h : XT X a ρ k) : XT X (.UnaryOp .Not a pos) ρ (!k) := EvT.of (pt_not pt_wp) fun F0 H0 F H σ S Q q => h F0 H0 F H σ S _ fun F2 H2 g => q F2 H2 g
theorem xt_w {k : Bool} (h : XW X e ρ k) : XT X e ρ k := EvT.of (pw_wp.pt) h
theorem xw_and1 {k : Bool} (h : XT X a ρ k) : XW X (.BoolOp .And [a] pos) ρ k := fun F0 H0 F H σ S Q q => wpW_of (pw_and1 pt_wp) (h F0 H0 F H σ S Q q)
theorem xw_or1 {k : Bool} (h : XT X a ρ k) : XW X (.BoolOp .Or [a] pos) ρ k := fun F0 H0 F H σ S Q q => wpW_of (pw_or1 pt_wp) (h F0 H0 F H σ S Q q)
theorem xw_and {k k2 : Bool} (h : XT X a ρ k) (h2 : k = true → XW X (.BoolOp .And (b :: es) pos) ρ k2) : XW X (.BoolOp .And (a :: b :: es) pos) ρ (k && k2) := fun F0 H0 F H σ S Q q => wpW_of (pw_and pt_wp pw_wp)
  (h F0 H0 F H σ S _ fun F2 H2 g => by
    cases k with
    | true => exact iteT (h2 rfl F0 H0 F2 H2 σ (S.mono g) Q fun F3 H3 g3 => q F3 H3 (g.trans g3))
    | false => exact iteF (q F2 H2 g))
theorem xw_or {k k2 : Bool} (h : XT X a ρ k) (h2 : k = false → XW X (.BoolOp .Or (b :: es) pos) ρ k2) : XW X (.BoolOp .Or (a :: b :: es) pos) ρ (k || k2) := fun F0 H0 F H σ S Q q => wpW_of (pw_or pt_wp pw_wp)
  (h F0 H0 F H σ S _ fun F2 H2 g => by
    cases k with
    | true => exact iteT (q F2 H2 g)
    | false => exact iteF (h2 rfl F0 H0 F2 H2 σ (S.mono g) Q fun F3 H3 g3 => q F3 H3 (g.trans g3)))
theorem x_ifE {k : Bool} (hc : XT X c ρ k) (ha : k = true → XE X a ρ d) (hb : k = false → XE X b ρ d) : XE X (.IfExp c a b pos) ρ d := EvD.of (pe_ifExp pt_wp pe_wp pe_wp) fun F0 H0 F H σ S Q q =>
  hc F0 H0 F H σ S _ fun F2 H2 g => by
    cases k with
    | true => exact iteT (ha rfl F0 H0 F2 H2 σ (S.mono g) Q fun v F3 H3 g3 => q v F3 H3 (g.trans g3))
    | false => exact iteF (hb rfl F0 H0 F2 H2 σ (S.mono g) Q fun v F3 H3 g3 => q v F3 H3 (g.trans g3))
/-- and, or, not of bools as values -/
theorem x_one {op} (h : XE X a ρ d) : XE X (.BoolOp op [a] pos) ρ d := EvD.of (pe_one pe_wp) h
theorem x_and {k k2 : Bool} (h : XE X a ρ (.bl k)) (h2 : k = true → XE X (.BoolOp .And (b :: es) pos) ρ (.bl k2)) : XE X (.BoolOp .And (a :: b :: es) pos) ρ (.bl (k && k2)) := EvD.of (pe_and pe_wp pe_wp) fun F0 H0 F H σ S Q q =>
  h F0 H0 F H σ S _ fun v F2 H2 g dv => by
    simp only [Den] at dv
    refine ⟨k, dv, ?_⟩
    cases k with
    | true => exact iteT (h2 rfl F0 H0 F2 H2 σ (S.mono g) Q fun v F3 H3 g3 => q v F3 H3 (g.trans g3))
    | false => exact iteF (q _ F2 H2 g (by simp only [Den, Bool.false_and]))
theorem x_or {k k2 : Bool} (h : XE X a ρ (.bl k)) (h2 : k = false → XE X (.BoolOp .Or (b :: es) pos) ρ (.bl k2)) : XE X (.BoolOp .Or (a :: b :: es) pos) ρ (.bl (k || k2)) := EvD.of (pe_or pe_wp pe_wp) fun F0 H0 F H σ S Q q =>
  h F0 H0 F H σ S _ fun v F2 H2 g dv => by
    simp only [Den] at dv
    refine ⟨k, dv, ?_⟩
    cases k with
    | true => exact iteT (q _ F2 H2 g (by simp only [Den, Bool.true_or]))
    | false => exact iteF (h2 rfl F0 H0 F2 H2 σ (S.mono g) Q fun v F3 H3 g3 => q v F3 H3 (g.trans g3))
theorem x_not {k : Bool} (h : XE X a ρ (.bl k)) : XE X (.UnaryOp .Not a pos) ρ (.bl (!k)) := EvD.of (pe_not pe_wp) fun F0 H0 F H σ S Q q =>
  h F0 H0 F H σ S _ fun v F2 H2 g dv => by simp only [Den] at dv; exact ⟨k, dv, q _ F2 H2 g (by simp only [Den])⟩
/-- chains of two -/
theorem ev_chain {K : PySem.W.Frag} {r r' : R2} {ta tb tc : TE} {k k2 : Bool} (ha : EvD K ta ρ d1) (hb : EvD K tb ρ d2) (hr : RD K r d1 d2 (.bl k)) (hc : k = true → EvD K tc ρ d3) (hr2 : k = true → RD K r' d2 d3 (.bl k2)) : EvD K (tChain r r' ta tb tc) ρ (.bl (k && k2)) := fun F0 H0 F H σ S Q q =>
  ha F0 H0 F H σ S _ fun x F2 H2 g1 dx => hb F0 H0 F2 H2 σ (S.mono g1) _ fun y F3 H3 g2 dy =>
    hr F3 H3 x y g2.s (dx.mono g2.f) dy _ fun v F4 H4 g3 dv => by
      simp only [Den] at dv
      refine ⟨k, dv, ?_⟩
      cases k with
      | true => exact iteT (hc rfl F0 H0 F4 H4 σ (S.mono ((g1.trans g2).trans g3)) _ fun z F5 H5 g4 dz => hr2 rfl F5 H5 y z g4.s (dy.mono (g3.trans g4).f) dz Q fun v F6 H6 g5 dv => q v F6 H6 ((((g1.trans g2).trans g3).trans g4).trans g5) dv)
      | false => exact iteF (q _ F4 H4 ((g1.trans g2).trans g3) (by simp only [Den, Bool.false_and]))
theorem x_chain {op op' : CmpOp} {r r' : R2} {k k2 : Bool} (ho : OpR X (compareOp op) r) (ho' : OpR X (compareOp op') r') (ha : XE X a ρ d1) (hb : XE X b ρ d2) (hr : RD X.K r d1 d2 (.bl k)) (hc : k = true → XE X c ρ d3) (hr2 : k = true → RD X.K r' d2 d3 (.bl k2))
    (hm : lastMarks [op, op'] [b, c] = false := by with_unfolding_all rfl) : XE X (.Compare a [op, op'] [b, c] pos) ρ (.bl (k && k2)) := EvD.of (pe_chain ho ho' pe_wp pe_wp pe_wp hm) (ev_chain ha hb hr hc hr2)
theorem xt_chain {op op' : CmpOp} {r r' : R2} {k k2 : Bool} (ho : OpR X (compareOp op) r) (ho' : OpR X (compareOp op') r') (ha : XE X a ρ d1) (hb : XE X b ρ d2) (hr : RD X.K r d1 d2 (.bl k)) (hc : k = true → XE X c ρ d3) (hr2 : k = true → RD X.K r' d2 d3 (.bl k2))
    (hm : lastMarks [op, op'] [b, c] = false := by with_unfolding_all rfl) : XT X (.Compare a [op, op'] [b, c] pos) ρ (k && k2) := EvT.of (pt_chain ho ho' pe_wp pe_wp pe_wp hm) fun F0 H0 F H σ S Q q =>
  ev_chain ha hb hr hc hr2 F0 H0 F H σ S _ fun v F2 H2 g dv => by simp only [Den] at dv; exact ⟨_, dv, q F2 H2 g⟩
/-! ### subscripts -/
theorem x_ixR {i : Int} (ha : XR X a ρ ds) (hb : XE X b ρ (.int i)) (h : atI ds i = some d) (hs : PlainIx b := by intro _ _; rfl) : XE X (.Subscript a b pos) ρ d := EvD.of (pe_ix ix_list pe_wp pe_wp hs) fun F0 H0 F H σ S Q q =>
  ha F0 H0 F H σ S _ fun x F2 H2 g1 rx => hb F0 H0 F2 H2 σ (S.mono g1) _ fun y F3 H3 g2 dy => by
    obtain ⟨l, xs, rfl, h2, h3⟩ := rx.mono g2
    simp only [Den] at dy
    obtain ⟨j, e1, e2⟩ : ∃ j, ixN ds.length i = some j ∧ ds[j]? = some d := by
      unfold atI at h
      cases w : ixN ds.length i with
      | none => rw [w] at h; cases h
      | some j => rw [w] at h; exact ⟨j, rfl, h⟩
    obtain ⟨v, e3, e4⟩ := h3.get e2
    refine ⟨l, xs, i, v, rfl, dy, SqL.of h2, ?_, q v F3 H3 (g1.trans g2) e4⟩
    unfold atI
    rw [h3.length, e1]
    exact e3
theorem x_ixT {i : Int} (ha : XE X a ρ (.tup ds)) (hb : XE X b ρ (.int i)) (h : atI ds i = some d) (hs : PlainIx b := by intro _ _; rfl) : XE X (.Subscript a b pos) ρ d := EvD.of (pe_ix ix_tup pe_wp pe_wp hs) fun F0 H0 F H σ S Q q =>
  ha F0 H0 F H σ S _ fun x F2 H2 g1 rx => hb F0 H0 F2 H2 σ (S.mono g1) _ fun y F3 H3 g2 dy => by
    have rx := Den.mono g2.f _ rx
    simp only [Den] at rx
    obtain ⟨l, xs, rfl, h2, h3⟩ := rx
    simp only [Den] at dy
    obtain ⟨j, e1, e2⟩ : ∃ j, ixN ds.length i = some j ∧ ds[j]? = some d := by
      unfold atI at h
      cases w : ixN ds.length i with
      | none => rw [w] at h; cases h
      | some j => rw [w] at h; exact ⟨j, rfl, h⟩
    obtain ⟨v, e3, e4⟩ := h3.get e2
    refine ⟨l, xs, i, v, rfl, dy, ex_t g2.s h2, ?_, q v F3 H3 (g1.trans g2) e4⟩
    unfold atI
    rw [h3.length, e1]
    exact e3
theorem x_ixS {z : Str} {i : Int} {k : Nat} (ha : XE X a ρ (.str z)) (hb : XE X b ρ (.int i)) (hz : z.length ≤ 1000) (h : atI z.cps.toList i = some k) (hs : PlainIx b := by intro _ _; rfl) : XE X (.Subscript a b pos) ρ (.str ⟨#[k]⟩) :=
  EvD.of (pe_ix ix_str pe_wp pe_wp hs) (ev_op ha hb fun F H x y e k1 k2 Q q => by
    simp only [Den] at k1 k2
    exact ⟨z, i, k, k1, k2, Nat.le_of_lt (small1000 hz), h, q _ F H (Gr.refl e) (by simp only [Den])⟩)
/-! ### slices -/
def EvO (K : PySem.W.Frag) (t : TO) (ρ : Rho) (o : Option Int) : Prop := ∀ F0 H0 F H σ, Sta K F0 H0 F H σ ρ → ∀ Q : Option Int → Hp → Prop, (∀ F2 H2, Gr F H F2 H2 → Q o H2) → t σ H Q
def wpO (X : Cx) (e : Option Expr) : TO := fun σ H Q => ∀ (pins : List (Addr × Obj)) (s : Shared), Inv X pins σ H s → wpAny (model X.prog X.w) X.A (evalPart e X.env) (fun u s' => ∃ o H', Inv X pins σ H' s' ∧ IsPart u o ∧ Q o H') X.xe s
theorem po_wp {e : Option Expr} : PO X e (wpO X e) := ⟨fun pins s σ H Q I h => h pins s I⟩
abbrev XO (X : Cx) (e : Option Expr) (ρ : Rho) (o : Option Int) : Prop := EvO X.K (wpO X e) ρ o
theorem xo_none : XO X none ρ none := fun F0 H0 F H σ S Q q => fun pins s I => po_none.run pins s σ H Q I (q F H (Gr.refl S.ex))
theorem xo_some {i : Int} (h : XE X e ρ (.int i)) : XO X (some e) ρ (some i) := fun F0 H0 F H σ S Q q => fun pins s I => (po_some pe_wp).run pins s σ H Q I
  (h F0 H0 F H σ S _ fun v F2 H2 g dv => by simp only [Den] at dv; exact ⟨i, dv, q F2 H2 g⟩)
def cutD (ds : List Dt) (lo hi : Option Int) : List Dt := (ds.drop (HT.sIx ds.length 0 lo)).take (HT.sIx ds.length ds.length hi - HT.sIx ds.length 0 lo)
theorem DenL.cut {K : PySem.W.Frag} {F : Hp} {xs : List V} {lo hi : Option Int} (h : DenL K F ds xs) : DenL K F (cutD ds lo hi) (cutV xs lo hi) := by
  unfold cutD cutV
  rw [h.length]
  exact (h.drop _).take _
theorem xn_slice {lo hi : Option Expr} {l u : Option Int} {p2 : Pos} (ha : XR X a ρ ds) (h1 : XO X lo ρ l) (h2 : XO X hi ρ u) : XN X (.Subscript a (.Slice lo hi none p2) pos) ρ (cutD ds l u) :=
  EvN.of (pe_slice sl_list pe_wp po_wp po_wp) fun F0 H0 F H σ S Q q => ha F0 H0 F H σ S _ fun x F2 H2 g1 rx => h1 F0 H0 F2 H2 σ (S.mono g1) _ fun F3 H3 g2 => h2 F0 H0 F3 H3 σ (S.mono (g1.trans g2)) _ fun F4 H4 g3 => by
    obtain ⟨t, xs, rfl, k2, k3⟩ := rx.mono (g2.trans g3)
    exact ⟨t, xs, rfl, SqL.of k2, fun p hp => q p _ F4 _ (((g1.trans g2).trans g3).trans (Gr.loose g3.s hp)) (((g1.trans g2).trans g3).h.none hp) (g3.s.none hp) upd_same k3.cut⟩
theorem x_sliceT {lo hi : Option Expr} {l u : Option Int} {p2 : Pos} (ha : XE X a ρ (.tup ds)) (h1 : XO X lo ρ l) (h2 : XO X hi ρ u) : XE X (.Subscript a (.Slice lo hi none p2) pos) ρ (.tup (cutD ds l u)) :=
  EvD.of (pe_slice sl_tupA pe_wp po_wp po_wp) fun F0 H0 F H σ S Q q => ha F0 H0 F H σ S _ fun x F2 H2 g1 rx => h1 F0 H0 F2 H2 σ (S.mono g1) _ fun F3 H3 g2 => h2 F0 H0 F3 H3 σ (S.mono (g1.trans g2)) _ fun F4 H4 g3 => by
    have rx := Den.mono (g2.trans g3).f _ rx
    simp only [Den] at rx
    obtain ⟨t, xs, rfl, k2, k3⟩ := rx
    refine ⟨t, xs, rfl, ex_t g3.s k2, fun w => q _ F4 H4 ((g1.trans g2).trans g3) (den_tup k2 ?_), fun _ p hp => q _ _ _ (((g1.trans g2).trans g3).trans (Gr.new g3.s hp)) (den_tup st_new (k3.cut.mono (Ex.new (g3.s.none hp))))⟩
    have e : cutD ds l u = ds := by
      unfold cutD
      rw [k3.length] at w
      rw [w.1, w.2, List.drop_zero, Nat.sub_zero, List.take_length]
    rw [e]
    exact k3
/-- l[::-1] -/
theorem xn_rev {k : Nat} {p1 p2 p3 : Pos} (ha : XR X a ρ ds) : XN X (.Subscript a (.Slice none none (some (.UnaryOp .USub (.Constant (.int 1) k p1) p2)) p3) pos) ρ ds.reverse :=
  EvN.of (pe_revL pe_wp) fun F0 H0 F H σ S Q q => ha F0 H0 F H σ S _ fun x F2 H2 g1 rx => by
    obtain ⟨t, xs, rfl, k2, k3⟩ := rx
    exact ⟨t, xs, rfl, SqL.of k2, fun p hp => q p _ F2 _ (g1.trans (Gr.loose g1.s hp)) (g1.h.none hp) (g1.s.none hp) upd_same k3.reverse⟩
end
end K82
/-! ## part S -/
/-! Statements, loops, comprehensions over data. -/
namespace K82
open PySem PySem.Spec PyProof.Rows L2

/-- a statement's end: it goes on, it returns data, it returns a new list -/
inductive Out where
  | nx (ρ : Rho) | rt (d : Dt) | rn (ds : List Dt) | rk (ρ : Rho) (d : Dt) | rkn (ρ : Rho) (ds : List Dt) | ex (R : Rho → Prop)
def OutOk (K : PySem.W.Frag) (F0 H0 Fs : Hp) (D : Ends) : Out → Prop
  | .nx ρ => ∀ F H σ, Sta K F0 H0 F H σ ρ → Ex Fs F → D.nx σ H
  | .rt d => ∀ v F H, Gr F0 H0 F H → Den K F d v → D.rt v H
  | .rn ds => ∀ l xs F H, Gr F0 H0 F H → H0 l = none → F l = none → H l = some (.lst xs) → DenL K F ds xs → D.rt (.ref l) H
  | .ex R => ∀ ρ F H σ, R ρ → Sta K F0 H0 F H σ ρ → Ex Fs F → D.nx σ H
  | .rk ρ d => ∀ v F H σ, Sta K F0 H0 F H σ ρ → Den K F d v → D.rt v H
  | .rkn ρ ds => ∀ l xs F H σ, Sta K F0 H0 F H σ ρ → (∀ i s, ρ[i]? = some (some s) → Own σ i s l → False) → H0 l = none → F l = none → H l = some (.lst xs) → DenL K F ds xs → D.rt (.ref l) H
def Out.ret : Out → Bool
  | .nx _ => false
  | .ex _ => false
  | _ => true
theorem OutOk.mono {K : PySem.W.Frag} {F0 H0 F F2 : Hp} {D : Ends} {o : Out} (h : OutOk K F0 H0 F D o) (e : Ex F F2) : OutOk K F0 H0 F2 D o := by
  cases o with
  | nx ρ => exact fun F' H' σ' S' e' => h F' H' σ' S' (e.trans e')
  | rt d => exact h
  | rn ds => exact h
  | rk r d => exact h
  | rkn r ds => exact h
  | ex R => exact fun ρ F' H' σ' r' S' e' => h ρ F' H' σ' r' S' (e.trans e')
theorem OutOk.swap {K : PySem.W.Frag} {F0 H0 F : Hp} {D : Ends} {o : Out} (h : OutOk K F0 H0 F D o) (r : o.ret = true) (n b c : L2.St → Hp → Prop) : OutOk K F0 H0 F { D with nx := n, bk := b, ct := c } o := by
  cases o with
  | nx ρ => cases r
  | rt d => exact h
  | rn ds => exact h
  | rk r d => exact h
  | rkn r ds => exact h
  | ex R => cases r
def BsD (K : PySem.W.Frag) (t : TS) (ρ : Rho) (o : Out) : Prop := ∀ F0 H0 F H σ D, Sta K F0 H0 F H σ ρ → OutOk K F0 H0 F D o → t D σ H
abbrev XS (X : Cx) (st : Stmt) (ρ : Rho) (o : Out) : Prop := BsD X.K (wpS X st) ρ o
abbrev XSs (X : Cx) (st : List Stmt) (ρ : Rho) (o : Out) : Prop := BsD X.K (wpSs X st) ρ o
section
variable {X : Cx} {ρ ρ1 ρ2 : Rho} {e a b c : Expr} {es : List Expr} {pos p pos' apos cpos : Pos} {d d1 d2 : Dt} {ds ds1 ds2 : List Dt} {x y : Str} {st : Stmt} {sts sts2 : List Stmt} {o : Out}
theorem BsD.of {t : TS} (h : PS X st t) (ev : BsD X.K t ρ o) : XS X st ρ o := fun F0 H0 F H σ D S q => wpS_of h (ev F0 H0 F H σ D S q)
theorem s_nil : XSs X [] ρ (.nx ρ) := fun F0 H0 F H σ D S q => wpSs_of pss_nil (q F H σ S (Ex.refl _))
theorem s_one (h : XS X st ρ o) : XSs X [st] ρ o := fun F0 H0 F H σ D S q => wpSs_of (pss_one ps_wp) (h F0 H0 F H σ D S q)
theorem s_cons (h : XS X st ρ (.nx ρ1)) (t : XSs X sts ρ1 o) : XSs X (st :: sts) ρ o := fun F0 H0 F H σ D S q => wpSs_of (pss_cons ps_wp pss_wp) (h F0 H0 F H σ _ S fun F2 H2 σ2 S2 e2 => t F0 H0 F2 H2 σ2 D S2 (q.mono e2))
theorem s_end (h : XS X st ρ o) (r : o.ret = true) : XSs X (st :: sts) ρ o := fun F0 H0 F H σ D S q => wpSs_of (pss_cons ps_wp pss_wp) (h F0 H0 F H σ _ S (q.swap r _ _ _))
/-- a list of this def's own is changed no more -/
theorem s_freeze (i : Nat) (e : ρ[i]? = some (some (.mu ds))) (h : XSs X sts (ρ.set i (some (.im (.lst ds)))) o) : XSs X sts ρ o := fun F0 H0 F H σ D S q => by
  obtain ⟨v, h1, l, xs, rfl, h3, h4, h5, h6⟩ := S.ok i _ e
  obtain ⟨gr, S2⟩ := S.freeze e rfl h1 h5 (d := .lst ds) (den_lst upd_same (h6.mono (Ex.new h4)))
  exact h F0 H0 _ H σ D S2 (q.mono (Ex.new h4))
theorem s_freezeI (i : Nat) {C : Addr} {fs : List (Str × Dt)} {t : Option (Addr × Addr)} (e : ρ[i]? = some (some (.mi t C fs))) (h : XSs X sts (ρ.set i (some (.im (.ins C fs)))) o) : XSs X sts ρ o := fun F0 H0 F H σ D S q => by
  obtain ⟨v, h1, l, dx, xs, rfl, h3, h4, h5, h6, _⟩ := S.ok i _ e
  obtain ⟨gr, S2⟩ := S.freeze e rfl h1 h5 (d := .ins C fs) (by simp only [Den]; exact ⟨l, dx, xs, rfl, upd_same, h6.mono (Ex.new h4)⟩)
  exact h F0 H0 _ H σ D S2 (q.mono (Ex.new h4))
theorem s_pass : XS X (.Pass pos) ρ (.nx ρ) := BsD.of ps_pass fun F0 H0 F H σ D S q => q F H σ S (Ex.refl _)
theorem s_expr (h : XE X e ρ d) (hs : swapsWith e none pos.line X.env = pure false := by rfl) : XS X (.Expr e pos) ρ (.nx ρ) :=
  BsD.of (ps_expr pe_wp hs) fun F0 H0 F H σ D S q => h F0 H0 F H σ S _ fun v F2 H2 g _ => q F2 H2 σ (S.mono g) g.f
theorem s_ret (h : XE X e ρ d) : XS X (.Return (some e) pos) ρ (.rt d) :=
  BsD.of (ps_ret pe_wp) fun F0 H0 F H σ D S q => h F0 H0 F H σ S _ fun v F2 H2 g dv => q v F2 H2 (S.g.trans g) dv
theorem s_retN (h : XN X e ρ ds) : XS X (.Return (some e) pos) ρ (.rn ds) :=
  BsD.of (ps_ret pe_wp) fun F0 H0 F H σ D S q => h F0 H0 F H σ S _ fun l xs F2 H2 g h1 h2 h3 h4 => q l xs F2 H2 (S.g.trans g) (S.g.h.none h1) h2 h3 h4
/-- return of a list of this def's own -/
theorem s_retM {i : Nat} (e : ρ[i]? = some (some (.mu ds))) (hN : X.N[i]? = some x := by rfl) (hv : Vis X.env.scope x := by first | exact Or.inl rfl | exact Or.inr (Or.inl rfl) | exact Or.inr (Or.inr rfl)) (hd : (x == ("__debug__" : Str)) = false := by decide)
    (hcd : (x == ("__classdict__" : Str)) = false := by decide) : XS X (.Return (some (.Name x pos')) pos) ρ (.rn ds) :=
  BsD.of (ps_ret (pe_var hN hv hd hcd)) fun F0 H0 F H σ D S q => by
    obtain ⟨v, h1, l, xs, rfl, h3, h4, h5, h6⟩ := S.ok i _ e
    exact ⟨_, h1, q l xs F H S.g h3 h4 h5 h6⟩
/-- return; the slots are told -/
theorem s_retK (h : XE X e ρ d) : XS X (.Return (some e) pos) ρ (.rk ρ d) :=
  BsD.of (ps_ret pe_wp) fun F0 H0 F H σ D S q => h F0 H0 F H σ S _ fun v F2 H2 g dv => q v F2 H2 σ (S.mono g) dv
theorem s_retKN (h : XN X e ρ ds) : XS X (.Return (some e) pos) ρ (.rkn ρ ds) :=
  BsD.of (ps_ret pe_wp) fun F0 H0 F H σ D S q => h F0 H0 F H σ S _ fun l xs F2 H2 g h1 h2 h3 h4 => q l xs F2 H2 σ (S.mono g) (fun i s e o => S.some_ e o h1) (S.g.h.none h1) h2 h3 h4
theorem s_retKM {i : Nat} (e : ρ[i]? = some (some (.mu ds))) (hN : X.N[i]? = some x := by rfl) (hv : Vis X.env.scope x := by first | exact Or.inl rfl | exact Or.inr (Or.inl rfl) | exact Or.inr (Or.inr rfl)) (hd : (x == ("__debug__" : Str)) = false := by decide)
    (hcd : (x == ("__classdict__" : Str)) = false := by decide) : XS X (.Return (some (.Name x pos')) pos) ρ (.rkn (ρ.set i none) ds) :=
  BsD.of (ps_ret (pe_var hN hv hd hcd)) fun F0 H0 F H σ D S q => by
    obtain ⟨v, h1, l, xs, rfl, h3, h4, h5, h6⟩ := S.ok i _ e
    have key : ∀ j s, (ρ.set i none)[j]? = some (some s) → ρ[j]? = some (some s) ∧ i ≠ j := fun j s w => by
      by_cases z : i = j
      · subst z
        rw [List.getElem?_set_self (List.getElem?_eq_some_iff.mp e).1] at w
        cases w
      · rw [List.getElem?_set_ne z] at w; exact ⟨w, z⟩
    exact ⟨_, h1, q l xs F H σ (S.weak (by rw [List.length_set]; exact S.len) fun j s w => ⟨(key j s w).1, rfl⟩) (fun j s w o => S.dis i j _ s l (key j s w).2 e (key j s w).1 (own_mut rfl h1) o) h3 h4 h5 h6⟩
theorem s_retNone : XS X (.Return none pos) ρ (.rt .non) := BsD.of ps_retN fun F0 H0 F H σ D S q => q _ F H S.g (by simp only [Den])
theorem s_if {k : Bool} (hc : XT X c ρ k) (h1 : k = true → XSs X sts ρ o) (h2 : k = false → XSs X sts2 ρ o) : XS X (.If c sts sts2 pos) ρ o :=
  BsD.of (ps_if pt_wp pss_wp pss_wp) fun F0 H0 F H σ D S q => hc F0 H0 F H σ S _ fun F2 H2 g => by
    cases k with
    | true => exact iteT (h1 rfl F0 H0 F2 H2 σ D (S.mono g) (q.mono g.f))
    | false => exact iteF (h2 rfl F0 H0 F2 H2 σ D (S.mono g) (q.mono g.f))
/-! ### names stored -/
theorem s_set {i : Nat} (nd : X.N.Nodup) (h : XE X e ρ d) (hi : X.N[i]? = some x := by rfl) (hl : i < ρ.length := by exact Nat.le_of_ble_eq_true rfl) (hx : Loc X.env.scope x := by first | exact Or.inl rfl | exact Or.inr rfl) (hs : swapsWith e (some (.Name x pos')) pos.line X.env = pure false := by rfl)
    (hf : X.fn x = true ∨ X.env.scope.names.lookup x = some .local := by first | exact .inl rfl | exact .inr rfl) : XS X (.Assign [.Name x pos'] e pos) ρ (.nx (ρ.set i (some (.im d)))) :=
  BsD.of (ps_set nd hi hx pe_wp hs hf) fun F0 H0 F H σ D S q => h F0 H0 F H σ S _ fun v F2 H2 g dv => q F2 H2 _ ((S.mono g).set hl dv) g.f
theorem Sta.setNew {K : PySem.W.Frag} {F0 H0 F H F2 H2 : Hp} {σ : L2.St} {i : Nat} {s : Sv} {l : Addr} (S : Sta K F0 H0 F H σ ρ) (g : Gr F H F2 H2) (hl : i < ρ.length) (h1 : H l = none) (hs : SvOk K H0 F2 H2 s (.ref l)) (hx : s.ox = [] := by rfl) : Sta K F0 H0 F2 H2 (σ.set i (some (.ref l))) (ρ.set i (some s)) :=
  (S.mono g).setM hl hs (fun j t hj e m => S.some_ e m h1) hx
theorem s_setN {i : Nat} (nd : X.N.Nodup) (h : XN X e ρ ds) (hi : X.N[i]? = some x := by rfl) (hl : i < ρ.length := by exact Nat.le_of_ble_eq_true rfl) (hx : Loc X.env.scope x := by first | exact Or.inl rfl | exact Or.inr rfl) (hs : swapsWith e (some (.Name x pos')) pos.line X.env = pure false := by rfl)
    (hf : X.fn x = true ∨ X.env.scope.names.lookup x = some .local := by first | exact .inl rfl | exact .inr rfl) : XS X (.Assign [.Name x pos'] e pos) ρ (.nx (ρ.set i (some (.mu ds)))) :=
  BsD.of (ps_set nd hi hx pe_wp hs hf) fun F0 H0 F H σ D S q => h F0 H0 F H σ S _ fun l xs F2 H2 g h1 h2 h3 h4 => q F2 H2 _ (S.setNew g hl h1 ⟨l, xs, rfl, S.g.h.none h1, h2, h3, h4⟩) g.f
theorem s_setI {i : Nat} {C : Addr} {fs : List (Str × Dt)} (nd : X.N.Nodup) (h : XI X e ρ C fs) (hi : X.N[i]? = some x := by rfl) (hl : i < ρ.length := by exact Nat.le_of_ble_eq_true rfl) (hx : Loc X.env.scope x := by first | exact Or.inl rfl | exact Or.inr rfl) (hs : swapsWith e (some (.Name x pos')) pos.line X.env = pure false := by rfl)
    (hf : X.fn x = true ∨ X.env.scope.names.lookup x = some .local := by first | exact .inl rfl | exact .inr rfl) : XS X (.Assign [.Name x pos'] e pos) ρ (.nx (ρ.set i (some (.mi none C fs)))) :=
  BsD.of (ps_set nd hi hx pe_wp hs hf) fun F0 H0 F H σ D S q => h F0 H0 F H σ S _ fun l dx xs F2 H2 g h1 h2 h3 h4 => q F2 H2 _ (S.setNew g hl h1 ⟨l, dx, xs, rfl, S.g.h.none h1, h2, h3, h4, fun _ z => nomatch z⟩) g.f
/-- a, b = e1, e2 -/
theorem s_par {i j : Nat} {px py pt : Pos} {kt k2 pt2} (nd : X.N.Nodup) (h : XA X [a, b] ρ [d1, d2]) (hi : X.N[i]? = some x := by rfl) (hj : X.N[j]? = some y := by rfl) (hij : i ≠ j := by decide) (hli : i < ρ.length := by exact Nat.le_of_ble_eq_true rfl) (hlj : j < ρ.length := by exact Nat.le_of_ble_eq_true rfl)
    (hx : X.env.scope.names.lookup x = some .local := by rfl) (hy : X.env.scope.names.lookup y = some .local := by rfl) (hw : swappedStores [.Tuple [.Name x px, .Name y py] kt pt] (.Tuple [a, b] k2 pt2) X.env = pure (some [x, y]) := by rfl)
    (hs : swapsWithSole [.Tuple [.Name x px, .Name y py] kt pt] (.Tuple [a, b] k2 pt2) pos.line X.env = pure false := by rfl) (hc : X.calm = true := by rfl) :
    XS X (.Assign [.Tuple [.Name x px, .Name y py] kt pt] (.Tuple [a, b] k2 pt2) pos) ρ (.nx ((ρ.set i (some (.im d1))).set j (some (.im d2)))) :=
  BsD.of (ps_par hc nd hi hj hij hx hy pa_wp hw hs) fun F0 H0 F H σ D S q => h F0 H0 F H σ S _ fun vs F2 H2 g dv => by
    simp only [DenL] at dv
    obtain ⟨v, r, rfl, h1, w, r2, rfl, h2, rfl⟩ := dv
    exact ⟨v, w, rfl, q F2 H2 _ (((S.mono g).set hli h1).set (by rw [List.length_set]; exact hlj) h2) g.f⟩
/-- .. two new lists -/
theorem s_parN {i j : Nat} {px py pt : Pos} {kt k2 pt2} (nd : X.N.Nodup) (ha : XN X a ρ ds1) (hb : XN X b ρ ds2) (hi : X.N[i]? = some x := by rfl) (hj : X.N[j]? = some y := by rfl) (hij : i ≠ j := by decide) (hli : i < ρ.length := by exact Nat.le_of_ble_eq_true rfl) (hlj : j < ρ.length := by exact Nat.le_of_ble_eq_true rfl)
    (hx : X.env.scope.names.lookup x = some .local := by rfl) (hy : X.env.scope.names.lookup y = some .local := by rfl) (hw : swappedStores [.Tuple [.Name x px, .Name y py] kt pt] (.Tuple [a, b] k2 pt2) X.env = pure (some [x, y]) := by rfl)
    (hs : swapsWithSole [.Tuple [.Name x px, .Name y py] kt pt] (.Tuple [a, b] k2 pt2) pos.line X.env = pure false := by rfl) (hc : X.calm = true := by rfl)
    (s1 : starEach [a, b] X.env = (false, eval a X.env) :: starEach [b] X.env := by rfl) (s2 : starEach [b] X.env = (false, eval b X.env) :: starEach [] X.env := by rfl) :
    XS X (.Assign [.Tuple [.Name x px, .Name y py] kt pt] (.Tuple [a, b] k2 pt2) pos) ρ (.nx ((ρ.set i (some (.mu ds1))).set j (some (.mu ds2)))) :=
  BsD.of (ps_par hc nd hi hj hij hx hy (pa_cons pe_wp (pa_cons pe_wp pa_nil s2) s1) hw hs) fun F0 H0 F H σ D S q => ha F0 H0 F H σ S _ fun l xs F2 H2 g h1 h2 h3 h4 =>
    hb F0 H0 F2 H2 σ (S.mono g) _ fun m ys F3 H3 g2 k1 k2 k3 k4 => by
      have hlm : l ≠ m := fun z => by subst z; rw [h3] at k1; cases k1
      have S2 : Sta X.K F0 H0 F3 H3 (σ.set i (some (.ref l))) (ρ.set i (some (.mu ds1))) :=
        S.setNew (g.trans g2) hli h1 ⟨l, xs, rfl, S.g.h.none h1, g2.free h2 h3, g2.h.lst h3, h4.mono g2.f⟩
      refine ⟨_, _, rfl, q F3 H3 _ (S2.setM (by rw [List.length_set]; exact hlj) ⟨m, ys, rfl, (S.mono g).g.h.none k1, k2, k3, k4⟩ fun k t hk e w => ?_) (g.trans g2).f⟩
      by_cases z : i = k
      · subst z
        have hi' : i < σ.length := by rw [S.len]; exact hli
        rw [List.getElem?_set_self hli] at e
        cases e
        rcases w with ⟨_, w⟩ | w
        · rw [List.getElem?_set_self hi'] at w
          cases w
          exact hlm rfl
        · cases w
      · rw [List.getElem?_set_ne z] at e
        exact (S.mono g).some_ e (w.to (List.getElem?_set_ne z).symm) k1
/-! ### targets -/
/-- a target takes data: only the slots vs change -/
def TgD (K : PySem.W.Frag) (g : TG) (vs : List Nat) (d : Dt) (ρ ρ1 : Rho) : Prop := ∀ F0 H0 F H σ, Sta K F0 H0 F H σ ρ → ∀ v, Den K F d v → ∀ Q : L2.St → Hp → Prop,
  (∀ σ', Sta K F0 H0 F H σ' ρ1 → σ'.length = σ.length → (∀ i, i ∉ vs → σ'[i]? = σ[i]?) → Q σ' H) → g v σ H Q
def TgsD (K : PySem.W.Frag) (g : TGs) (vs : List Nat) (ds : List Dt) (ρ ρ1 : Rho) : Prop := ∀ F0 H0 F H σ, Sta K F0 H0 F H σ ρ → ∀ xs, DenL K F ds xs → ∀ Q : L2.St → Hp → Prop,
  (∀ σ', Sta K F0 H0 F H σ' ρ1 → σ'.length = σ.length → (∀ i, i ∉ vs → σ'[i]? = σ[i]?) → Q σ' H) → g xs σ H Q
theorem tg_name {K : PySem.W.Frag} {vs : List Nat} {i : Nat} (hl : i < ρ.length := by exact Nat.le_of_ble_eq_true rfl) (hv : i ∈ vs := by decide) : TgD K (gName i) vs d ρ (ρ.set i (some (.im d))) := fun F0 H0 F H σ S v dv Q q =>
  q _ (S.set hl dv) (List.length_set ..) fun j hj => List.getElem?_set_ne fun z => hj (by subst z; exact hv)
theorem tgs_nil {K : PySem.W.Frag} {vs : List Nat} : TgsD K gNil vs [] ρ ρ := fun F0 H0 F H σ S xs h Q q => by
  simp only [DenL] at h
  exact ⟨h, q σ S rfl fun _ _ => rfl⟩
theorem tgs_cons {K : PySem.W.Frag} {vs : List Nat} {g : TG} {gs : TGs} (h1 : TgD K g vs d ρ ρ1) (h2 : TgsD K gs vs ds ρ1 ρ2) : TgsD K (gCons g gs) vs (d :: ds) ρ ρ2 := fun F0 H0 F H σ S xs h Q q => by
  simp only [DenL] at h
  obtain ⟨v, r, rfl, k1, k2⟩ := h
  exact ⟨v, r, rfl, h1 F0 H0 F H σ S v k1 _ fun σ' S' l1 e1 => h2 F0 H0 F H σ' S' r k2 _ fun σ2 S2 l2 e2 => q σ2 S2 (l2.trans l1) fun i hi => (e2 i hi).trans (e1 i hi)⟩
theorem tg_tup {K : PySem.W.Frag} {vs : List Nat} {gs : TGs} {n : Nat} (hn : ds.length = n) (h : TgsD K gs vs ds ρ ρ1) : TgD K (gTup K n gs) vs (.tup ds) ρ ρ1 := fun F0 H0 F H σ S v dv Q q => by
  simp only [Den] at dv
  obtain ⟨a, xs, rfl, h2, h3⟩ := dv
  exact ⟨a, xs, rfl, ex_t S.ex h2, h3.length.trans hn, h F0 H0 F H σ S xs h3 Q q⟩
/-- target = e -/
theorem s_asg {tg : Expr} {g : TG} {vs : List Nat} (h : XE X e ρ d) (hg : PG X tg g) (ht : TgD X.K g vs d ρ ρ1) (hs : swapsWithSole [tg] e pos.line X.env = pure false := by rfl) (hw : swappedStores [tg] e X.env = pure none := by rfl)
    (h1 : (assignEach [tg] X.env).map (·.2) = [assign tg X.env] := by rfl) : XS X (.Assign [tg] e pos) ρ (.nx ρ1) :=
  BsD.of (ps_asg pe_wp hg hs hw h1) fun F0 H0 F H σ D S q => h F0 H0 F H σ S _ fun v F2 H2 g dv => ht F0 H0 F2 H2 σ (S.mono g) v dv _ fun σ' S' _ _ => q F2 H2 σ' S' g.f
/-! ### a list of this def's own is changed -/
theorem s_app {i : Nat} (he : ρ[i]? = some (some (.mu ds))) (h : XE X e ρ d) (hz : ds.length ≤ 100000) (hN : X.N[i]? = some x := by rfl) (hv : Vis X.env.scope x := by first | exact Or.inl rfl | exact Or.inr (Or.inl rfl) | exact Or.inr (Or.inr rfl)) (hd : (x == ("__debug__" : Str)) = false := by decide)
    (hcd : (x == ("__classdict__" : Str)) = false := by decide) (hbase : attributeBase (.Name x p) "append" X.env (eval (.Name x p) X.env) = eval (.Name x p) X.env := by rfl)
    (hfew : ((backTo cpos (starEach [e] X.env)).all (fun x => !x.1) && (backToKw cpos (keywordEach [] X.env)).all (fun x => x.1.isSome)
      && decide ([e].length + ([] : List Keyword).length + (if ([] : List Keyword).isEmpty then 0 else 1) < 30)) = true := by rfl)
    (hline : (apos.endLine == cpos.line) = true := by rfl) (hs : starEach [e] X.env = (false, eval e X.env) :: starEach [] X.env := by rfl) (hplain : (backTo cpos (starEach [] X.env)).any (·.1) = false := by rfl)
    (hsw : swapsWith (.Call (.Attribute (.Name x p) "append" apos) [e] [] cpos) none pos.line X.env = pure false := by rfl) :
    XS X (.Expr (.Call (.Attribute (.Name x p) "append" apos) [e] [] cpos) pos) ρ (.nx (ρ.set i (some (.mu (ds ++ [d]))))) :=
  BsD.of (ps_expr (pe_bm PySem.F.plainAttrs_list PySem.F.slot_list_append PySem.F.type_list_append mt_append (pe_var hN hv hd hcd) (pa_cons pe_wp pa_nil hs) hbase hfew hline hs hplain) hsw) fun F0 H0 F H σ D S q => by
    obtain ⟨v, h1, l, xs, rfl, h3, h4, h5, h6⟩ := S.ok i _ he
    refine ⟨_, h1, .inl ⟨rfl, _, SqL.of h5⟩, h F0 H0 F H σ S _ fun v F2 H2 g dv => ?_⟩
    have h4' := g.free h4 h5
    refine ⟨l, xs, v, rfl, rfl, g.h.lst h5, Nat.lt_of_le_of_lt (by rw [h6.length]; exact hz) (by decide), q F2 _ σ ((S.mono g).write he rfl h1 ⟨l, _, rfl, h3, h4', upd_same, (h6.mono g.f).append (DenL.cons dv DenL.nil)⟩) g.f⟩
theorem s_ext {i : Nat} (he : ρ[i]? = some (some (.mu ds))) (h : XR X e ρ ds1) (hz : ds.length + ds1.length ≤ 100000) (hN : X.N[i]? = some x := by rfl) (hv : Vis X.env.scope x := by first | exact Or.inl rfl | exact Or.inr (Or.inl rfl) | exact Or.inr (Or.inr rfl)) (hd : (x == ("__debug__" : Str)) = false := by decide)
    (hcd : (x == ("__classdict__" : Str)) = false := by decide) (hbase : attributeBase (.Name x p) "extend" X.env (eval (.Name x p) X.env) = eval (.Name x p) X.env := by rfl)
    (hfew : ((backTo cpos (starEach [e] X.env)).all (fun x => !x.1) && (backToKw cpos (keywordEach [] X.env)).all (fun x => x.1.isSome)
      && decide ([e].length + ([] : List Keyword).length + (if ([] : List Keyword).isEmpty then 0 else 1) < 30)) = true := by rfl)
    (hline : (apos.endLine == cpos.line) = true := by rfl) (hs : starEach [e] X.env = (false, eval e X.env) :: starEach [] X.env := by rfl) (hplain : (backTo cpos (starEach [] X.env)).any (·.1) = false := by rfl)
    (hsw : swapsWith (.Call (.Attribute (.Name x p) "extend" apos) [e] [] cpos) none pos.line X.env = pure false := by rfl) :
    XS X (.Expr (.Call (.Attribute (.Name x p) "extend" apos) [e] [] cpos) pos) ρ (.nx (ρ.set i (some (.mu (ds ++ ds1))))) :=
  BsD.of (ps_expr (pe_bm PySem.F.plainAttrs_list PySem.F.slot_list_extend PySem.F.type_list_extend mt_extend (pe_var hN hv hd hcd) (pa_cons pe_wp pa_nil hs) hbase hfew hline hs hplain) hsw) fun F0 H0 F H σ D S q => by
    obtain ⟨v, h1, l, xs, rfl, h3, h4, h5, h6⟩ := S.ok i _ he
    refine ⟨_, h1, .inl ⟨rfl, _, SqL.of h5⟩, h F0 H0 F H σ S _ fun v F2 H2 g dv => ?_⟩
    have h4' := g.free h4 h5
    obtain ⟨m, ys, rfl, k2, k3⟩ := dv
    refine ⟨l, m, xs, ys, rfl, rfl, g.h.lst h5, k2, Nat.le_trans (by rw [h6.length, k3.length]; exact hz) (by decide), q F2 _ σ ((S.mono g).write he rfl h1 ⟨l, _, rfl, h3, h4', upd_same, (h6.mono g.f).append k3⟩) g.f⟩
/-- x[k] = e -/
theorem s_item {i j : Nat} {k : Expr} {z : Int} (he : ρ[i]? = some (some (.mu ds))) (h : XE X e ρ d) (hk : XE X k ρ (.int z)) (hj : ixN ds.length z = some j) (hN : X.N[i]? = some x := by rfl) (hv : Vis X.env.scope x := by first | exact Or.inl rfl | exact Or.inr (Or.inl rfl) | exact Or.inr (Or.inr rfl)) (hd : (x == ("__debug__" : Str)) = false := by decide)
    (hcd : (x == ("__classdict__" : Str)) = false := by decide)
    (ha : ∀ v, assign (.Subscript (.Name x p) k apos) X.env v = (do
      let ov ← holding [v] (eval (.Name x p) X.env)
      let iv ← holding [v, ov] (eval k X.env)
      standAt apos
      holding [v, ov, iv] (setItem ov iv v)
      release [v, ov, iv] []) := by intro _; rfl)
    (hs : swapsWithSole [.Subscript (.Name x p) k apos] e pos.line X.env = pure false := by rfl) (hw : swappedStores [.Subscript (.Name x p) k apos] e X.env = pure none := by rfl)
    (h1 : (assignEach [.Subscript (.Name x p) k apos] X.env).map (·.2) = [assign (.Subscript (.Name x p) k apos) X.env] := by rfl) :
    XS X (.Assign [.Subscript (.Name x p) k apos] e pos) ρ (.nx (ρ.set i (some (.mu (ds.set j d))))) :=
  BsD.of (ps_asg pe_wp (pg_sub (pe_var hN hv hd hcd) pe_wp set_list ha) hs hw h1) fun F0 H0 F H σ D S q => h F0 H0 F H σ S _ fun v F2 H2 g dv => by
    obtain ⟨_, h1, l, xs, rfl, h3, h4, h5, h6⟩ := (S.mono g).ok i _ he
    refine ⟨_, h1, hk F0 H0 F2 H2 σ (S.mono g) _ fun w F3 H3 g2 dw => ?_⟩
    have h4' := g2.free h4 h5
    simp only [Den] at dw
    refine ⟨l, xs, z, j, rfl, dw, g2.h.lst h5, by rw [h6.length]; exact hj, q F3 _ σ ((S.mono (g.trans g2)).write he rfl h1 ⟨l, _, rfl, h3, h4', upd_same, (h6.mono g2.f).set j (dv.mono g2.f)⟩) (g.trans g2).f⟩
/-! ### what is walked -/
/-- over this frozen heap J gives just these, one after another -/
def Wk (K : PySem.W.Frag) (J : It) (F2 : Hp) (ds : List Dt) : Prop := ∀ F' H', Ex F2 F' → Ex F' H' →
  (∀ i d, ds[i]? = some d → J.go i H' ∧ ∀ x H'', J.yld i H' x H'' → ∃ F'', Gr F' H' F'' H'' ∧ Den K F'' d x) ∧ J.stop ds.length H'
def IwD (K : PySem.W.Frag) (wi : TI) (ρ : Rho) (ds : List Dt) : Prop := ∀ F0 H0 F H σ, Sta K F0 H0 F H σ ρ → ∀ R : It → Hp → Prop, (∀ J F2 H2, Gr F H F2 H2 → Wk K J F2 ds → R J H2) → wi σ H R
structure XIt (X : Cx) (tg iter : Expr) (ρ : Rho) (ds : List Dt) : Prop where
  ex : ∃ wi, PI X tg iter wi ∧ IwD X.K wi ρ ds
theorem iw_list {K : PySem.W.Frag} {tl : TE} (h : EvD K tl ρ (.lst ds)) : IwD K (iList K tl) ρ ds := fun F0 H0 F H σ S R q => h F0 H0 F H σ S _ fun v F2 H2 g dv => by
  simp only [Den] at dv
  obtain ⟨a, xs, rfl, h2, h3⟩ := dv
  refine ⟨a, rfl, ⟨xs, SqL.of (g.s _ _ h2)⟩, q _ F2 H2 g fun F' H' e1 e2 => ⟨fun i d hd => ?_, ⟨xs, SqL.of (e2 _ _ (e1 _ _ h2)), Nat.le_of_eq h3.length⟩⟩⟩
  obtain ⟨x, hx, dx⟩ := h3.get hd
  have hl : SqL K H' a xs := SqL.of (e2 _ _ (e1 _ _ h2))
  refine ⟨⟨xs, x, hl, hx⟩, fun y H'' ⟨e, hy⟩ => ?_⟩
  have w := hy xs hl
  rw [hx] at w
  cases w
  subst e
  exact ⟨F', Gr.refl e2, dx.mono e1⟩
theorem iw_tup {K : PySem.W.Frag} {tl : TE} (h : EvD K tl ρ (.tup ds)) : IwD K (iTup K tl) ρ ds := fun F0 H0 F H σ S R q => h F0 H0 F H σ S _ fun v F2 H2 g dv => by
  simp only [Den] at dv
  obtain ⟨a, xs, rfl, h2, h3⟩ := dv
  refine ⟨a, rfl, ⟨xs, ex_t g.s h2⟩, q _ F2 H2 g fun F' H' e1 e2 => ⟨fun i d hd => ?_, ⟨xs, ex_t e2 (ex_t e1 h2), Nat.le_of_eq h3.length⟩⟩⟩
  obtain ⟨x, hx, dx⟩ := h3.get hd
  have hl : SqT K H' a xs := ex_t e2 (ex_t e1 h2)
  refine ⟨⟨xs, x, hl, hx⟩, fun y H'' ⟨e, hy⟩ => ?_⟩
  have w := hy xs hl
  rw [hx] at w
  cases w
  subst e
  exact ⟨F', Gr.refl e2, dx.mono e1⟩
theorem xi_list {tg : Expr} (h : XE X e ρ (.lst ds)) : XIt X tg e ρ ds := ⟨_, pi_list pe_wp, iw_list h⟩
theorem xi_tup {tg : Expr} (h : XE X e ρ (.tup ds)) : XIt X tg e ρ ds := ⟨_, pi_tup pe_wp, iw_tup h⟩
/-- lo, lo + 1, .. n of them -/
def rgD (lo : Int) (n : Nat) : List Dt := (List.range n).map fun (i : Nat) => Dt.int (lo + (i : Int))
theorem rgD_length (lo : Int) (n : Nat) : (rgD lo n).length = n := by unfold rgD; rw [List.length_map, List.length_range]
theorem wk_range {K : PySem.W.Frag} {F2 : Hp} {lo : Int} {n : Nat} : Wk K (Itr lo n) F2 (rgD lo n) := fun F' H' e1 e2 => ⟨fun i d hd => by
  have hi : i < n := by have := (List.getElem?_eq_some_iff.mp hd).1; rw [rgD_length] at this; exact this
  have ed : d = .int (lo + (i : Int)) := by
    unfold rgD at hd
    rw [List.getElem?_map, List.getElem?_range hi] at hd
    exact (Option.some.inj hd).symm
  refine ⟨hi, fun x H'' ⟨e, hx⟩ => ?_⟩
  subst e ed
  exact ⟨F', Gr.refl e2, by simp only [Den]; exact hx⟩, by rw [rgD_length]; exact Nat.le_refl _⟩
theorem xi_range1 {tg : Expr} {n : Int} (hm : X.mg "range" = none) (h : XE X a ρ (.int n)) (hn : n ≤ 100000 := by decide) (h0 : -100000 ≤ n := by decide) (hg : Gl X "range" := by rfl) (hs : starEach [a] X.env = [(false, eval a X.env)] := by rfl) (hs2 : starEach [a] X.env = (false, eval a X.env) :: starEach [] X.env := by rfl) :
    XIt X tg (.Call (.Name "range" p) [a] [] pos) ρ (rgD 0 n.toNat) := ⟨_, pi_range1 hg hm (pa_cons pe_wp pa_nil hs2) hs, fun F0 H0 F H σ S R q => h F0 H0 F H σ S _ fun v F2 H2 g dv => by
  simp only [Den] at dv
  exact ⟨n, by rw [dv], by omega, by omega, q _ F2 H2 g wk_range⟩⟩
theorem xi_range2 {tg : Expr} {lo n : Int} (hm : X.mg "range" = none) (ha : XE X a ρ (.int lo)) (hb : XE X b ρ (.int n)) (hn : (-100000 ≤ lo ∧ lo ≤ 100000) ∧ -100000 ≤ n ∧ n ≤ 100000) (hg : Gl X "range" := by rfl) (hs : starEach [a, b] X.env = [(false, eval a X.env), (false, eval b X.env)] := by rfl) (hs2 : starEach [b] X.env = [(false, eval b X.env)] := by rfl)
    (hs3 : starEach [a, b] X.env = (false, eval a X.env) :: starEach [b] X.env := by rfl) (hs4 : starEach [b] X.env = (false, eval b X.env) :: starEach [] X.env := by rfl) :
    XIt X tg (.Call (.Name "range" p) [a, b] [] pos) ρ (rgD lo (n - lo).toNat) := ⟨_, pi_range2 hg hm (pa_cons pe_wp (pa_cons pe_wp pa_nil hs4) hs3) hs hs2, fun F0 H0 F H σ S R q => ha F0 H0 F H σ S _ fun v F2 H2 g dv => hb F0 H0 F2 H2 σ (S.mono g) _ fun w F3 H3 g2 dw => by
  simp only [Den] at dv dw
  exact ⟨lo, n, by rw [dv, dw], ⟨by omega, by omega, by omega, by omega⟩, q _ F3 H3 (g.trans g2) wk_range⟩⟩
/-- for over data -/
def ForD (K : PySem.W.Frag) (g : TG) (vs : List Nat) (tb : TS) : List Dt → Rho → Out → Prop
  | [], ρ, o => o = .nx ρ
  | d :: ds, ρ, o => ∃ ρ1, TgD K g vs d ρ ρ1 ∧ ((∃ ρ2, BsD K tb ρ1 (.nx ρ2) ∧ ForD K g vs tb ds ρ2 o) ∨ (BsD K tb ρ1 o ∧ o.ret = true))
theorem for_of {K : PySem.W.Frag} {wi : TI} {g : TG} {vs : List Nat} {tb : TS} (hi : IwD K wi ρ ds) (hf : ForD K g vs tb ds ρ o) : BsD K (tFor wi g tb) ρ o := fun F0 H0 F H σ D S q => hi F0 H0 F H σ S _ fun J F2 H2 g2 w => by
  refine ⟨fun i m σ' H' => i + m = ds.length ∧ ∃ ρi F', Sta K F0 H0 F' H' σ' ρi ∧ Ex F2 F' ∧ ForD K g vs tb (ds.drop i) ρi o, ⟨ds.length, by omega, ρ, F2, S.mono g2, Ex.refl _, by rw [List.drop_zero]; exact hf⟩, fun i m σ' H' ⟨em, ρi, F', S', e2, hf'⟩ => ?_⟩
  obtain ⟨wg, ws⟩ := w F' H' e2 S'.ex
  by_cases hlt : i < ds.length
  · obtain ⟨d, hd⟩ : ∃ d, ds[i]? = some d := ⟨ds[i], List.getElem?_eq_getElem hlt⟩
    obtain ⟨go, yl⟩ := wg i d hd
    have ed : ds.drop i = d :: ds.drop (i + 1) := by
      rw [List.drop_eq_getElem_cons hlt]
      rw [List.getElem?_eq_getElem hlt] at hd
      rw [Option.some.inj hd]
    rw [ed] at hf'
    obtain ⟨ρ1, ht, hb⟩ := hf'
    refine .inr ⟨go, fun σ' H' => ∃ m', m' < m ∧ i + 1 + m' = ds.length ∧ ∃ ρi F', Sta K F0 H0 F' H' σ' ρi ∧ Ex F2 F' ∧ ForD K g vs tb (ds.drop (i + 1)) ρi o, fun σ' H' ⟨m', h1, h2, h3⟩ => ⟨m', h1, h2, h3⟩, fun x H'' hy => ?_⟩
    obtain ⟨F'', g3, dx⟩ := yl x H'' hy
    refine ht F0 H0 F'' H'' σ' (S'.mono g3) x dx _ fun σ2 S2 _ _ => ?_
    rcases hb with ⟨ρ2, hb, hr⟩ | ⟨hb, hr⟩
    · exact hb F0 H0 F'' H'' σ2 _ S2 fun F4 H4 σ4 S4 e4 => ⟨m - 1, by omega, by omega, ρ2, F4, S4, (e2.trans g3.f).trans e4, hr⟩
    · exact hb F0 H0 F'' H'' σ2 _ S2 ((q.mono (g2.f.trans (e2.trans g3.f))).swap hr _ _ _)
  · have ei : i = ds.length := by omega
    subst ei
    rw [List.drop_length] at hf'
    have hf'' : o = .nx ρi := hf'
    subst hf''
    exact .inl ⟨ws, q F' H' σ' S' (g2.f.trans e2)⟩
end
end K82
/-! ## part C -/
/-! Loops, comprehensions, calls, instances over data. -/
namespace K82
open PySem PySem.Spec PyProof.Rows L2

section
variable {X : Cx} {ρ ρ1 ρ2 : Rho} {e a b c : Expr} {es : List Expr} {pos p pos' apos cpos : Pos} {d d1 d2 : Dt} {ds ds1 ds2 : List Dt} {x y m : Str} {st : Stmt} {sts sts2 : List Stmt} {o : Out}
theorem s_for {tg iter : Expr} {g : TG} {vs : List Nat} (hi : XIt X tg iter ρ ds) (hg : PG X tg g) (hf : ForD X.K g vs (wpSs X sts) ds ρ o) (hp : PassesOwn (model X.prog X.w) X.A X.env X.xe := by exact PassesOwn.never) (hc : X.calm = true := by rfl)
    (hs : ∀ x, foldedSetIterable iter X.env x = pure x := by intro _; rfl) : XS X (.For tg iter sts [] pos) ρ o := by
  obtain ⟨wi, h1, h2⟩ := hi.ex
  exact BsD.of (ps_for hp hc h1 hg pss_wp hs) (for_of h2 hf)
theorem for_nil {K : PySem.W.Frag} {g : TG} {vs : List Nat} {tb : TS} : ForD K g vs tb [] ρ (.nx ρ) := rfl
theorem for_cons {K : PySem.W.Frag} {g : TG} {vs : List Nat} {tb : TS} (ht : TgD K g vs d ρ ρ1) (hb : BsD K tb ρ1 (.nx ρ2)) (t : ForD K g vs tb ds ρ2 o) : ForD K g vs tb (d :: ds) ρ o := ⟨ρ1, ht, .inl ⟨ρ2, hb, t⟩⟩
theorem for_ret {K : PySem.W.Frag} {g : TG} {vs : List Nat} {tb : TS} (ht : TgD K g vs d ρ ρ1) (hb : BsD K tb ρ1 o) (r : o.ret = true) : ForD K g vs tb (d :: ds) ρ o := ⟨ρ1, ht, .inr ⟨hb, r⟩⟩
/-! ### a test that may change slots -/
def EvTm (K : PySem.W.Frag) (tt : TT) (ρ : Rho) (k : Bool) (ρ' : Rho) : Prop := ∀ F0 H0 F H σ, Sta K F0 H0 F H σ ρ → ∀ Q : Bool → Hp → Prop, (∀ F2 H2, Sta K F0 H0 F2 H2 σ ρ' → Ex F F2 → Q k H2) → tt σ H Q
abbrev XTm (X : Cx) (e : Expr) (ρ : Rho) (k : Bool) (ρ' : Rho) : Prop := EvTm X.K (wpT X e) ρ k ρ'
abbrev XWm (X : Cx) (e : Expr) (ρ : Rho) (k : Bool) (ρ' : Rho) : Prop := EvTm X.K (wpW X e) ρ k ρ'
theorem XT_m {k : Bool} (h : XT X e ρ k) : XTm X e ρ k ρ := fun F0 H0 F H σ S Q q => h F0 H0 F H σ S Q fun F2 H2 g => q F2 H2 (S.mono g) g.f
theorem xm_w {k : Bool} (h : XWm X e ρ k ρ1) : XTm X e ρ k ρ1 := fun F0 H0 F H σ S Q q => wpT_of (pw_wp.pt) (h F0 H0 F H σ S Q q)
theorem xm_or1 {k : Bool} (h : XTm X a ρ k ρ1) : XWm X (.BoolOp .Or [a] pos) ρ k ρ1 := fun F0 H0 F H σ S Q q => wpW_of (pw_or1 pt_wp) (h F0 H0 F H σ S Q q)
theorem xm_orT (h : XTm X a ρ true ρ1) : XWm X (.BoolOp .Or (a :: b :: es) pos) ρ true ρ1 := fun F0 H0 F H σ S Q q => wpW_of (pw_or pt_wp pw_wp) (h F0 H0 F H σ S _ fun F2 H2 S2 e2 => iteT (q F2 H2 S2 e2))
theorem xm_orF {k : Bool} (h : XTm X a ρ false ρ1) (h2 : XWm X (.BoolOp .Or (b :: es) pos) ρ1 k ρ2) : XWm X (.BoolOp .Or (a :: b :: es) pos) ρ k ρ2 := fun F0 H0 F H σ S Q q => wpW_of (pw_or pt_wp pw_wp)
  (h F0 H0 F H σ S _ fun F2 H2 S2 e2 => iteF (h2 F0 H0 F2 H2 σ S2 Q fun F3 H3 S3 e3 => q F3 H3 S3 (e2.trans e3)))
/-! ### while -/
def WhD (K : PySem.W.Frag) (tc : TT) (tb : TS) : Nat → Rho → Out → Prop
  | 0, ρ, o => ∃ ρ1, EvTm K tc ρ false ρ1 ∧ o = .nx ρ1
  | n + 1, ρ, o => ∃ ρ1, EvTm K tc ρ true ρ1 ∧ ((∃ ρ2, BsD K tb ρ1 (.nx ρ2) ∧ WhD K tc tb n ρ2 o) ∨ (BsD K tb ρ1 o ∧ o.ret = true))
theorem s_while {n : Nat} (h : WhD X.K (wpT X c) (wpSs X sts) n ρ o) (hp : PassesOwn (model X.prog X.w) X.A X.env X.xe := by exact PassesOwn.never) : XS X (.While c sts [] pos) ρ o :=
  BsD.of (ps_while hp pt_wp pss_wp) fun F0 H0 F H σ D S q => by
    refine ⟨fun m σ' H' => ∃ ρi F', Sta X.K F0 H0 F' H' σ' ρi ∧ Ex F F' ∧ WhD X.K (wpT X c) (wpSs X sts) m ρi o, ⟨n, ρ, F, S, Ex.refl _, h⟩, fun m σ' H' ⟨ρi, F', S', e', h'⟩ => ?_⟩
    cases m with
    | zero =>
      obtain ⟨ρ1, h1, rfl⟩ := h'
      exact h1 F0 H0 F' H' σ' S' _ fun F2 H2 S2 e2 => iteF (q F2 H2 σ' S2 (e'.trans e2))
    | succ m =>
      obtain ⟨ρ1, h1, h2⟩ := h'
      refine h1 F0 H0 F' H' σ' S' _ fun F2 H2 S2 e2 => iteT ⟨fun σ' H' => ∃ ρi F', Sta X.K F0 H0 F' H' σ' ρi ∧ Ex F F' ∧ WhD X.K (wpT X c) (wpSs X sts) m ρi o, fun σ2 H3 w => ⟨m, Nat.lt_succ_self m, w⟩, ?_⟩
      rcases h2 with ⟨ρ2, hb, hr⟩ | ⟨hb, hr⟩
      · exact hb F0 H0 F2 H2 σ' _ S2 fun F3 H3 σ3 S3 e3 => ⟨ρ2, F3, S3, (e'.trans e2).trans e3, hr⟩
      · exact hb F0 H0 F2 H2 σ' _ S2 ((q.mono (e'.trans e2)).swap hr _ _ _)
/-! ### comprehensions -/
def wipeR (ρ : Rho) : List Nat → Rho
  | [] => ρ
  | v :: vs => (wipeR ρ vs).set v none
theorem wipeR_length (ρ : Rho) : ∀ vs, (wipeR ρ vs).length = ρ.length
  | [] => rfl
  | v :: vs => by unfold wipeR; rw [List.length_set, wipeR_length ρ vs]
theorem wipeR_some {i : Nat} {s : Sv} : ∀ {vs : List Nat}, (wipeR ρ vs)[i]? = some (some s) → ρ[i]? = some (some s) ∧ i ∉ vs
  | [], h => ⟨h, by simp⟩
  | v :: vs, h => by
    unfold wipeR at h
    by_cases z : v = i
    · subst z
      by_cases l : v < (wipeR ρ vs).length
      · rw [List.getElem?_set_self l] at h; cases h
      · rw [List.getElem?_eq_none (by rw [List.length_set]; omega)] at h; cases h
    · rw [List.getElem?_set_ne z] at h
      obtain ⟨h1, h2⟩ := wipeR_some h
      exact ⟨h1, fun w => by
        rcases List.mem_cons.mp w with w | w
        · exact z w.symm
        · exact h2 w⟩
theorem wipe_at {σ : L2.St} {i : Nat} : ∀ {vs : List Nat}, i ∈ vs → i < σ.length → (wipe σ vs)[i]? = some none
  | [], h, _ => nomatch h
  | v :: vs, h, l => by
    unfold wipe
    by_cases z : v = i
    · subst z
      rw [List.getElem?_set_self (by rw [wipe_length]; exact l)]
    · rw [List.getElem?_set_ne z]
      rcases List.mem_cons.mp h with w | w
      · exact absurd w.symm z
      · exact wipe_at w l
theorem wipe_out' {σ : L2.St} {i : Nat} : ∀ {vs : List Nat}, i ∉ vs → (wipe σ vs)[i]? = σ[i]?
  | [], _ => rfl
  | v :: vs, h => by
    have h1 : v ≠ i := fun z => h (by rw [z]; exact List.mem_cons_self)
    unfold wipe
    rw [List.getElem?_set_ne h1]
    exact wipe_out' fun z => h (List.mem_cons_of_mem _ z)
theorem Sta.wipe {K : PySem.W.Frag} {F0 H0 F H : Hp} {σ : L2.St} (S : Sta K F0 H0 F H σ ρ) (vs : List Nat) : Sta K F0 H0 F H (L2.wipe σ vs) (wipeR ρ vs) :=
  S.weak (by rw [wipe_length, wipeR_length, S.len]) fun i s h => by
    obtain ⟨h1, h2⟩ := wipeR_some h
    exact ⟨h1, wipe_out' h2⟩
theorem wipe_back {σ σ2 : L2.St} {vs : List Nat} (hl : σ2.length = (L2.wipe σ vs).length) (h : ∀ i, i ∉ vs → σ2[i]? = (L2.wipe σ vs)[i]?) : L2.wipe σ2 vs = L2.wipe σ vs := by
  apply List.ext_getElem?
  intro i
  by_cases z : i ∈ vs
  · by_cases l : i < σ.length
    · rw [wipe_at z l, wipe_at z (by rw [hl, wipe_length]; exact l)]
    · rw [List.getElem?_eq_none (by rw [wipe_length, hl, wipe_length]; omega), List.getElem?_eq_none (by rw [wipe_length]; omega)]
  · rw [wipe_out' z, h i z]
/-- canonical readings within the block -/
def wpEB (X : Cx) (scope : Scope) (e : Expr) : TE := fun σ H Q => ∀ (s : Shared) (H' : Hp) (C : Addr) (cl : List (Str × Addr)) (fp : List Addr), wpE (X.blk s H' scope (compEnvC scope cl C X.env) fp) e σ H Q
def wpTsB (X : Cx) (scope : Scope) (ifs : List Expr) : TT := fun σ H Q => ∀ (s : Shared) (H' : Hp) (C : Addr) (cl : List (Str × Addr)) (fp : List Addr) (pins : List (Addr × Obj)) (s' : Shared), Inv (X.blk s H' scope (compEnvC scope cl C X.env) fp) pins σ H s' →
  wpAny (model X.prog X.w) X.A (forIn ifs true fun c r => if r = true then do let ok ← isTrue c (compEnvC scope cl C X.env) (eval c (compEnvC scope cl C X.env)); pure (ForInStep.yield ok) else pure (ForInStep.yield r)) (TP (X.blk s H' scope (compEnvC scope cl C X.env) fp) pins σ Q) (fun _ _ => False) s'
abbrev XEB (X : Cx) (scope : Scope) (e : Expr) (ρ : Rho) (d : Dt) : Prop := ∀ (s : Shared) (H' : Hp) (C : Addr) (cl : List (Str × Addr)) (fp : List Addr), XE (X.blk s H' scope (compEnvC scope cl C X.env) fp) e ρ d
abbrev XTB (X : Cx) (scope : Scope) (e : Expr) (ρ : Rho) (k : Bool) : Prop := ∀ (s : Shared) (H' : Hp) (C : Addr) (cl : List (Str × Addr)) (fp : List Addr), XT (X.blk s H' scope (compEnvC scope cl C X.env) fp) e ρ k
/-- one turn after another: what the element gives where the tests hold -/
def LcD (K : PySem.W.Frag) (g : TG) (vs : List Nat) (tt : TT) (te : TE) (ρ : Rho) : List Dt → List Dt → Prop
  | [], outs => outs = []
  | d :: ds, outs => ∃ ρ1, TgD K g vs d (wipeR ρ vs) ρ1 ∧ ((EvT K tt ρ1 true ∧ ∃ v r, EvD K te ρ1 v ∧ outs = v :: r ∧ LcD K g vs tt te ρ ds r) ∨ (EvT K tt ρ1 false ∧ LcD K g vs tt te ρ ds outs))
theorem LcD.length {K : PySem.W.Frag} {g : TG} {vs : List Nat} {tt : TT} {te : TE} : ∀ {ds outs : List Dt}, LcD K g vs tt te ρ ds outs → outs.length ≤ ds.length
  | [], _, h => by have h : _ = [] := h; subst h; exact Nat.le_refl _
  | d :: ds, _, ⟨ρ1, _, h⟩ => by
    rcases h with ⟨_, v, r, _, rfl, h⟩ | ⟨_, h⟩
    · exact Nat.succ_le_succ (LcD.length h)
    · exact Nat.le_succ_of_le (LcD.length h)
theorem lc_of {K : PySem.W.Frag} {wi : TI} {g : TG} {vs : List Nat} {tt : TT} {te : TE} {outs : List Dt} (hi : IwD K wi ρ ds) (hl : ds.length ≤ 100000) (hf : LcD K g vs tt te ρ ds outs) : EvN K (tLc wi g tt te vs) ρ outs := fun F0 H0 F H σ S Q q => hi F0 H0 F H σ S _ fun J F2 H2 g2 w => by
  intro Dl hD
  have hfD : F2 Dl = none := g2.s.none hD
  refine ⟨fun i m H' => i + m = ds.length ∧ ∃ F' acc xs, Gr F2 H2 F' H' ∧ F' Dl = none ∧ H' Dl = some (.lst xs) ∧ DenL K F' acc xs ∧ acc.length ≤ i ∧ ∃ r, outs = acc ++ r ∧ LcD K g vs tt te ρ (ds.drop i) r,
    ⟨ds.length, by omega, F2, [], [], Gr.loose g2.s hD, hfD, upd_same, DenL.nil, Nat.le_refl _, outs, rfl, by rw [List.drop_zero]; exact hf⟩, fun i m H' ⟨em, F', acc, xs, g3, hd, hx, hden, hal, r, eo, hr⟩ => ?_⟩
  obtain ⟨wg, ws⟩ := w F' H' g3.f g3.s
  by_cases hlt : i < ds.length
  · obtain ⟨d, hd'⟩ : ∃ d, ds[i]? = some d := ⟨ds[i], List.getElem?_eq_getElem hlt⟩
    obtain ⟨go, yl⟩ := wg i d hd'
    have ed : ds.drop i = d :: ds.drop (i + 1) := by
      rw [List.drop_eq_getElem_cons hlt]
      rw [List.getElem?_eq_getElem hlt] at hd'
      rw [Option.some.inj hd']
    rw [ed] at hr
    obtain ⟨ρ1, ht, hb⟩ := hr
    refine .inr ⟨go, fun H' => ∃ m', m' < m ∧ i + 1 + m' = ds.length ∧ ∃ F' acc xs, Gr F2 H2 F' H' ∧ F' Dl = none ∧ H' Dl = some (.lst xs) ∧ DenL K F' acc xs ∧ acc.length ≤ i + 1 ∧ ∃ r, outs = acc ++ r ∧ LcD K g vs tt te ρ (ds.drop (i + 1)) r, fun H' ⟨m', h1, h2, h3⟩ => ⟨m', h1, h2, h3⟩, fun x H'' hy => ?_⟩
    obtain ⟨F'', g4, dx⟩ := yl x H'' hy
    have S4 : Sta K F0 H0 F'' H'' (wipe σ vs) (wipeR ρ vs) := ((S.mono g2).mono (g3.trans g4)).wipe vs
    refine ht F0 H0 F'' H'' _ S4 x dx _ fun σ2 S2 l2 e2 => ⟨wipe_back l2 e2, ?_⟩
    have hd4 : F'' Dl = none := g4.free hd hx
    rcases hb with ⟨h1, v, r', hv, er, hr'⟩ | ⟨h1, hr'⟩
    · refine h1 F0 H0 F'' H'' σ2 S2 _ fun F5 H5 g5 => iteT (hv F0 H0 F5 H5 σ2 (S2.mono g5) _ fun y F6 H6 g6 dy => ?_)
      have hd5 : F5 Dl = none := g5.free hd4 (g4.h.lst hx)
      have hx5 := g5.h.lst (g4.h.lst hx)
      have hd6 : F6 Dl = none := g6.free hd5 hx5
      have gg := ((g3.trans g4).trans g5).trans g6
      refine ⟨xs, g6.h.lst hx5, Nat.lt_of_le_of_lt (by rw [hden.length]; omega : xs.length ≤ 100000) (by decide), m - 1, by omega, by omega, F6, acc ++ [v], _, ⟨gg.h.updL hD (g6.h.lst hx5), gg.f, gg.s.upd2 hd6, gg.n⟩, hd6, upd_same, (hden.mono ((g4.trans g5).trans g6).f).append (DenL.cons dy DenL.nil), by rw [List.length_append, List.length_singleton]; omega, r', by rw [eo, er, List.append_assoc]; rfl, hr'⟩
    · refine h1 F0 H0 F'' H'' σ2 S2 _ fun F5 H5 g5 => iteF ?_
      have hd5 : F5 Dl = none := g5.free hd4 (g4.h.lst hx)
      exact ⟨m - 1, by omega, by omega, F5, acc, xs, (g3.trans g4).trans g5, hd5, g5.h.lst (g4.h.lst hx), hden.mono (g4.trans g5).f, by omega, r, eo, hr'⟩
  · have ei : i = ds.length := by omega
    subst ei
    rw [List.drop_length] at hr
    have hr'' : r = [] := hr
    subst hr''
    rw [List.append_nil] at eo
    subst eo
    exact .inl ⟨ws, q Dl xs F' H' (g2.trans g3) (g2.h.none hD) hd hx hden⟩
theorem xn_lc {tg iter elt : Expr} {ifs : List Expr} {scope : Scope} {own : List (Str × Nat)} {g : TG} {outs : List Dt} (nd : X.N.Nodup) (hi : XIt X tg iter ρ ds) (hl : ds.length ≤ 100000) (ok : BlkOk X.N X.env.scope scope own)
    (hg : ∀ (s : Shared) (H : Hp) (C : Addr) (cl : List (Str × Addr)) (fp : List Addr), PG (X.blk s H scope (compEnvC scope cl C X.env) fp) tg g)
    (h : LcD X.K g (own.map (·.2)) (wpTsB X scope ifs) (wpEB X scope elt) ρ ds outs) (hc : X.calm = true := by rfl) (hs : ∀ x, foldedSetIterable iter X.env x = pure x := by intro _; rfl) : XN X (.ListComp elt [⟨tg, iter, ifs, 0⟩] scope pos) ρ outs := by
  obtain ⟨wi, h1, h2⟩ := hi.ex
  exact EvN.of (pe_lc hc nd h1 ok hg (fun s H C cl fp => ⟨fun pins s' σ H' Q I q => q s H C cl fp pins s' I⟩) (fun s H C cl fp => ⟨fun pins s' σ H' Q I q => q s H C cl fp pins s' I⟩) hs) (lc_of h2 hl h)
theorem s_setLc {i : Nat} {py spos : Pos} {tg iter elt : Expr} {ifs : List Expr} {scope : Scope} {own : List (Str × Nat)} {g : TG} {outs : List Dt} (nd : X.N.Nodup) (hi : XIt X tg iter ρ ds) (hl : ds.length ≤ 100000) (ok : BlkOk X.N X.env.scope scope own)
    (hg : ∀ (s : Shared) (H : Hp) (C : Addr) (cl : List (Str × Addr)) (fp : List Addr), PG (X.blk s H scope (compEnvC scope cl C X.env) fp) tg g)
    (h : LcD X.K g (own.map (·.2)) (wpTsB X scope ifs) (wpEB X scope elt) ρ ds outs) (hsw : swapsWith (.ListComp elt [⟨tg, iter, ifs, 0⟩] scope pos) (some (.Name y py)) spos.line X.env = pure true) (hy : X.N[i]? = some y := by rfl) (hli : i < ρ.length := by exact Nat.le_of_ble_eq_true rfl) (hyl : X.env.scope.names.lookup y = some .local := by rfl)
    (hc : X.calm = true := by rfl) (hs : ∀ x, foldedSetIterable iter X.env x = pure x := by intro _; rfl) : XS X (.Assign [.Name y py] (.ListComp elt [⟨tg, iter, ifs, 0⟩] scope pos) spos) ρ (.nx (ρ.set i (some (.mu outs)))) := by
  obtain ⟨wi, h1, h2⟩ := hi.ex
  refine BsD.of (ps_setLc (tt := wpTsB X scope ifs) (te := wpEB X scope elt) hc nd hy hyl hsw h1 ok hg (fun s H C cl fp => ⟨fun pins s' σ H' Q I q => q s H C cl fp pins s' I⟩) (fun s H C cl fp => ⟨fun pins s' σ H' Q I q => q s H C cl fp pins s' I⟩) hs) fun F0 H0 F H σ D S q => ?_
  exact lc_of h2 hl h F0 H0 F H σ S _ fun l xs F2 H2 g h1 h2 h3 h4 => q F2 H2 _ (S.setNew g hli h1 ⟨l, xs, rfl, S.g.h.none h1, h2, h3, h4⟩) g.f
theorem tsB_nil {scope : Scope} : EvT X.K (wpTsB X scope []) ρ true := fun F0 H0 F H σ S Q q s H' C cl fp pins s' I => pts_nil.run pins s' σ H Q I (q F H (Gr.refl S.ex))
theorem tsB_one {scope : Scope} {k : Bool} (h : XTB X scope e ρ k) : EvT X.K (wpTsB X scope [e]) ρ k := fun F0 H0 F H σ S Q q s H' C cl fp pins s' I => (pts_one pt_wp).run pins s' σ H Q I (h s H' C cl fp F0 H0 F H σ S Q q)
theorem eB {scope : Scope} (h : XEB X scope e ρ d) : EvD X.K (wpEB X scope e) ρ d := fun F0 H0 F H σ S Q q s H' C cl fp => h s H' C cl fp F0 H0 F H σ S Q q
theorem lc_nil {K : PySem.W.Frag} {g : TG} {vs : List Nat} {tt : TT} {te : TE} : LcD K g vs tt te ρ [] [] := rfl
theorem lc_cons {K : PySem.W.Frag} {g : TG} {vs : List Nat} {tt : TT} {te : TE} {v : Dt} {outs : List Dt} (ht : TgD K g vs d (wipeR ρ vs) ρ1) (h1 : EvT K tt ρ1 true) (h2 : EvD K te ρ1 v) (t : LcD K g vs tt te ρ ds outs) : LcD K g vs tt te ρ (d :: ds) (v :: outs) := ⟨ρ1, ht, .inl ⟨h1, v, outs, h2, rfl, t⟩⟩
theorem lc_skip {K : PySem.W.Frag} {g : TG} {vs : List Nat} {tt : TT} {te : TE} {outs : List Dt} (ht : TgD K g vs d (wipeR ρ vs) ρ1) (h1 : EvT K tt ρ1 false) (t : LcD K g vs tt te ρ ds outs) : LcD K g vs tt te ρ (d :: ds) outs := ⟨ρ1, ht, .inr ⟨h1, t⟩⟩
/-- [elt for x in ..], no test, over items made by enc -/
theorem lc_map {α : Type} {K : PySem.W.Frag} {g : TG} {vs : List Nat} {tt : TT} {te : TE} (enc v : α → Dt) (r : α → Rho) : ∀ (xs : List α), (∀ x ∈ xs, TgD K g vs (enc x) (wipeR ρ vs) (r x) ∧ EvT K tt (r x) true ∧ EvD K te (r x) (v x)) → LcD K g vs tt te ρ (xs.map enc) (xs.map v)
  | [], _ => rfl
  | x :: xs, h => by
    obtain ⟨h1, h2, h3⟩ := h x List.mem_cons_self
    exact lc_cons h1 h2 h3 (lc_map enc v r xs fun y hy => h y (List.mem_cons_of_mem _ hy))
theorem lc_filter {α : Type} {K : PySem.W.Frag} {g : TG} {vs : List Nat} {tt : TT} {te : TE} (enc v : α → Dt) (k : α → Bool) (r : α → Rho) : ∀ (xs : List α), (∀ x ∈ xs, TgD K g vs (enc x) (wipeR ρ vs) (r x) ∧ EvT K tt (r x) (k x) ∧ (k x = true → EvD K te (r x) (v x))) → LcD K g vs tt te ρ (xs.map enc) ((xs.filter k).map v)
  | [], _ => rfl
  | x :: xs, h => by
    obtain ⟨h1, h2, h3⟩ := h x List.mem_cons_self
    have ih := lc_filter enc v k r xs fun y hy => h y (List.mem_cons_of_mem _ hy)
    cases hk : k x with
    | true =>
      rw [List.filter_cons_of_pos hk]
      rw [hk] at h2
      exact lc_cons h1 h2 (h3 hk) ih
    | false =>
      rw [List.filter_cons_of_neg (by rw [hk]; exact Bool.false_ne_true)]
      rw [hk] at h2
      exact lc_skip h1 h2 ih
/-! ### calls -/
/-- the promise: called with data ds it gives data r -/
def spD (K : PySem.W.Frag) (ds : List Dt) (r : Dt) : Sp := fun vs H Q _ => ∃ F, Ex F H ∧ DenL K F ds vs ∧ ∀ v F2 H2, Gr F H F2 H2 → Den K F2 r v → Q v H2
/-- .. a new list -/
def spN (K : PySem.W.Frag) (ds rs : List Dt) : Sp := fun vs H Q _ => ∃ F, Ex F H ∧ DenL K F ds vs ∧ ∀ l xs F2 H2, Gr F H F2 H2 → H l = none → F2 l = none → H2 l = some (.lst xs) → DenL K F2 rs xs → Q (.ref l) H2
structure Cl (P : Program) (w : World) (K : PySem.W.Frag) (mg : Str → Option Value) (base : Heap) (k : Nat) (x : Str) (sp : Sp) : Prop where
  ex : ∃ (f : Addr) (fd : FuncData) (ps : List Str), FnOk P w K mg base CX0 k f fd ps sp ∧ mg x = some (.ref f) ∧ PySem.W.keepIn K (.ref f) = true ∧ Binds K fd ps []
theorem x_call {k j : Nat} (cl : Cl X.prog X.w X.K X.mg X.base k x (spD X.K ds d)) (hr : Room j X.A) (ha : XA X (e :: es) ρ ds) (hk : k ≤ j := by decide) (hg : Gl X x := by rfl)
    (hdb : (x == ("__debug__" : Str)) = false := by decide) (he : starEach (e :: es) X.env = (false, eval e X.env) :: starEach es X.env := by rfl) (hpl : (backTo pos (starEach es X.env)).any (·.1) = false := by rfl) : XE X (.Call (.Name x p) (e :: es) [] pos) ρ d := by
  obtain ⟨f, fd, ps, h1, h2, h3, h4⟩ := cl.ex
  exact EvD.of (pe_call h1 (hr.mono hk) hg h2 h3 h4 .nil pass0 pa_wp hdb he hpl) fun F0 H0 F H σ S Q q => ha F0 H0 F H σ S _ fun vs F2 H2 g dv => by
    rw [List.append_nil]
    exact ⟨F2, g.s, dv, fun v F3 H3 g3 d3 => q v F3 H3 (g.trans g3) d3⟩
theorem xn_call {k j : Nat} (cl : Cl X.prog X.w X.K X.mg X.base k x (spN X.K ds ds1)) (hr : Room j X.A) (ha : XA X (e :: es) ρ ds) (hk : k ≤ j := by decide) (hg : Gl X x := by rfl)
    (hdb : (x == ("__debug__" : Str)) = false := by decide) (he : starEach (e :: es) X.env = (false, eval e X.env) :: starEach es X.env := by rfl) (hpl : (backTo pos (starEach es X.env)).any (·.1) = false := by rfl) : XN X (.Call (.Name x p) (e :: es) [] pos) ρ ds1 := by
  obtain ⟨f, fd, ps, h1, h2, h3, h4⟩ := cl.ex
  exact EvN.of (pe_call h1 (hr.mono hk) hg h2 h3 h4 .nil pass0 pa_wp hdb he hpl) fun F0 H0 F H σ S Q q => ha F0 H0 F H σ S _ fun vs F2 H2 g dv => by
    rw [List.append_nil]
    exact ⟨F2, g.s, dv, fun l xs F3 H3 g3 k1 k2 k3 k4 => q l xs F3 H3 (g.trans g3) (g.h.none k1) k2 k3 k4⟩
/-- a method -/
structure Mt (P : Program) (w : World) (K : PySem.W.Frag) (mg : Str → Option Value) (base : Heap) (k : Nat) (C : Addr) (m : Str) (sp : Sp) : Prop where
  ex : ∃ (f : Addr) (fd : FuncData) (ps : List Str), Cls K C ∧ Meth K C m f ∧ FnOk P w K mg base CX0 k f fd ps sp ∧ Binds K fd ps []
theorem x_meth {k j : Nat} {C : Addr} {fs : List (Str × Dt)} (mt : Mt X.prog X.w X.K X.mg X.base k C m (spD X.K (.ins C fs :: ds) d)) (hr : Room j X.A) (ho : XE X a ρ (.ins C fs)) (ha : XA X (e :: es) ρ ds) (hno : fs.lookup m = none) (hk : k ≤ j := by decide)
    (hst : starEach (e :: es) X.env = (false, eval e X.env) :: starEach es X.env := by rfl) (hpl : (backTo pos (starEach es X.env)).any (·.1) = false := by rfl) {pl : Sem Bool}
    (ht : eval (.Call (.Attribute a m apos) (e :: es) [] pos) X.env = (do
      let ov ← eval a X.env
      standAt apos.atName
      let (f, first) ← holding [ov] (getMethod ov m pl)
      callWith pos f first (backTo pos (starEach (e :: es) X.env)) (backToKw pos (keywordEach [] X.env))) := by rfl) : XE X (.Call (.Attribute a m apos) (e :: es) [] pos) ρ d := by
  obtain ⟨f, fd, ps, h0, h1, h2, h4⟩ := mt.ex
  refine EvD.of (pe_meth pe_wp h0 h1 h2 (hr.mono hk) h4 .nil pass0 pa_wp hst hpl ht) fun F0 H0 F H σ S Q q => ho F0 H0 F H σ S _ fun v F2 H2 g dv => ?_
  simp only [Den] at dv
  obtain ⟨t, dx, fv, rfl, k1, k2⟩ := dv
  refine ⟨t, dx, fv, rfl, g.s _ _ k1, k2.no hno, ha F0 H0 F2 H2 σ (S.mono g) _ fun vs F3 H3 g3 dvs => ?_⟩
  rw [List.append_nil]
  exact ⟨F3, g3.s, DenL.cons (by simp only [Den]; exact ⟨t, dx, fv, rfl, g3.f _ _ k1, k2.mono g3.f⟩) dvs, fun v F4 H4 g4 d4 => q v F4 H4 ((g.trans g3).trans g4) d4⟩
theorem x_meth0 {k j : Nat} {C : Addr} {fs : List (Str × Dt)} (mt : Mt X.prog X.w X.K X.mg X.base k C m (spD X.K [.ins C fs] d)) (hr : Room j X.A) (ho : XE X a ρ (.ins C fs)) (hno : fs.lookup m = none) (hk : k ≤ j := by decide) {pl : Sem Bool}
    (ht : eval (.Call (.Attribute a m apos) [] [] pos) X.env = (do
      let ov ← eval a X.env
      standAt apos.atName
      let (f, first) ← holding [ov] (getMethod ov m pl)
      callWith pos f first (backTo pos (starEach [] X.env)) (backToKw pos (keywordEach [] X.env))) := by rfl) : XE X (.Call (.Attribute a m apos) [] [] pos) ρ d := by
  obtain ⟨f, fd, ps, h0, h1, h2, h4⟩ := mt.ex
  refine EvD.of (pe_meth0 pe_wp h0 h1 h2 (hr.mono hk) h4 .nil pass0 ht) fun F0 H0 F H σ S Q q => ho F0 H0 F H σ S _ fun v F2 H2 g dv => ?_
  simp only [Den] at dv
  obtain ⟨t, dx, fv, rfl, k1, k2⟩ := dv
  refine ⟨t, dx, fv, rfl, g.s _ _ k1, k2.no hno, ?_⟩
  exact ⟨F2, g.s, DenL.cons (by simp only [Den]; exact ⟨t, dx, fv, rfl, k1, k2⟩) DenL.nil, fun v F4 H4 g4 d4 => q v F4 H4 (g.trans g4) d4⟩
/-! ### attributes -/
theorem x_fld {C : Addr} {f : Str} {fs : List (Str × Dt)} (c : Cls X.K C) (n : NoAttr X.K C f) (h : XE X a ρ (.ins C fs)) (hl : fs.lookup f = some d) (hb : attributeBase a f X.env (eval a X.env) = eval a X.env := by rfl) : XE X (.Attribute a f pos) ρ d :=
  EvD.of (pe_fld pe_wp hb) fun F0 H0 F H σ S Q q => h F0 H0 F H σ S _ fun v F2 H2 g dv => by
    simp only [Den] at dv
    obtain ⟨t, dx, fv, rfl, k1, k2⟩ := dv
    obtain ⟨w, k3, k4⟩ := k2.look hl
    exact ⟨t, C, dx, fv, w, rfl, g.s _ _ k1, c, n, k3, q w F2 H2 g k4⟩
/-- of an instance that still changes -/
theorem x_fldM {i : Nat} {C : Addr} {f : Str} {fs : List (Str × Dt)} {t : Option (Addr × Addr)} (c : Cls X.K C) (n : NoAttr X.K C f) (he : ρ[i]? = some (some (.mi t C fs))) (hl : fs.lookup f = some d) (hN : X.N[i]? = some x := by rfl) (hv : Vis X.env.scope x := by first | exact Or.inl rfl | exact Or.inr (Or.inl rfl) | exact Or.inr (Or.inr rfl)) (hd : (x == ("__debug__" : Str)) = false := by decide)
    (hcd : (x == ("__classdict__" : Str)) = false := by decide) (hb : attributeBase (.Name x p) f X.env (eval (.Name x p) X.env) = eval (.Name x p) X.env := by rfl) : XE X (.Attribute (.Name x p) f pos) ρ d :=
  EvD.of (pe_fld (pe_var hN hv hd hcd) hb) fun F0 H0 F H σ S Q q => by
    obtain ⟨v, h1, l, dx, fv, rfl, h3, h4, h5, h6, _⟩ := S.ok i _ he
    obtain ⟨w, k3, k4⟩ := h6.look hl
    exact ⟨_, h1, l, C, dx, fv, w, rfl, h5, c, n, k3, q w F H (Gr.refl S.ex) k4⟩
theorem s_fldM {i : Nat} {C : Addr} {f : Str} {fs : List (Str × Dt)} {t : Option (Addr × Addr)} (c : Cls X.K C) (n : NoAttr X.K C f) (he : ρ[i]? = some (some (.mi t C fs))) (h : XE X e ρ d) (hfew : fs.length < 1000 := by exact Nat.le_of_ble_eq_true rfl) (hN : X.N[i]? = some x := by rfl) (hv : Vis X.env.scope x := by first | exact Or.inl rfl | exact Or.inr (Or.inl rfl) | exact Or.inr (Or.inr rfl)) (hd : (x == ("__debug__" : Str)) = false := by decide)
    (hcd : (x == ("__classdict__" : Str)) = false := by decide) (hs : swapsWith e (some (.Attribute (.Name x p) f pos')) pos.line X.env = pure false := by rfl) : XS X (.Assign [.Attribute (.Name x p) f pos'] e pos) ρ (.nx (ρ.set i (some (.mi t C (putD f d fs))))) :=
  BsD.of (ps_fld (pe_var hN hv hd hcd) pe_wp hs) fun F0 H0 F H σ D S q => h F0 H0 F H σ S _ fun v F2 H2 g dv => by
    obtain ⟨w, h1, l, dx, fv, rfl, h3, h4, h5, h6, h7⟩ := (S.mono g).ok i _ he
    exact ⟨_, h1, l, C, dx, fv, rfl, h5, c, n, by rw [h6.length]; exact hfew, q F2 _ σ ((S.mono g).write he rfl h1 ⟨l, dx, _, rfl, h3, h4, upd_same, DenF.put dv h6, h7⟩) g.f⟩
/-! ### instances are made -/
def rm (H : Hp) (p : Addr) : Hp := fun b => if b = p then none else H b
theorem rm_same {H : Hp} {p : Addr} : rm H p p = none := by unfold rm; rw [if_pos rfl]
theorem rm_ne {H : Hp} {p b : Addr} (h : b ≠ p) : rm H p b = H b := by unfold rm; rw [if_neg h]
theorem rm_ex {H : Hp} {p : Addr} : Ex (rm H p) H := fun a o h => by
  by_cases z : a = p
  · subst z; rw [rm_same] at h; cases h
  · rw [rm_ne z] at h; exact h
/-- __init__ over data: a new instance gets the attributes fs -/
def spI (K : PySem.W.Frag) (C : Addr) (ds : List Dt) (fs : List (Str × Dt)) : Sp := fun vs H Q _ => ∃ F p dx rest, vs = .ref p :: rest ∧ Ex F H ∧ F p = none ∧ H p = some (.ins C dx []) ∧ DenL K F ds rest ∧
  ∀ fv F2 H2, Gr F (rm H p) F2 H2 → F2 p = none → H2 p = some (.ins C dx fv) → DenF K F2 fs fv → Q .non H2
structure Mk' (P : Program) (w : World) (K : PySem.W.Frag) (mg : Str → Option Value) (base : Heap) (k : Nat) (x : Str) (C : Addr) (sp : Sp) : Prop where
  ex : ∃ (f : Addr) (fd : FuncData) (ps : List Str), Mk K C f ∧ FnOk P w K mg base CX0 k f fd ps sp ∧ mg x = some (.ref C) ∧ Binds K fd ps []
theorem xi_make {k j : Nat} {C : Addr} {fs : List (Str × Dt)} (mk : Mk' X.prog X.w X.K X.mg X.base k x C (spI X.K C ds fs)) (hr : Room j X.A) (ha : XA X (e :: es) ρ ds) (hk : k + 1 ≤ j := by decide) (hg : Gl X x := by rfl)
    (hdb : (x == ("__debug__" : Str)) = false := by decide) (he : starEach (e :: es) X.env = (false, eval e X.env) :: starEach es X.env := by rfl) (hpl : (backTo pos (starEach es X.env)).any (·.1) = false := by rfl) : XI X (.Call (.Name x p) (e :: es) [] pos) ρ C fs := fun F0 H0 F H σ S Q q => by
  obtain ⟨f, fd, ps, h1, h2, h3, h4⟩ := mk.ex
  refine wpE_of (pe_make h1 h2 (hr.mono hk) hg h3 h4 .nil pass0 pa_wp hdb he hpl) (ha F0 H0 F H σ S _ fun vs F2 H2 g dv => ?_)
  intro t dx nt ndx hne
  have ne' : t ≠ dx := Ne.symm hne
  rw [List.append_nil]
  refine ⟨F2, t, dx, vs, rfl, fun b o w => ?_, g.s.none nt, upd_same, dv, fun fv F3 H3 g3 k1 k2 k3 => ⟨rfl, ?_⟩⟩
  · rw [upd_ne (ne_of_none (g.s _ _ w) nt), upd_ne (ne_of_none (g.s _ _ w) ndx)]
    exact g.s _ _ w
  · have key : ∀ b o, H2 b = some o → rm (upd (upd H2 dx (.own t)) t (.ins C dx [])) t b = some o := fun b o w => by
      have b1 : b ≠ t := ne_of_none w nt
      have b2 : b ≠ dx := ne_of_none w ndx
      rw [rm_ne b1, upd_ne b1, upd_ne b2]
      exact w
    have g4 : Gr F2 H2 F3 H3 := ⟨(Ex.t key).trans g3.h, g3.f, g3.s, fun b o w => by
      rcases g3.n b o w with z | z
      · exact .inl z
      · refine .inr ?_
        cases hh : H2 b with
        | none => rfl
        | some u => rw [key b u hh] at z; cases z⟩
    exact q t dx fv F3 H3 (g.trans g4) (g.h.none nt) k1 k2 k3
end
section
variable {X : Cx} {ρ ρ1 ρ2 : Rho} {e a b c : Expr} {es : List Expr} {pos p pos' apos cpos : Pos} {d d1 d2 : Dt} {ds ds1 ds2 : List Dt} {x y m n : Str}
/-! ### built-in functions -/
def RC (K : PySem.W.Frag) (r : List V → Hp → VK → Prop) (ds : List Dt) (d : Dt) : Prop := ∀ F H vs, Ex F H → DenL K F ds vs → ∀ Q : VK, (∀ v F2 H2, Gr F H F2 H2 → Den K F2 d v → Q v H2) → r vs H Q
def RCN (K : PySem.W.Frag) (r : List V → Hp → VK → Prop) (ds ds1 : List Dt) : Prop := ∀ F H vs, Ex F H → DenL K F ds vs → ∀ Q : VK, (∀ l xs F2 H2, Gr F H F2 H2 → H l = none → F2 l = none → H2 l = some (.lst xs) → DenL K F2 ds1 xs → Q (.ref l) H2) → r vs H Q
theorem x_callB {id : String} {r : List V → Hp → VK → Prop} (hc : CallR X (.builtin id) r) (hm : X.mg x = none) (hv : bootBuiltins x = some (.builtin id)) (ha : XA X (e :: es) ρ ds) (hr : RC X.K r ds d) (hg : Gl X x := by rfl) (hn : x ≠ "__name__" := by decide) (hdb : (x == ("__debug__" : Str)) = false := by decide)
    (he : starEach (e :: es) X.env = (false, eval e X.env) :: starEach es X.env := by rfl) (hpl : (backTo pos (starEach es X.env)).any (·.1) = false := by rfl) : XE X (.Call (.Name x p) (e :: es) [] pos) ρ d :=
  EvD.of (pe_callB hc hg hm hv pa_wp hn hdb he hpl) fun F0 H0 F H σ S Q q => ha F0 H0 F H σ S _ fun vs F2 H2 g dv => hr F2 H2 vs g.s dv Q fun v F3 H3 g3 d3 => q v F3 H3 (g.trans g3) d3
theorem xn_callB {id : String} {r : List V → Hp → VK → Prop} (hc : CallR X (.builtin id) r) (hm : X.mg x = none) (hv : bootBuiltins x = some (.builtin id)) (ha : XA X (e :: es) ρ ds) (hr : RCN X.K r ds ds1) (hg : Gl X x := by rfl) (hn : x ≠ "__name__" := by decide) (hdb : (x == ("__debug__" : Str)) = false := by decide)
    (he : starEach (e :: es) X.env = (false, eval e X.env) :: starEach es X.env := by rfl) (hpl : (backTo pos (starEach es X.env)).any (·.1) = false := by rfl) : XN X (.Call (.Name x p) (e :: es) [] pos) ρ ds1 :=
  EvN.of (pe_callB hc hg hm hv pa_wp hn hdb he hpl) fun F0 H0 F H σ S Q q => ha F0 H0 F H σ S _ fun vs F2 H2 g dv => hr F2 H2 vs g.s dv Q fun l xs F3 H3 g3 k1 k2 k3 k4 => q l xs F3 H3 (g.trans g3) (g.h.none k1) k2 k3 k4
theorem x_callTy {T : String} {r : List V → Hp → VK → Prop} (hc : CallR X (.type T) r) (hm : X.mg x = none) (hv : bootBuiltins x = some (.type T)) (ha : XA X (e :: es) ρ ds) (hr : RC X.K r ds d) (hg : Gl X x := by rfl) (hn : x ≠ "__name__" := by decide) (hdb : (x == ("__debug__" : Str)) = false := by decide)
    (he : starEach (e :: es) X.env = (false, eval e X.env) :: starEach es X.env := by rfl) (hpl : (backTo pos (starEach es X.env)).any (·.1) = false := by rfl) : XE X (.Call (.Name x p) (e :: es) [] pos) ρ d :=
  EvD.of (pe_callTy hc hg hm hv pa_wp hn hdb he hpl) fun F0 H0 F H σ S Q q => ha F0 H0 F H σ S _ fun vs F2 H2 g dv => hr F2 H2 vs g.s dv Q fun v F3 H3 g3 d3 => q v F3 H3 (g.trans g3) d3
theorem xn_callTy {T : String} {r : List V → Hp → VK → Prop} (hc : CallR X (.type T) r) (hm : X.mg x = none) (hv : bootBuiltins x = some (.type T)) (ha : XA X (e :: es) ρ ds) (hr : RCN X.K r ds ds1) (hg : Gl X x := by rfl) (hn : x ≠ "__name__" := by decide) (hdb : (x == ("__debug__" : Str)) = false := by decide)
    (he : starEach (e :: es) X.env = (false, eval e X.env) :: starEach es X.env := by rfl) (hpl : (backTo pos (starEach es X.env)).any (·.1) = false := by rfl) : XN X (.Call (.Name x p) (e :: es) [] pos) ρ ds1 :=
  EvN.of (pe_callTy hc hg hm hv pa_wp hn hdb he hpl) fun F0 H0 F H σ S Q q => ha F0 H0 F H σ S _ fun vs F2 H2 g dv => hr F2 H2 vs g.s dv Q fun l xs F3 H3 g3 k1 k2 k3 k4 => q l xs F3 H3 (g.trans g3) (g.h.none k1) k2 k3 k4
/-- of one list that may be read (it may still change) -/
theorem x_callBR {id : String} {r : List V → Hp → VK → Prop} (hc : CallR X (.builtin id) r) (hm : X.mg x = none) (hv : bootBuiltins x = some (.builtin id)) (ha : XR X e ρ ds) (hr : ∀ F H a xs, Ex F H → H a = some (.lst xs) → DenL X.K F ds xs → ∀ Q : VK, (∀ v F2 H2, Gr F H F2 H2 → Den X.K F2 d v → Q v H2) → r [.ref a] H Q) (hg : Gl X x := by rfl) (hn : x ≠ "__name__" := by decide) (hdb : (x == ("__debug__" : Str)) = false := by decide)
    (hs : starEach [e] X.env = (false, eval e X.env) :: starEach [] X.env := by rfl) (hpl : (backTo pos (starEach [] X.env)).any (·.1) = false := by rfl) : XE X (.Call (.Name x p) [e] [] pos) ρ d :=
  EvD.of (pe_callB hc hg hm hv (pa_cons pe_wp pa_nil hs) hn hdb hs hpl) fun F0 H0 F H σ S Q q => ha F0 H0 F H σ S _ fun v F2 H2 g rv => by
    obtain ⟨a, xs, rfl, k1, k2⟩ := rv
    exact hr F2 H2 a xs g.s k1 k2 Q fun v F3 H3 g3 d3 => q v F3 H3 (g.trans g3) d3
theorem x_callTyR {T : String} {r : List V → Hp → VK → Prop} (hc : CallR X (.type T) r) (hm : X.mg x = none) (hv : bootBuiltins x = some (.type T)) (ha : XR X e ρ ds) (hr : ∀ F H a xs, Ex F H → H a = some (.lst xs) → DenL X.K F ds xs → ∀ Q : VK, (∀ v F2 H2, Gr F H F2 H2 → Den X.K F2 d v → Q v H2) → r [.ref a] H Q) (hg : Gl X x := by rfl) (hn : x ≠ "__name__" := by decide) (hdb : (x == ("__debug__" : Str)) = false := by decide)
    (hs : starEach [e] X.env = (false, eval e X.env) :: starEach [] X.env := by rfl) (hpl : (backTo pos (starEach [] X.env)).any (·.1) = false := by rfl) : XE X (.Call (.Name x p) [e] [] pos) ρ d :=
  EvD.of (pe_callTy hc hg hm hv (pa_cons pe_wp pa_nil hs) hn hdb hs hpl) fun F0 H0 F H σ S Q q => ha F0 H0 F H σ S _ fun v F2 H2 g rv => by
    obtain ⟨a, xs, rfl, k1, k2⟩ := rv
    exact hr F2 H2 a xs g.s k1 k2 Q fun v F3 H3 g3 d3 => q v F3 H3 (g.trans g3) d3
theorem xa_one (h : XE X e ρ d) (hs : starEach [e] X.env = (false, eval e X.env) :: starEach [] X.env := by rfl) : XA X [e] ρ [d] := xa_cons h xa_nil hs
/-- len -/
theorem x_lenR (hm : X.mg "len" = none) (h : XR X e ρ ds) (hg : Gl X "len" := by rfl) (hs : starEach [e] X.env = (false, eval e X.env) :: starEach [] X.env := by rfl) (hpl : (backTo pos (starEach [] X.env)).any (·.1) = false := by rfl) : XE X (.Call (.Name "len" p) [e] [] pos) ρ (.int (ds.length : Int)) :=
  x_callBR call_len_seq hm PySem.boot_len h (fun F H a xs e k1 k2 Q q => ⟨a, xs, rfl, .inl (SqL.of k1), by rw [k2.length]; exact q _ F H (Gr.refl e) (by simp only [Den])⟩) hg (by decide) (by decide) hs hpl
theorem x_lenT (hm : X.mg "len" = none) (h : XE X e ρ (.tup ds)) (hg : Gl X "len" := by rfl) (hs : starEach [e] X.env = (false, eval e X.env) :: starEach [] X.env := by rfl) (hpl : (backTo pos (starEach [] X.env)).any (·.1) = false := by rfl) : XE X (.Call (.Name "len" p) [e] [] pos) ρ (.int (ds.length : Int)) :=
  x_callB call_len_seq hm PySem.boot_len (xa_one h hs) (fun F H vs e k Q q => by
    simp only [DenL, Den] at k
    obtain ⟨v, r, rfl, ⟨a, xs, rfl, k2, k3⟩, rfl⟩ := k
    exact ⟨a, xs, rfl, .inr (ex_t e k2), by rw [k3.length]; exact q _ F H (Gr.refl e) (by simp only [Den])⟩) hg (by decide) (by decide) hs hpl
/-- tuple(a list) -/
theorem x_tupOf (hm : X.mg "tuple" = none) (h : XR X e ρ ds) (hg : Gl X "tuple" := by rfl) (hs : starEach [e] X.env = (false, eval e X.env) :: starEach [] X.env := by rfl) (hpl : (backTo pos (starEach [] X.env)).any (·.1) = false := by rfl) : XE X (.Call (.Name "tuple" p) [e] [] pos) ρ (.tup ds) :=
  x_callTyR call_tuple_of hm boot_tuple h (fun F H a xs e k1 k2 Q q => ⟨a, xs, rfl, .inl ⟨SqL.of k1, fun l hl => q _ _ _ (Gr.new e hl) (den_tup st_new (k2.mono (Ex.new (e.none hl))))⟩⟩) hg (by decide) (by decide) hs hpl
/-- list(a tuple) -/
theorem xn_listOf (hm : X.mg "list" = none) (h : XE X e ρ (.tup ds)) (hg : Gl X "list" := by rfl) (hs : starEach [e] X.env = (false, eval e X.env) :: starEach [] X.env := by rfl) (hpl : (backTo pos (starEach [] X.env)).any (·.1) = false := by rfl) : XN X (.Call (.Name "list" p) [e] [] pos) ρ ds :=
  xn_callTy call_list_of hm (by decide +kernel) (xa_one h hs) (fun F H vs e k Q q => by
    simp only [DenL, Den] at k
    obtain ⟨v, r, rfl, ⟨a, xs, rfl, k2, k3⟩, rfl⟩ := k
    exact ⟨a, xs, rfl, .inr (ex_t e k2), fun l hl => q l xs F _ (Gr.loose e hl) hl (e.none hl) upd_same k3⟩) hg (by decide) (by decide) hs hpl
/-- all(a list of bools) -/
theorem x_all {bs : List Bool} (hm : X.mg "all" = none) (h : XR X e ρ (bs.map .bl)) (hc : X.calm = true := by rfl) (hg : Gl X "all" := by rfl) (hs : starEach [e] X.env = (false, eval e X.env) :: starEach [] X.env := by rfl) (hpl : (backTo pos (starEach [] X.env)).any (·.1) = false := by rfl) : XE X (.Call (.Name "all" p) [e] [] pos) ρ (.bl (bs.all id)) :=
  x_callBR (cr_all hc) hm (by decide +kernel) h (fun F H a xs e k1 k2 Q q => ⟨a, bs, rfl, by rw [← k2.bls]; exact SqL.of k1, q _ F H (Gr.refl e) (by simp only [Den])⟩) hg (by decide) (by decide) hs hpl
/-- min, max of two -/
theorem x_min2 {i j : Int} (hm : X.mg "min" = none) (h : XA X [a, b] ρ [.int i, .int j]) (hc : X.calm = true := by rfl) (hg : Gl X "min" := by rfl) (hs : starEach [a, b] X.env = (false, eval a X.env) :: starEach [b] X.env := by rfl) (hpl : (backTo pos (starEach [b] X.env)).any (·.1) = false := by rfl) : XE X (.Call (.Name "min" p) [a, b] [] pos) ρ (.int (if j < i then j else i)) :=
  x_callB (call_min2 hc) hm (by decide +kernel) h (fun F H vs e k Q q => by
    simp only [DenL, Den] at k
    obtain ⟨v, r, rfl, rfl, w, r2, rfl, rfl, rfl⟩ := k
    exact ⟨i, j, rfl, q _ F H (Gr.refl e) (by simp only [Den])⟩) hg (by decide) (by decide) hs hpl
theorem x_max2 {i j : Int} (hm : X.mg "max" = none) (h : XA X [a, b] ρ [.int i, .int j]) (hc : X.calm = true := by rfl) (hg : Gl X "max" := by rfl) (hs : starEach [a, b] X.env = (false, eval a X.env) :: starEach [b] X.env := by rfl) (hpl : (backTo pos (starEach [b] X.env)).any (·.1) = false := by rfl) : XE X (.Call (.Name "max" p) [a, b] [] pos) ρ (.int (if j > i then j else i)) :=
  x_callB (call_max2 hc) hm (by decide +kernel) h (fun F H vs e k Q q => by
    simp only [DenL, Den] at k
    obtain ⟨v, r, rfl, rfl, w, r2, rfl, rfl, rfl⟩ := k
    exact ⟨i, j, rfl, q _ F H (Gr.refl e) (by simp only [Den])⟩) hg (by decide) (by decide) hs hpl
/-- isinstance of a built-in class -/
def Dt.ty : Dt → Option String
  | .bl _ => some "bool"
  | .int _ => some "int"
  | .str _ => some "str"
  | .lst _ => some "list"
  | .tup _ => some "tuple"
  | _ => none
theorem Den.tyx {K : PySem.W.Frag} {F H : Hp} {v : V} {T : String} (e : Ex F H) (h : Den K F d v) (t : d.ty = some T) : TyX K H v (.type T) := by
  cases d <;> simp only [Dt.ty] at t <;> first | (cases t; done) | skip
  · cases t; simp only [Den] at h; subst h; exact .base (.bl _)
  · cases t; simp only [Den] at h; subst h; exact .base (.int _)
  · cases t; simp only [Den] at h; subst h; exact .base (.str _)
  · cases t; simp only [Den] at h
    obtain ⟨a, xs, rfl, k1, _⟩ := h
    exact .base (.lst (e _ _ k1))
  · cases t; simp only [Den] at h
    obtain ⟨a, xs, rfl, k1, _⟩ := h
    rcases k1 with (k1 | ⟨o, k1⟩) | ⟨o, its, n, k1, k2, _⟩
    · exact .base (.tup (e _ _ k1))
    · exact .fTuple (e _ _ k1)
    · exact .kTuple k1 k2
theorem x_isi {T S : String} {k : Bool} (hm : X.mg "isinstance" = none) (hm2 : X.mg n = none) (hv2 : bootBuiltins n = some (.type S)) (h : XE X a ρ d) (t : d.ty = some T) (hk : kitB T S = some k) (hg : Gl X "isinstance" := by rfl) (hg2 : Gl X n := by rfl) (hn2 : n ≠ "__name__" := by decide) (hdb2 : (n == ("__debug__" : Str)) = false := by decide)
    (hs : starEach [a, .Name n pos'] X.env = (false, eval a X.env) :: starEach [.Name n pos'] X.env := by rfl) (hs2 : starEach [.Name n pos'] X.env = (false, eval (.Name n pos') X.env) :: starEach [] X.env := by rfl) (hpl : (backTo pos (starEach [.Name n pos'] X.env)).any (·.1) = false := by rfl) :
    XE X (.Call (.Name "isinstance" p) [a, .Name n pos'] [] pos) ρ (.bl k) :=
  EvD.of (pe_callB call_isi hg hm (by decide +kernel) (pa_cons pe_wp (pa_cons (pe_bltn hg2 hm2 hv2 (v := .ty S) rfl hn2 hdb2) pa_nil hs2) hs) (by decide) (by decide) hs hpl) fun F0 H0 F H σ S' Q q => h F0 H0 F H σ S' _ fun v F2 H2 g dv =>
    ⟨v, .ty S, .type T, .type S, k, rfl, .ty S, dv.tyx g.s t, kit_ty hk, q _ F2 H2 g (by simp only [Den])⟩
/-- list(range(a, b)), tuple(range(b)) -/
theorem rg_den {K : PySem.W.Frag} {F : Hp} (a b : Int) : DenL K F (rgD a (b - a).toNat) (rgV a b) := by
  unfold rgD rgV
  have : ∀ l : List Nat, DenL K F (l.map fun (i : Nat) => Dt.int (a + (i : Int))) (l.map fun i => V.int (a + (i : Nat))) := fun l => by
    induction l with
    | nil => exact DenL.nil
    | cons i l ih => exact DenL.cons (by simp only [Den]) ih
  exact this _
theorem xn_listRg1 {i : Int} (hm : X.mg "list" = none) (hm2 : X.mg "range" = none) (h : XE X a ρ (.int i)) (h0 : 0 ≤ i) (h1 : i ≤ 16777216) (hc : X.calm = true := by rfl) (hg : Gl X "list" := by rfl) (hg2 : Gl X "range" := by rfl) (hs : starEach [a] X.env = (false, eval a X.env) :: starEach [] X.env := by rfl)
    (na : starEach [.Call (.Name "range" p) [a] [] pos'] X.env = (false, eval (.Call (.Name "range" p) [a] [] pos') X.env) :: starEach [] X.env := by rfl) :
    XN X (.Call (.Name "list" cpos) [.Call (.Name "range" p) [a] [] pos'] [] pos) ρ (rgD 0 i.toNat) :=
  EvN.of (pe_listRg hc hg hm (prg_1 hg2 hm2 pe_wp hs) na) fun F0 H0 F H σ S Q q => h F0 H0 F H σ S _ fun v F2 H2 g dv => by
    simp only [Den] at dv
    have hh := rg_den (K := X.K) (F := F2) 0 i
    rw [Int.sub_zero] at hh
    exact ⟨i, dv, RgOk.of_le (Int.le_refl 0) h1 (by decide) h0, fun l hl => q l _ F2 _ (g.trans (Gr.loose g.s hl)) (g.h.none hl) (g.s.none hl) upd_same hh⟩
theorem xn_listRg2 {i j : Int} (hm : X.mg "list" = none) (hm2 : X.mg "range" = none) (h : XE X a ρ (.int i)) (h' : XE X b ρ (.int j)) (h0 : 0 ≤ i) (h1 : j ≤ 16777216) (h2 : i ≤ 16777216) (h3 : 0 ≤ j) (hc : X.calm = true := by rfl) (hg : Gl X "list" := by rfl) (hg2 : Gl X "range" := by rfl)
    (hs : starEach [a, b] X.env = (false, eval a X.env) :: starEach [b] X.env := by rfl) (hs2 : starEach [b] X.env = (false, eval b X.env) :: starEach [] X.env := by rfl) (hp : (backTo pos' (starEach [b] X.env)).any (·.1) = false := by rfl)
    (na : starEach [.Call (.Name "range" p) [a, b] [] pos'] X.env = (false, eval (.Call (.Name "range" p) [a, b] [] pos') X.env) :: starEach [] X.env := by rfl) :
    XN X (.Call (.Name "list" cpos) [.Call (.Name "range" p) [a, b] [] pos'] [] pos) ρ (rgD i (j - i).toNat) :=
  EvN.of (pe_listRg hc hg hm (prg_2 hg2 hm2 pe_wp pe_wp hs hs2 hp) na) fun F0 H0 F H σ S Q q => h F0 H0 F H σ S _ fun v F2 H2 g dv => h' F0 H0 F2 H2 σ (S.mono g) _ fun w F3 H3 g2 dw => by
    simp only [Den] at dv dw
    exact ⟨i, j, dv, dw, RgOk.of_le h0 h1 h2 h3, fun l hl => q l _ F3 _ ((g.trans g2).trans (Gr.loose g2.s hl)) ((g.trans g2).h.none hl) (g2.s.none hl) upd_same (rg_den i j)⟩
theorem x_tupRg1 {i : Int} (hm : X.mg "tuple" = none) (hm2 : X.mg "range" = none) (h : XE X a ρ (.int i)) (h0 : 0 ≤ i) (h1 : i ≤ 16777216) (hc : X.calm = true := by rfl) (hg : Gl X "tuple" := by rfl) (hg2 : Gl X "range" := by rfl) (hs : starEach [a] X.env = (false, eval a X.env) :: starEach [] X.env := by rfl)
    (na : starEach [.Call (.Name "range" p) [a] [] pos'] X.env = (false, eval (.Call (.Name "range" p) [a] [] pos') X.env) :: starEach [] X.env := by rfl) :
    XE X (.Call (.Name "tuple" cpos) [.Call (.Name "range" p) [a] [] pos'] [] pos) ρ (.tup (rgD 0 i.toNat)) :=
  EvD.of (pe_tupRg hc hg hm (prg_1 hg2 hm2 pe_wp hs) na) fun F0 H0 F H σ S Q q => h F0 H0 F H σ S _ fun v F2 H2 g dv => by
    simp only [Den] at dv
    have hh := fun F => rg_den (K := X.K) (F := F) 0 i
    rw [Int.sub_zero] at hh
    exact ⟨i, dv, RgOk.of_le (Int.le_refl 0) h1 (by decide) h0, fun l hl => q _ _ _ (g.trans (Gr.new g.s hl)) (den_tup st_new (hh _))⟩
/-- x in a list or tuple of flat data -/
def Dt.flat : Dt → Bool := Dt.sc
theorem Den.flatL {K : PySem.W.Frag} {F : Hp} : ∀ {ds : List Dt} {xs : List V}, DenL K F ds xs → ds.all Dt.sc = true → xs = ds.map Dt.v
  | [], _, h, _ => by simp only [DenL] at h; exact h
  | d :: ds, _, h, s => by
    simp only [DenL] at h
    obtain ⟨x, r, rfl, h1, h2⟩ := h
    rw [List.all_cons, Bool.and_eq_true] at s
    rw [h1.sc s.1, Den.flatL h2 s.2]
    rfl
theorem flat_v (h : d.sc = true) : flatV d.v = true := by cases d <;> first | rfl | (cases h; done)
theorem flat_vs : ∀ {ds : List Dt}, ds.all Dt.sc = true → (ds.map Dt.v).all flatV = true
  | [], _ => rfl
  | d :: ds, h => by
    rw [List.all_cons, Bool.and_eq_true] at h
    rw [List.map_cons, List.all_cons, flat_v h.1, flat_vs h.2]; rfl
theorem rd_inT {K : PySem.W.Frag} {neg : Bool} (h1 : d.sc = true) (h2 : ds.all Dt.sc = true) : RD K (rIn K neg) d (.tup ds) (.bl (if neg then !inV d.v (ds.map Dt.v) else inV d.v (ds.map Dt.v))) := fun F H x y e k1 k2 Q q => by
  simp only [Den] at k2
  obtain ⟨a, xs, rfl, k3, k4⟩ := k2
  have ex := Den.flatL k4 h2
  subst ex
  rw [k1.sc h1]
  exact ⟨a, _, rfl, .inr (ex_t e k3), flat_v h1, flat_vs h2, q _ F H (Gr.refl e) (by simp only [Den])⟩
theorem ev_inR {K : PySem.W.Frag} {neg : Bool} {ta tb : TE} (ha : EvD K ta ρ d) (hb : EvR K tb ρ ds) (h1 : d.sc = true) (h2 : ds.all Dt.sc = true) : EvD K (tOp (rIn K neg) ta tb) ρ (.bl (if neg then !inV d.v (ds.map Dt.v) else inV d.v (ds.map Dt.v))) := fun F0 H0 F H σ S Q q =>
  ha F0 H0 F H σ S _ fun x F2 H2 g1 k1 => hb F0 H0 F2 H2 σ (S.mono g1) _ fun y F3 H3 g2 k2 => by
    obtain ⟨a, xs, rfl, k3, k4⟩ := k2
    have ex := Den.flatL k4 h2
    subst ex
    rw [k1.sc h1]
    exact ⟨a, _, rfl, .inl (SqL.of k3), flat_v h1, flat_vs h2, q _ F3 H3 (g1.trans g2) (by simp only [Den])⟩
theorem x_inR (ha : XE X a ρ d) (hb : XR X b ρ ds) (h1 : d.sc = true) (h2 : ds.all Dt.sc = true) (hm : behindInMarks .In b = false := by rfl) : XE X (.Compare a [.In] [b] pos) ρ (.bl (inV d.v (ds.map Dt.v))) := EvD.of (pe_cmpR op_in_seq pe_wp pe_wp hm) (ev_inR (neg := false) ha hb h1 h2)
theorem x_ninR (ha : XE X a ρ d) (hb : XR X b ρ ds) (h1 : d.sc = true) (h2 : ds.all Dt.sc = true) (hm : behindInMarks .NotIn b = false := by rfl) : XE X (.Compare a [.NotIn] [b] pos) ρ (.bl (!inV d.v (ds.map Dt.v))) := EvD.of (pe_cmpR op_notIn_seq pe_wp pe_wp hm) (ev_inR (neg := true) ha hb h1 h2)
theorem xt_inR (ha : XE X a ρ d) (hb : XR X b ρ ds) (h1 : d.sc = true) (h2 : ds.all Dt.sc = true) (hm : behindInMarks .In b = false := by rfl) : XT X (.Compare a [.In] [b] pos) ρ (inV d.v (ds.map Dt.v)) := EvT.of (pt_cmpR op_in_seq pe_wp pe_wp hm) fun F0 H0 F H σ S Q q =>
  ev_inR (neg := false) ha hb h1 h2 F0 H0 F H σ S _ fun v F2 H2 g dv => by simp only [Den] at dv; exact ⟨_, dv, q F2 H2 g⟩
theorem xt_ninR (ha : XE X a ρ d) (hb : XR X b ρ ds) (h1 : d.sc = true) (h2 : ds.all Dt.sc = true) (hm : behindInMarks .NotIn b = false := by rfl) : XT X (.Compare a [.NotIn] [b] pos) ρ (!inV d.v (ds.map Dt.v)) := EvT.of (pt_cmpR op_notIn_seq pe_wp pe_wp hm) fun F0 H0 F H σ S Q q =>
  ev_inR (neg := true) ha hb h1 h2 F0 H0 F H σ S _ fun v F2 H2 g dv => by simp only [Den] at dv; exact ⟨_, dv, q F2 H2 g⟩
/-- tuple + tuple, list + list, list * int -/
theorem rd_catT {K : PySem.W.Frag} (hl : ds1.length + ds2.length ≤ 1000) : RD K (rCatA K) (.tup ds1) (.tup ds2) (.tup (ds1 ++ ds2)) := fun F H x y e k1 k2 Q q => by
  simp only [Den] at k1 k2
  obtain ⟨a, xs, rfl, k3, k4⟩ := k1
  obtain ⟨b, ys, rfl, k5, k6⟩ := k2
  refine ⟨a, b, xs, ys, rfl, rfl, ex_t e k3, ex_t e k5, by rw [k4.length, k6.length]; exact Nat.le_of_lt (small1000 hl), fun z => ?_, fun z1 z2 => ?_, fun z1 z2 p hp => q _ _ _ (Gr.new e hp) (den_tup st_new ((k4.append k6).mono (Ex.new (e.none hp))))⟩
  · have e1 : ds1 = [] := List.length_eq_zero_iff.mp (by rw [← k4.length, z]; rfl)
    subst e1
    exact q _ F H (Gr.refl e) (den_tup k5 k6)
  · have e1 : ds2 = [] := List.length_eq_zero_iff.mp (by rw [← k6.length, z2]; rfl)
    subst e1
    rw [List.append_nil] at *
    exact q _ F H (Gr.refl e) (den_tup k3 k4)
theorem xn_catL (ha : XE X a ρ (.lst ds1)) (hb : XE X b ρ (.lst ds2)) (hl : ds1.length + ds2.length ≤ 1000) : XN X (.BinOp a .Add b pos) ρ (ds1 ++ ds2) := EvN.of (pe_op op_cat pe_wp pe_wp) fun F0 H0 F H σ S Q q =>
  ha F0 H0 F H σ S _ fun x F2 H2 g1 k1 => hb F0 H0 F2 H2 σ (S.mono g1) _ fun y F3 H3 g2 k2 => by
    simp only [Den] at k1 k2
    obtain ⟨l, xs, rfl, k3, k4⟩ := k1
    obtain ⟨m, ys, rfl, k5, k6⟩ := k2
    exact ⟨l, m, xs, ys, rfl, rfl, g2.h.lst (g1.s _ _ k3), g2.s _ _ k5, by rw [k4.length, k6.length]; exact Nat.le_of_lt (small1000 hl), fun p hp => q p _ F3 _ ((g1.trans g2).trans (Gr.loose g2.s hp)) ((g1.trans g2).h.none hp) (g2.s.none hp) upd_same ((k4.mono g2.f).append k6)⟩
theorem DenL.rep {K : PySem.W.Frag} {F : Hp} {xs : List V} (h : DenL K F ds xs) : ∀ n : Nat, DenL K F (List.replicate n ds).flatten (List.replicate n xs).flatten
  | 0 => DenL.nil
  | n + 1 => by
    rw [List.replicate_succ, List.replicate_succ, List.flatten_cons, List.flatten_cons]
    exact DenL.append h (DenL.rep h n)
theorem xn_repL {i : Int} (ha : XE X a ρ (.lst ds)) (hb : XE X b ρ (.int i)) (h0 : 0 ≤ i) (h1 : i ≤ 1000) (hl : ds.length ≤ 1000) : XN X (.BinOp a .Mult b pos) ρ (List.replicate i.toNat ds).flatten := EvN.of (pe_op op_rep pe_wp pe_wp) fun F0 H0 F H σ S Q q =>
  ha F0 H0 F H σ S _ fun x F2 H2 g1 k1 => hb F0 H0 F2 H2 σ (S.mono g1) _ fun y F3 H3 g2 k2 => by
    simp only [Den] at k1 k2
    obtain ⟨l, xs, rfl, k3, k4⟩ := k1
    refine ⟨l, i, xs, rfl, k2, g2.h.lst (g1.s _ _ k3), by omega, by omega, ?_, fun p hp => q p _ F3 _ ((g1.trans g2).trans (Gr.loose g2.s hp)) ((g1.trans g2).h.none hp) (g2.s.none hp) upd_same ((k4.mono g2.f).rep _)⟩
    rw [k4.length]
    have : ds.length * i.toNat ≤ 1000 * 1000 := Nat.mul_le_mul hl (by omega)
    exact Nat.le_trans this (by decide)
theorem x_repT {i : Int} (ha : XE X a ρ (.tup ds)) (hb : XE X b ρ (.int i)) (h0 : 2 ≤ i) (h1 : i ≤ 1000) (hl : ds.length ≤ 1000) (hne : ds ≠ []) : XE X (.BinOp a .Mult b pos) ρ (.tup (List.replicate i.toNat ds).flatten) := EvD.of (pe_op op_repT pe_wp pe_wp) fun F0 H0 F H σ S Q q =>
  ha F0 H0 F H σ S _ fun x F2 H2 g1 k1 => hb F0 H0 F2 H2 σ (S.mono g1) _ fun y F3 H3 g2 k2 => by
    simp only [Den] at k1 k2
    obtain ⟨l, xs, rfl, k3, k4⟩ := k1
    exact ⟨l, i, xs, rfl, k2, ext_t g2.h (ex_t g1.s k3), fun z => hne (List.length_eq_zero_iff.mp (by rw [← k4.length, z]; rfl)), h0, h1, by rw [k4.length]; exact hl, fun p hp => q _ _ _ ((g1.trans g2).trans (Gr.new g2.s hp)) (den_tup st_new (((k4.mono g2.f).rep _).mono (Ex.new (g2.s.none hp))))⟩
/-- int(an int), abs -/
theorem x_int1 {i : Int} (hm : X.mg "int" = none) (h : XE X e ρ (.int i)) (hg : Gl X "int" := by rfl) (hs : starEach [e] X.env = (false, eval e X.env) :: starEach [] X.env := by rfl) (hpl : (backTo pos (starEach [] X.env)).any (·.1) = false := by rfl) : XE X (.Call (.Name "int" p) [e] [] pos) ρ (.int i) :=
  x_callTy call_int1 hm (by decide +kernel) (xa_one h hs) (fun F H vs e k Q q => by
    simp only [DenL, Den] at k
    obtain ⟨v, r, rfl, rfl, rfl⟩ := k
    exact .inl ⟨i, rfl, q _ F H (Gr.refl e) (by simp only [Den])⟩) hg (by decide) (by decide) hs hpl
theorem x_abs {i : Int} (hm : X.mg "abs" = none) (h : XE X e ρ (.int i)) (hg : Gl X "abs" := by rfl) (hs : starEach [e] X.env = (false, eval e X.env) :: starEach [] X.env := by rfl) (hpl : (backTo pos (starEach [] X.env)).any (·.1) = false := by rfl) : XE X (.Call (.Name "abs" p) [e] [] pos) ρ (.int (if i < 0 then -i else i)) :=
  x_callB call_abs hm (by decide +kernel) (xa_one h hs) (fun F H vs e k Q q => by
    simp only [DenL, Den] at k
    obtain ⟨v, r, rfl, rfl, rfl⟩ := k
    exact ⟨i, rfl, q _ F H (Gr.refl e) (by simp only [Den])⟩) hg (by decide) (by decide) hs hpl
end
/-! ### a def keeps its promise -/
section
variable {P : Program} {w : World} {K : PySem.W.Frag} {mg : Str → Option Value} {base : Heap}
/-- the slots at the entry -/
def rho0 (N : List Str) (ds : List Dt) : Rho := ds.map (fun d => some (.im d)) ++ List.replicate (N.length - ds.length) none
theorem sta0 {N : List Str} {F H : Hp} {ds : List Dt} {vs : List V} (e : Ex F H) (h : DenL K F ds vs) : Sta K F H F H (L2.start N vs) (rho0 N ds) := by
  have hl := h.length
  refine ⟨Gr.refl e, by unfold L2.start rho0; simp [hl], fun i s q => ?_, fun i j s t a hij q1 _ m1 _ => ?_⟩
  · unfold rho0 at q
    by_cases z : i < ds.length
    · rw [List.getElem?_append_left (by simp [z]), List.getElem?_map] at q
      cases w2 : ds[i]? with
      | none => rw [w2] at q; cases q
      | some d =>
        rw [w2] at q
        cases q
        obtain ⟨v, h1, h2⟩ := h.get w2
        refine ⟨v, ?_, h2⟩
        unfold L2.start
        rw [List.getElem?_append_left (by rw [List.length_map, hl]; exact z), List.getElem?_map, h1]; rfl
    · rw [List.getElem?_append_right (by simp; omega), List.getElem?_replicate] at q
      split at q <;> cases q
  · unfold rho0 at q1
    by_cases z : i < ds.length
    · rw [List.getElem?_append_left (by simp [z]), List.getElem?_map] at q1
      cases w2 : ds[i]? with
      | none => rw [w2] at q1; cases q1
      | some d => rw [w2] at q1; cases q1; exact own_im m1
    · rw [List.getElem?_append_right (by simp; omega), List.getElem?_replicate] at q1
      split at q1 <;> cases q1
variable {qual nm : Str} {params : Arguments} {body : List Stmt} {scope : Scope} {f : Addr} {fd : FuncData} {N ps : List Str} {k : Nat} {ds : List Dt} {r : Dt}
/-- the context of a def's body -/
abbrev cxD (P : Program) (w : World) (K : PySem.W.Frag) (mg : Str → Option Value) (base : Heap) (N : List Str) (qual : Str) (scope : Scope) (f : Addr) (cdv : Value) (A : Around) (outer : List Env) (s : Shared) (H : Hp) (E : XK) : Cx := (cxOf CX0 P w K mg base N qual scope f cdv A outer s H E).nox
theorem def_ok (D : FunD K nm qual params body scope [] [] f fd) (S : FnScope N ps scope) (hl : ds.length = ps.length) (h : ∀ (cdv : Value) (A : Around) (outer : List Env) (s : Shared) (H : Hp) (E : XK), Room k (A.deeper (envOfC qual scope s.heap.objs.size f cdv)) →
    ∃ o, XSs (cxD P w K mg base N qual scope f cdv A outer s H E) body (rho0 N ds) o ∧ (o = .rt r ∨ (r = .non ∧ ∃ ρ, o = .nx ρ))) : FnOk P w K mg base CX0 (k + 1) f fd ps (spD K ds r) := by
  refine D.ok S (fun vs H Q E h => ?_) (fun cdv A outer s H vs Q E hr hq => ?_)
  · obtain ⟨F, _, h1, _⟩ := h
    rw [h1.length, hl]
  · obtain ⟨F, e, h1, q⟩ := hq
    obtain ⟨o, hb, ho⟩ := h cdv A outer s H E hr
    refine ⟨_, PSs.nox pss_wp, hb F H F H _ _ (sta0 e h1) ?_⟩
    rcases ho with rfl | ⟨rfl, ρ, rfl⟩
    · exact fun v F2 H2 g dv => q v F2 H2 g dv
    · exact fun F2 H2 σ S2 _ => q _ F2 H2 S2.g (by simp only [Den])
theorem def_okN {rs : List Dt} (D : FunD K nm qual params body scope [] [] f fd) (S : FnScope N ps scope) (hl : ds.length = ps.length) (h : ∀ (cdv : Value) (A : Around) (outer : List Env) (s : Shared) (H : Hp) (E : XK), Room k (A.deeper (envOfC qual scope s.heap.objs.size f cdv)) →
    XSs (cxD P w K mg base N qual scope f cdv A outer s H E) body (rho0 N ds) (.rn rs)) : FnOk P w K mg base CX0 (k + 1) f fd ps (spN K ds rs) := by
  refine D.ok S (fun vs H Q E h => ?_) (fun cdv A outer s H vs Q E hr hq => ?_)
  · obtain ⟨F, _, h1, _⟩ := h
    rw [h1.length, hl]
  · obtain ⟨F, e, h1, q⟩ := hq
    refine ⟨_, PSs.nox pss_wp, h cdv A outer s H E hr F H F H _ _ (sta0 e h1) ?_⟩
    exact fun l xs F2 H2 g k1 k2 k3 k4 => q l xs F2 H2 g k1 k2 k3 k4
/-- the slots at the entry; slot 0 is s -/
def rhoS (N : List Str) (s : Sv) (ds : List Dt) : Rho := some s :: (ds.map (fun d => some (.im d)) ++ List.replicate (N.length - ds.length - 1) none)
theorem staS {N : List Str} {s0 : Sv} {v0 : V} {F H0 H : Hp} {ds : List Dt} {vs : List V} (g : Gr F H0 F H) (hs : SvOk K H0 F H s0 v0) (h : DenL K F ds vs) : Sta K F H0 F H (L2.start N (v0 :: vs)) (rhoS N s0 ds) := by
  have hl := h.length
  refine ⟨g, by unfold L2.start rhoS; simp [hl]; omega, fun i s q => ?_, fun i j s t a hij q1 q2 m1 m2 => ?_⟩
  · cases i with
    | zero =>
      cases q
      exact ⟨v0, rfl, hs⟩
    | succ i =>
      unfold rhoS at q
      rw [List.getElem?_cons_succ] at q
      by_cases z : i < ds.length
      · rw [List.getElem?_append_left (by simp [z]), List.getElem?_map] at q
        cases w2 : ds[i]? with
        | none => rw [w2] at q; cases q
        | some d =>
          rw [w2] at q
          cases q
          obtain ⟨v, h1, h2⟩ := h.get w2
          refine ⟨v, ?_, h2⟩
          unfold L2.start
          rw [List.map_cons, List.cons_append, List.getElem?_cons_succ, List.getElem?_append_left (by rw [List.length_map, hl]; exact z), List.getElem?_map, h1]; rfl
      · rw [List.getElem?_append_right (by simp; omega), List.getElem?_replicate] at q
        split at q <;> cases q
  · have im : ∀ (i : Nat) (s : Sv), (rhoS N s0 ds)[i + 1]? = some (some s) → Own (L2.start N (v0 :: vs)) (i + 1) s a → False := fun i s q m => by
      unfold rhoS at q
      rw [List.getElem?_cons_succ] at q
      by_cases z : i < ds.length
      · rw [List.getElem?_append_left (by simp [z]), List.getElem?_map] at q
        cases w2 : ds[i]? with
        | none => rw [w2] at q; cases q
        | some d => rw [w2] at q; cases q; exact own_im m
      · rw [List.getElem?_append_right (by simp; omega), List.getElem?_replicate] at q
        split at q <;> cases q
    cases i with
    | zero => cases j with
      | zero => exact hij rfl
      | succ j => exact im j t q2 m2
    | succ i => exact im i s q1 m1
theorem gr_rm {F H : Hp} {p : Addr} (e : Ex F H) (hp : F p = none) : Gr F (rm H p) F H := ⟨rm_ex.t, Ex.refl _, e, fun _ _ w => .inl w⟩
/-- the slots at the entry of an __init__ -/
abbrev rhoI (N : List Str) (p dx C : Addr) (ds : List Dt) : Rho := rhoS N (.mi (some (p, dx)) C []) ds
theorem staI {N : List Str} {C p dx : Addr} {F H : Hp} {ds : List Dt} {vs : List V} (e : Ex F H) (hp : F p = none) (hh : H p = some (.ins C dx [])) (h : DenL K F ds vs) : Sta K F (rm H p) F H (L2.start N (.ref p :: vs)) (rhoI N p dx C ds) :=
  staS (gr_rm e hp) ⟨p, dx, [], rfl, rm_same, hp, hh, by simp only [DenF], fun _ z => (Option.some.inj z).symm⟩ h
theorem def_okI {C : Addr} {fs : List (Str × Dt)} (D : FunD K nm qual params body scope [] [] f fd) (S : FnScope N ps scope) (hl : ds.length + 1 = ps.length) (h : ∀ (p dx : Addr) (cdv : Value) (A : Around) (outer : List Env) (s : Shared) (H : Hp) (E : XK), Room k (A.deeper (envOfC qual scope s.heap.objs.size f cdv)) →
    ∃ ρ, XSs (cxD P w K mg base N qual scope f cdv A outer s H E) body (rhoI N p dx C ds) (.nx ρ) ∧ ρ[0]? = some (some (.mi (some (p, dx)) C fs))) : FnOk P w K mg base CX0 (k + 1) f fd ps (spI K C ds fs) := by
  refine D.ok S (fun vs H Q E h => ?_) (fun cdv A outer s H vs Q E hr hq => ?_)
  · obtain ⟨F, p, dx, rest, rfl, _, _, _, h1, _⟩ := h
    rw [List.length_cons, h1.length, hl]
  · obtain ⟨F, p, dx, rest, rfl, e, hp, hh, h1, q⟩ := hq
    obtain ⟨ρ, hb, h0⟩ := h p dx cdv A outer s H E hr
    refine ⟨_, PSs.nox pss_wp, hb F (rm H p) F H _ _ (staI e hp hh h1) fun F2 H2 σ S2 _ => ?_⟩
    obtain ⟨v, _, a, dx', fv, _, _, k3, k4, k5, k6⟩ := S2.ok 0 _ h0
    have e6 := k6 _ rfl
    cases e6
    exact q fv F2 H2 S2.g k3 k4 k5
end
end K82
/-! ## part M -/
/-! Rules of the machine that HandS lacks: enumerate of a tuple, of a zip of tuples; list(enumerate(a tuple)); sorted of data, min, max, sum of a tuple. -/
namespace K82M
open PySem PySem.Spec PyProof.Rows L2
open PySem.Sem (wp)
section
variable {prog : Program} {w : World} {A : Around} {E : Value → Shared → Prop} {s : Shared}
theorem alive {a : Addr} {Q : Option Obj → Shared → Prop} (h : Q (s.heap.get? a) s) : wpAny (model prog w) A (loadIfAlive a) Q E s := fun _ _ _ => h
/-- a zip; its tuple may be out, and may have died -/
abbrev IsZ (h : Heap) (z TI TO : Addr) (v : Value) (f : Bool) : Prop :=
  h.get? z = some { cls := .type "zip", dict := none, data := .fields #[v, .bool f, .bool false, .ref TI, .ref TO], slots := #[] }
abbrev IsE (h : Heap) (e it : Addr) (i : Int) (item : Value) (v : Value) (f : Bool) : Prop :=
  h.get? e = some { cls := .type "enumerate", dict := none, data := .fields #[v, .bool f, .ref it, rawInt i, .none, item], slots := #[] }
def Mark (v : Value) : Prop := v = .none ∨ ∃ T : Addr, v = rawInt T
theorem own_zip {z TI TO : Addr} {v : Value} {f : Bool} {Q : Bool → Shared → Prop} (hz : IsZ s.heap z TI TO v f) (hv : Mark v) (h1 : Q true s)
    (h2 : ∀ h', v ≠ .none → IsZ h' z TI TO v true → Heap.SameBut z s.heap h' → Q false { s with heap := h' }) : wpAny (model prog w) A (Builtin.SmallTypes.ownedTupleIsFree (.ref z)) Q E s := by
  unfold Builtin.SmallTypes.ownedTupleIsFree
  rcases hv with rfl | ⟨T, rfl⟩
  · exact wpAny_bind (wpAny_field hz rfl (x := .none) rfl (wpAny_pure h1))
  · refine wpAny_bind (wpAny_field hz rfl (x := rawInt T) rfl ?_)
    show wpAny _ _ (loadIfAlive ((T : Int).toNat) >>= _) _ _ _
    rw [Int.toNat_natCast]
    refine wpAny_bind (alive ?_)
    cases hT : s.heap.get? T with
    | none =>
      simp only [Option.isNone_none, if_true]
      exact wpAny_pure h1
    | some oT =>
      simp only [Option.isNone_some, Bool.false_eq_true, if_false]
      refine wpAny_bind (wpAny_field hz rfl (x := .bool f) rfl ?_)
      cases f with
      | true =>
        rw [if_neg (show ¬ ((Value.bool true != Value.bool true) = true) from Bool.false_ne_true)]
        exact wpAny_pure (h2 s.heap (fun z => nomatch z) hz (Heap.SameBut.refl _ _))
      | false =>
        rw [if_pos (show (Value.bool false != Value.bool true) = true from rfl)]
        exact wpAny_bind (wpAny_setField_rec hz (by simp) fun h₁ hz₁ hs₁ => wpAny_pure (h2 h₁ (fun z => nomatch z) hz₁ hs₁))
theorem own_enum {e it : Addr} {i : Int} {x v : Value} {f : Bool} {Q : Bool → Shared → Prop} (he : IsE s.heap e it i x v f) (hv : Mark v) (h1 : Q true s)
    (h2 : ∀ h', v ≠ .none → IsE h' e it i x v true → Heap.SameBut e s.heap h' → Q false { s with heap := h' }) : wpAny (model prog w) A (Builtin.SmallTypes.ownedTupleIsFree (.ref e)) Q E s := by
  unfold Builtin.SmallTypes.ownedTupleIsFree
  rcases hv with rfl | ⟨T, rfl⟩
  · exact wpAny_bind (wpAny_field he rfl (x := .none) rfl (wpAny_pure h1))
  · refine wpAny_bind (wpAny_field he rfl (x := rawInt T) rfl ?_)
    show wpAny _ _ (loadIfAlive ((T : Int).toNat) >>= _) _ _ _
    rw [Int.toNat_natCast]
    refine wpAny_bind (alive ?_)
    cases hT : s.heap.get? T with
    | none =>
      simp only [Option.isNone_none, if_true]
      exact wpAny_pure h1
    | some oT =>
      simp only [Option.isNone_some, Bool.false_eq_true, if_false]
      refine wpAny_bind (wpAny_field he rfl (x := .bool f) rfl ?_)
      cases f with
      | true =>
        rw [if_neg (show ¬ ((Value.bool true != Value.bool true) = true) from Bool.false_ne_true)]
        exact wpAny_pure (h2 s.heap (fun z => nomatch z) he (Heap.SameBut.refl _ _))
      | false =>
        rw [if_pos (show (Value.bool false != Value.bool true) = true from rfl)]
        exact wpAny_bind (wpAny_setField_rec he (by simp) fun h₁ he₁ hs₁ => wpAny_pure (h2 h₁ (fun z => nomatch z) he₁ hs₁))
/-- enumerate's next, over whatever its iterator does -/
theorem enum_next {e it : Addr} {c : Int} {old v : Value} {f : Bool} {Q : Value → Shared → Prop} (he : IsE s.heap e it c old v f) (hv : Mark v)
    (hn : wpAny (model prog w) A (Builtin.SmallTypes.nextOf (.ref it)) (fun x s₁ => ∃ h₁ tk, s₁ = { s with heap := h₁, toks := tk } ∧ IsE h₁ e it c old v f ∧
      ∀ h' it' v' f', IsE h' e it (c + 1) it' v' f' → Mark v' → (v = .none → v' = rawInt h₁.objs.size ∧ f' = false) → h'.get? h₁.objs.size = some { cls := .type "tuple", data := .seq #[.int c tk, x] } → h'.objs.size = h₁.objs.size + 1 →
        (∀ b o, b ≠ e → h₁.get? b = some o → h'.get? b = some o) → Q (.ref h₁.objs.size) { s with heap := h', toks := tk + 1 }) E s) :
    wpAny (model prog w) A (Builtin.«enumerate.__next__» ⟨[.ref e], []⟩) (fun fin s' => ∃ v, fin = .done (.ret v) ∧ Q v s') E s := by
  obtain ⟨hp, g, d, tk₀, os⟩ := s
  show wpAny _ _ (field (.ref e) 2 >>= _) _ _ _
  refine wpAny_bind (wpAny_field he rfl (x := .ref it) rfl ?_)
  refine wpAny_bind (thn hn fun x s₁ ⟨h₁, tk, e₁, he₁, hQ⟩ => ?_)
  subst e₁
  show wpAny _ _ (field (.ref e) 3 >>= _) _ _ ⟨h₁, g, d, tk, os⟩
  refine wpAny_bind (wpAny_field he₁ rfl (x := rawInt c) rfl ?_)
  show wpAny _ _ (field (.ref e) 4 >>= _) _ _ ⟨h₁, g, d, tk, os⟩
  refine wpAny_bind (wpAny_field he₁ rfl (x := .none) rfl ?_)
  show wpAny _ _ (mkInt c >>= _) _ _ ⟨h₁, g, d, tk, os⟩
  refine wpAny_bind (wpAny_mkInt ?_)
  show wpAny _ _ (setField (.ref e) 3 (rawInt (c + 1)) >>= _) _ _ ⟨h₁, g, d, tk + 1, os⟩
  refine wpAny_bind (wpAny_setField_rec he₁ (by simp) fun h₂ he₂ hs₂ => ?_)
  replace hs₂ : Heap.SameBut e h₁ h₂ := hs₂
  replace he₂ : IsE h₂ e it (c + 1) old v f := he₂
  show wpAny _ _ (setField (.ref e) 4 .none >>= _) _ _ ⟨h₂, g, d, tk + 1, os⟩
  refine wpAny_bind (wpAny_setField_rec he₂ (by simp) fun h₃ he₃ hs₃ => ?_)
  replace hs₃ : Heap.SameBut e h₂ h₃ := hs₃
  replace he₃ : IsE h₃ e it (c + 1) old v f := he₃
  show wpAny _ _ (newTuple [.int c tk, x] >>= _) _ _ ⟨h₃, g, d, tk + 1, os⟩
  refine wpAny_bind (wpAny_newTuple ?_)
  have he₄ : IsE (h₃.push { cls := .type "tuple", data := .seq #[.int c tk, x] }) e it (c + 1) old v f := Heap.get?_push_of_some _ he₃
  generalize hh₄ : h₃.push { cls := .type "tuple", data := .seq #[.int c tk, x] } = h₄ at he₄
  have hsz : h₃.objs.size = h₁.objs.size := by rw [hs₃.1, hs₂.1]
  have hel : e < h₁.objs.size := Heap.lt_size he₁
  have ht₄ : h₄.get? h₁.objs.size = some { cls := .type "tuple", data := .seq #[.int c tk, x] } := by rw [← hh₄, ← hsz]; exact Heap.get?_push_size _ rfl
  have hz₄ : h₄.objs.size = h₁.objs.size + 1 := by rw [← hh₄, Heap.size_push, hsz]
  have hk₄ : ∀ b o, b ≠ e → h₁.get? b = some o → h₄.get? b = some o := fun b o hbe hb => by
    rw [← hh₄]; exact Heap.get?_push_of_some _ (hs₃.extBut b o hbe (hs₂.extBut b o hbe hb))
  show wpAny _ _ (Builtin.SmallTypes.ownedTupleIsFree (.ref e) >>= _) _ _ ⟨h₄, g, d, tk + 1, os⟩
  rw [hsz]
  clear hh₄ he₃ hs₃ he₂ hs₂ hsz h₃ h₂
  refine wpAny_bind (own_enum (s := ⟨h₄, g, d, tk + 1, os⟩) he₄ hv ?_ fun h₅ hvn he₅ hs₅ => ?_)
  · simp only [if_true]
    refine wpAny_bind (wpAny_rule ?_)
    refine wpAny_bind (wpAny_field he₄ rfl (x := old) rfl ?_)
    refine wpAny_bind (wpAny_setField_rec he₄ (by simp) fun h₅ he₅ hs₅ => ?_)
    replace hs₅ : Heap.SameBut e h₄ h₅ := hs₅
    replace he₅ : IsE h₅ e it (c + 1) x v f := he₅
    show wpAny _ _ (Builtin.SmallTypes.ownedTupleHandOut (.ref e) (.ref h₁.objs.size) >>= _) _ _ ⟨h₅, g, d, tk + 1, os⟩
    refine wpAny_bind ?_
    unfold Builtin.SmallTypes.ownedTupleHandOut
    refine wpAny_bind (wpAny_setField_rec he₅ (by simp) fun h₆ he₆ hs₆ => ?_)
    replace hs₆ : Heap.SameBut e h₅ h₆ := hs₆
    replace he₆ : IsE h₆ e it (c + 1) x (rawInt h₁.objs.size) f := he₆
    refine wpAny_setField_rec he₆ (by simp) fun h₇ he₇ hs₇ => ?_
    replace hs₇ : Heap.SameBut e h₆ h₇ := hs₇
    replace he₇ : IsE h₇ e it (c + 1) x (rawInt h₁.objs.size) false := he₇
    refine wpAny_bind (wpAny_letGo (wpAny_pure ⟨_, rfl, hQ h₇ _ _ _ he₇ (.inr ⟨_, rfl⟩) (fun _ => ⟨rfl, rfl⟩) ?_ ?_ ?_⟩))
    · exact hs₇.extBut _ _ (Nat.ne_of_gt hel) (hs₆.extBut _ _ (Nat.ne_of_gt hel) (hs₅.extBut _ _ (Nat.ne_of_gt hel) ht₄))
    · rw [hs₇.1, hs₆.1, hs₅.1, hz₄]
    · exact fun b o hbe hb => hs₇.extBut b o hbe (hs₆.extBut b o hbe (hs₅.extBut b o hbe (hk₄ b o hbe hb)))
  · replace hs₅ : Heap.SameBut e h₄ h₅ := hs₅
    simp only [Bool.false_eq_true, if_false]
    refine wpAny_pure ⟨_, rfl, hQ h₅ _ _ _ he₅ hv (fun z => absurd z hvn) (hs₅.extBut _ _ (Nat.ne_of_gt hel) ht₄) ?_ fun b o hbe hb => hs₅.extBut b o hbe (hk₄ b o hbe hb)⟩
    show h₅.objs.size = h₁.objs.size + 1
    rw [hs₅.1, hz₄]
theorem pyNext_enum {e it : Addr} {c : Int} {old v : Value} {f : Bool} {Q : Option Value → Shared → Prop} (he : IsE s.heap e it c old v f) (hv : Mark v)
    (hn : ∀ E' : Value → Shared → Prop, wpAny (model prog w) A.in1 (Builtin.SmallTypes.nextOf (.ref it)) (fun x s₁ => ∃ h₁ tk, s₁ = { s with heap := h₁, toks := tk } ∧ IsE h₁ e it c old v f ∧
      ∀ h' it' v' f', IsE h' e it (c + 1) it' v' f' → Mark v' → (v = .none → v' = rawInt h₁.objs.size ∧ f' = false) → h'.get? h₁.objs.size = some { cls := .type "tuple", data := .seq #[.int c tk, x] } → h'.objs.size = h₁.objs.size + 1 →
        (∀ b o, b ≠ e → h₁.get? b = some o → h'.get? b = some o) → Q (some (.ref h₁.objs.size)) { s with heap := h', toks := tk + 1 }) E' s) : wpAny (model prog w) A (pyNext (.ref e)) Q E s := by
  have hT : s.TypeIs (.ref e) "enumerate" := ⟨_, he, rfl⟩
  unfold pyNext
  exact wpAny_bind (wpAny_attempt (wpAny_callSpecial?_slot (name := Str.ofString "__next__") hT PySem.F.slot_enumerate_next
    (wpAny_call_entry PySem.F.slot_enumerate_next hT PySem.F.entry_enumerate_next
      (enum_next he hv (thn (hn _) fun x s₁ ⟨h₁, tk, e₁, he₁, hQ⟩ => ⟨h₁, tk, e₁, he₁, fun h' it' v' f' a1 a2 a3 a4 a5 a6 => wpAny_pure (hQ h' it' v' f' a1 a2 a3 a4 a5 a6)⟩)) (PySem.F.args_enumerate_next_1 _))))
theorem pyNext_enum_end {e it : Addr} {c : Int} {old v : Value} {f : Bool} {Q : Option Value → Shared → Prop} {R : Heap → Prop} (he : IsE s.heap e it c old v f)
    (hn : ∀ (Q' : Value → Shared → Prop) (E' : Value → Shared → Prop), (∀ h' ev, R h' → (∃ o, h'.get? ev = some o ∧ o.cls = .type "StopIteration") → E' (.ref ev) { s with heap := h' }) → wpAny (model prog w) A.in1 (Builtin.SmallTypes.nextOf (.ref it)) Q' E' s)
    (hQ : ∀ h', R h' → Q none { s with heap := h' }) : wpAny (model prog w) A (pyNext (.ref e)) Q E s := by
  have hT : s.TypeIs (.ref e) "enumerate" := ⟨_, he, rfl⟩
  unfold pyNext
  refine wpAny_bind (wpAny_attempt (wpAny_callSpecial?_slot (name := Str.ofString "__next__") hT PySem.F.slot_enumerate_next
    (wpAny_call_entry PySem.F.slot_enumerate_next hT PySem.F.entry_enumerate_next ?_ (PySem.F.args_enumerate_next_1 _))))
  show wpAny _ _ (field (.ref e) 2 >>= _) _ _ _
  refine wpAny_bind (wpAny_field he rfl (x := .ref it) rfl ?_)
  refine wpAny_bind (hn _ _ fun h' x he' hx' => ?_)
  obtain ⟨o, ho, hc⟩ := hx'
  refine wpAny_bind (wpAny_isInstance (T := "StopIteration") (b := true) ⟨o, ho, hc⟩ isSubtype_stop ?_)
  exact wpAny_pure (hQ _ he')
/-- zip's next, over two tuples -/
theorem zip_next {z TI TO i1 i2 l1 l2 : Addr} {v : Value} {f : Bool} {k1 k2 : Nat} {xs ys : Array Value} {x y a b : Value} {Q : Value → Shared → Prop} (D : ZipApart z TI TO i1 i2 l1 l2)
    (hz : IsZ s.heap z TI TO v f) (hv : Mark v) (hTI : IsPair s.heap TI (.ref i1) (.ref i2)) (hTO : IsPair s.heap TO a b)
    (h1 : s.heap.IsTupleIter i1 l1 k1) (h2 : s.heap.IsTupleIter i2 l2 k2) (hl1 : s.heap.IsTuple l1 xs) (hl2 : s.heap.IsTuple l2 ys) (hx : xs[k1]? = some x) (hy : ys[k2]? = some y)
    (hQ : ∀ h' v' f' a' b', IsZ h' z TI TO v' f' → Mark v' → IsPair h' TO a' b' → h'.IsTupleIter i1 l1 (k1 + 1) → h'.IsTupleIter i2 l2 (k2 + 1) → IsPair h' s.heap.objs.size x y → h'.objs.size = s.heap.objs.size + 1 →
      (∀ c o, c ≠ z → c ≠ TO → c ≠ i1 → c ≠ i2 → s.heap.get? c = some o → h'.get? c = some o) → Q (.ref s.heap.objs.size) { s with heap := h' }) :
    wpAny (model prog w) A (Builtin.«zip.__next__» ⟨[.ref z], []⟩) (fun fin s' => ∃ v, fin = .done (.ret v) ∧ Q v s') E s := by
  show wpAny _ _ (field (.ref z) 2 >>= _) _ _ _
  refine wpAny_bind (wpAny_field hz rfl (x := .bool false) rfl ?_)
  show wpAny _ _ (field (.ref z) 3 >>= _) _ _ _
  refine wpAny_bind (wpAny_field hz rfl (x := .ref TI) rfl ?_)
  refine wpAny_bind (wpAny_seqItems hTI rfl ?_)
  show wpAny _ _ (Builtin.SmallTypes.ownedTupleIsFree (.ref z) >>= _) _ _ _
  refine wpAny_bind (own_zip hz hv ?_ fun h₁ _ hz₁ hs₁ => ?_)
  · simp only [if_true]
    refine wpAny_bind (wpAny_rule ?_)
    refine wpAny_bind (wpAny_field hz rfl (x := .ref TO) rfl ?_)
    refine wpAny_bind (wpAny_setField_rec hz (by simp) fun h₁ hz₁ hs₁ => ?_)
    replace hz₁ : IsZ h₁ z TI TO .ellipsis f := hz₁
    refine wpAny_bind ?_
    simp only [List.zipIdx_cons, List.zipIdx_nil, List.forIn_cons, List.forIn_nil]
    refine wpAny_bind (wpAny_bind (wpAny_onRaise ?_))
    show wpAny _ _ (Builtin.SmallTypes.nextOf (.ref i1) >>= _) _ _ _
    refine wpAny_bind (RZ.nextOf_tuple_item (h1.extBut hs₁.extBut D.i1z) (hl1.extBut hs₁.extBut D.l1z) hx fun h₂ h1₂ hs₂ => wpAny_pure ?_)
    have hTO₂ : IsPair h₂ TO a b := hs₂.extBut _ _ D.TOi1 (hs₁.extBut _ _ D.TOz hTO)
    refine wpAny_bind (wpAny_seqItems hTO₂ rfl ?_)
    refine wpAny_bind (wpAny_updateSeq_pair hTO₂ fun h₃ hTO₃ hs₃ => ?_)
    replace hTO₃ : IsPair h₃ TO x b := hTO₃
    refine wpAny_bind (wpAny_letGo (wpAny_pure ?_))
    refine wpAny_bind (wpAny_bind (wpAny_onRaise ?_))
    show wpAny _ _ (Builtin.SmallTypes.nextOf (.ref i2) >>= _) _ _ _
    refine wpAny_bind (RZ.nextOf_tuple_item (((h2.extBut hs₁.extBut D.i2z).extBut hs₂.extBut D.i12.symm).extBut hs₃.extBut D.TOi2.symm)
      (((hl2.extBut hs₁.extBut D.l2z).extBut hs₂.extBut D.l2i1).extBut hs₃.extBut D.l2TO) hy fun h₄ h2₄ hs₄ => wpAny_pure ?_)
    have hTO₄ : IsPair h₄ TO x b := hs₄.extBut _ _ D.TOi2 hTO₃
    refine wpAny_bind (wpAny_seqItems hTO₄ rfl ?_)
    refine wpAny_bind (wpAny_updateSeq_pair hTO₄ fun h₅ hTO₅ hs₅ => ?_)
    replace hTO₅ : IsPair h₅ TO x y := hTO₅
    refine wpAny_bind (wpAny_letGo (wpAny_pure (wpAny_pure ?_)))
    refine wpAny_bind (wpAny_seqItems hTO₅ rfl ?_)
    refine wpAny_bind (wpAny_newTuple ?_)
    have hsz : h₅.objs.size = s.heap.objs.size := by rw [hs₅.1, hs₄.1, hs₃.1, hs₂.1, hs₁.1]
    have hz₅ : IsZ h₅ z TI TO .ellipsis f := hs₅.extBut _ _ D.TOz.symm (hs₄.extBut _ _ D.i2z.symm (hs₃.extBut _ _ D.TOz.symm (hs₂.extBut _ _ D.i1z.symm hz₁)))
    have hk₅ : ∀ c o, c ≠ z → c ≠ TO → c ≠ i1 → c ≠ i2 → s.heap.get? c = some o → h₅.get? c = some o := fun c o c1 c2 c3 c4 e =>
      hs₅.extBut _ _ c2 (hs₄.extBut _ _ c4 (hs₃.extBut _ _ c2 (hs₂.extBut _ _ c3 (hs₁.extBut _ _ c1 e))))
    have h1₅ : h₅.IsTupleIter i1 l1 (k1 + 1) := ((h1₂.extBut hs₃.extBut D.TOi1.symm).extBut hs₄.extBut D.i12).extBut hs₅.extBut D.TOi1.symm
    have h2₅ : h₅.IsTupleIter i2 l2 (k2 + 1) := h2₄.extBut hs₅.extBut D.TOi2.symm
    have hzlt : z < h₅.objs.size := Heap.lt_size hz₅
    show wpAny _ _ (Builtin.SmallTypes.ownedTupleHandOut (.ref z) (.ref h₅.objs.size) >>= _) _ _ _
    refine wpAny_bind ?_
    unfold Builtin.SmallTypes.ownedTupleHandOut
    have hz₆ : IsZ (h₅.push { cls := .type "tuple", data := .seq #[x, y] }) z TI TO .ellipsis f := Heap.get?_push_of_some _ hz₅
    refine wpAny_bind (wpAny_setField_rec hz₆ (by simp) fun h₇ hz₇ hs₇ => ?_)
    replace hz₇ : IsZ h₇ z TI TO (rawInt h₅.objs.size) f := hz₇
    refine wpAny_setField_rec hz₇ (by simp) fun h₈ hz₈ hs₈ => ?_
    replace hz₈ : IsZ h₈ z TI TO (rawInt h₅.objs.size) false := hz₈
    have up : ∀ c o, c ≠ z → h₅.get? c = some o → h₈.get? c = some o := fun c o c1 e => hs₈.extBut _ _ c1 (hs₇.extBut _ _ c1 (Heap.get?_push_of_some _ e))
    have hT₈ : IsPair h₈ h₅.objs.size x y := hs₈.extBut _ _ (Nat.ne_of_gt hzlt) (hs₇.extBut _ _ (Nat.ne_of_gt hzlt) (Heap.get?_push_size _ rfl))
    have hz8 : h₈.objs.size = h₅.objs.size + 1 := by rw [hs₈.1, hs₇.1, Heap.size_push]
    rw [hsz] at hz₈ hT₈ hz8
    refine wpAny_pure ⟨_, rfl, ?_⟩
    show Q (.ref h₅.objs.size) _
    rw [hsz]
    exact hQ h₈ _ _ _ _ hz₈ (.inr ⟨_, rfl⟩) (up _ _ D.TOz hTO₅) (h1₅.at fun o e => up _ o D.i1z e) (h2₅.at fun o e => up _ o D.i2z e) hT₈ hz8 fun c o c1 c2 c3 c4 e => up c o c1 (hk₅ c o c1 c2 c3 c4 e)
  · simp only [Bool.false_eq_true, if_false]
    refine wpAny_bind ?_
    rw [← Array.forIn_toList]
    simp only [List.forIn_cons, List.forIn_nil]
    refine wpAny_bind (wpAny_bind (wpAny_holding ?_))
    show wpAny _ _ (Builtin.SmallTypes.nextOf (.ref i1) >>= _) _ _ _
    refine wpAny_bind (RZ.nextOf_tuple_item (s := { s with heap := h₁ }) (h1.extBut hs₁.extBut D.i1z) (hl1.extBut hs₁.extBut D.l1z) hx fun h₂ h1₂ hs₂ => wpAny_pure ?_)
    refine wpAny_pure ?_
    refine wpAny_bind (wpAny_bind (wpAny_holding ?_))
    show wpAny _ _ (Builtin.SmallTypes.nextOf (.ref i2) >>= _) _ _ _
    refine wpAny_bind (RZ.nextOf_tuple_item (s := { s with heap := h₂ }) ((h2.extBut hs₁.extBut D.i2z).extBut hs₂.extBut D.i12.symm) ((hl2.extBut hs₁.extBut D.l2z).extBut hs₂.extBut D.l2i1) hy fun h₃ h2₃ hs₃ => wpAny_pure ?_)
    refine wpAny_pure (wpAny_pure ?_)
    show wpAny _ _ (newTuple [x, y] >>= _) _ _ _
    refine wpAny_bind (wpAny_newTuple ?_)
    have hsz : h₃.objs.size = s.heap.objs.size := by rw [hs₃.1, hs₂.1, hs₁.1]
    have hz₃ : IsZ h₃ z TI TO v true := hs₃.extBut _ _ D.i2z.symm (hs₂.extBut _ _ D.i1z.symm hz₁)
    have hk : ∀ c o, c ≠ z → c ≠ i1 → c ≠ i2 → s.heap.get? c = some o → h₃.get? c = some o := fun c o c1 c2 c3 e => hs₃.extBut _ _ c3 (hs₂.extBut _ _ c2 (hs₁.extBut _ _ c1 e))
    have h1₃ : h₃.IsTupleIter i1 l1 (k1 + 1) := h1₂.extBut hs₃.extBut D.i12
    refine wpAny_pure ⟨_, rfl, ?_⟩
    show Q (.ref h₃.objs.size) _
    have hp : IsPair (h₃.push { cls := .type "tuple", data := .seq #[x, y] }) h₃.objs.size x y := Heap.get?_push_size _ rfl
    have hz4 : (h₃.push { cls := .type "tuple", data := .seq #[x, y] }).objs.size = h₃.objs.size + 1 := Heap.size_push ..
    rw [hsz] at hp hz4 ⊢
    exact hQ _ _ _ _ _ (Heap.get?_push_of_some _ hz₃) hv (Heap.get?_push_of_some _ (hk _ _ D.TOz D.TOi1 D.TOi2 hTO)) (h1₃.at fun o e => Heap.get?_push_of_some _ e) (h2₃.at fun o e => Heap.get?_push_of_some _ e) hp hz4 fun c o c1 _ c2 c3 e => Heap.get?_push_of_some _ (hk c o c1 c2 c3 e)
theorem zip_end {z TI TO i1 i2 l1 l2 : Addr} {v : Value} {f : Bool} {k1 k2 : Nat} {xs ys : Array Value} {a b : Value} {Q : Fin → Shared → Prop} (hh : A.handled = none) (D : ZipApart z TI TO i1 i2 l1 l2)
    (hz : IsZ s.heap z TI TO v f) (hv : Mark v) (hTI : IsPair s.heap TI (.ref i1) (.ref i2)) (hTO : IsPair s.heap TO a b)
    (h1 : s.heap.IsTupleIter i1 l1 k1) (hl1 : s.heap.IsTuple l1 xs) (hx : xs[k1]? = none)
    (hE : ∀ h' e, (∀ c o, c ≠ z → c ≠ TO → c ≠ i1 → c ≠ i2 → s.heap.get? c = some o → h'.get? c = some o) → (∃ o, h'.get? e = some o ∧ o.cls = .type "StopIteration") → E (.ref e) { s with heap := h' }) :
    wpAny (model prog w) A (Builtin.«zip.__next__» ⟨[.ref z], []⟩) Q E s := by
  show wpAny _ _ (field (.ref z) 2 >>= _) _ _ _
  refine wpAny_bind (wpAny_field hz rfl (x := .bool false) rfl ?_)
  show wpAny _ _ (field (.ref z) 3 >>= _) _ _ _
  refine wpAny_bind (wpAny_field hz rfl (x := .ref TI) rfl ?_)
  refine wpAny_bind (wpAny_seqItems hTI rfl ?_)
  show wpAny _ _ (Builtin.SmallTypes.ownedTupleIsFree (.ref z) >>= _) _ _ _
  refine wpAny_bind (own_zip hz hv ?_ fun h₁ _ hz₁ hs₁ => ?_)
  · simp only [if_true]
    refine wpAny_bind (wpAny_rule ?_)
    refine wpAny_bind (wpAny_field hz rfl (x := .ref TO) rfl ?_)
    refine wpAny_bind (wpAny_setField_rec hz (by simp) fun h₁ hz₁ hs₁ => ?_)
    replace hz₁ : IsZ h₁ z TI TO .ellipsis f := hz₁
    refine wpAny_bind ?_
    simp only [List.zipIdx_cons, List.zipIdx_nil, List.forIn_cons, List.forIn_nil]
    refine wpAny_bind (wpAny_bind (wpAny_onRaise ?_))
    show wpAny _ _ (Builtin.SmallTypes.nextOf (.ref i1) >>= _) _ _ _
    refine wpAny_bind (RZ.nextOf_tuple_end hh (h1.extBut hs₁.extBut D.i1z) (hl1.extBut hs₁.extBut D.l1z) hx fun h₂ e hs₂ he => ?_)
    obtain ⟨oe, hoe, hce⟩ := he
    have hz₂ : IsZ h₂ z TI TO .ellipsis f := hs₂ _ _ D.i1z.symm hz₁
    have hez : e ≠ z := fun x => by subst x; rw [hz₂] at hoe; cases hoe; simp at hce
    refine wpAny_setField_rec hz₂ (by simp) fun h₃ _ hs₃ => hE h₃ e (fun c o c1 _ c3 _ x => hs₃.extBut _ _ c1 (hs₂ _ _ c3 (hs₁.extBut _ _ c1 x))) ⟨oe, hs₃.extBut _ _ hez hoe, hce⟩
  · simp only [Bool.false_eq_true, if_false]
    refine wpAny_bind ?_
    rw [← Array.forIn_toList]
    simp only [List.forIn_cons, List.forIn_nil]
    refine wpAny_bind (wpAny_bind (wpAny_holding ?_))
    show wpAny _ _ (Builtin.SmallTypes.nextOf (.ref i1) >>= _) _ _ _
    refine wpAny_bind (RZ.nextOf_tuple_end (s := { s with heap := h₁ }) hh (h1.extBut hs₁.extBut D.i1z) (hl1.extBut hs₁.extBut D.l1z) hx fun h₂ e hs₂ he => ?_)
    exact hE h₂ e (fun c o c1 _ c2 _ x => hs₂ _ _ c2 (hs₁.extBut _ _ c1 x)) he
theorem nextOf_zip {z TI TO i1 i2 l1 l2 : Addr} {v : Value} {f : Bool} {k1 k2 : Nat} {xs ys : Array Value} {x y a b : Value} {Q : Value → Shared → Prop} (D : ZipApart z TI TO i1 i2 l1 l2)
    (hz : IsZ s.heap z TI TO v f) (hv : Mark v) (hTI : IsPair s.heap TI (.ref i1) (.ref i2)) (hTO : IsPair s.heap TO a b)
    (h1 : s.heap.IsTupleIter i1 l1 k1) (h2 : s.heap.IsTupleIter i2 l2 k2) (hl1 : s.heap.IsTuple l1 xs) (hl2 : s.heap.IsTuple l2 ys) (hx : xs[k1]? = some x) (hy : ys[k2]? = some y)
    (hQ : ∀ h' v' f' a' b', IsZ h' z TI TO v' f' → Mark v' → IsPair h' TO a' b' → h'.IsTupleIter i1 l1 (k1 + 1) → h'.IsTupleIter i2 l2 (k2 + 1) → IsPair h' s.heap.objs.size x y → h'.objs.size = s.heap.objs.size + 1 →
      (∀ c o, c ≠ z → c ≠ TO → c ≠ i1 → c ≠ i2 → s.heap.get? c = some o → h'.get? c = some o) → Q (.ref s.heap.objs.size) { s with heap := h' }) :
    wpAny (model prog w) A (Builtin.SmallTypes.nextOf (.ref z)) Q E s := by
  have hT : s.TypeIs (.ref z) "zip" := ⟨_, hz, rfl⟩
  unfold Builtin.SmallTypes.nextOf
  exact wpAny_bind (wpAny_callSpecial?_slot (name := Str.ofString "__next__") hT PySem.F.slot_zip_next
    (wpAny_call_entry PySem.F.slot_zip_next hT PySem.F.entry_zip_next (zip_next D hz hv hTI hTO h1 h2 hl1 hl2 hx hy fun h' v' f' a' b' a1 a2 a3 a4 a5 a6 a7 a8 => wpAny_pure (hQ h' v' f' a' b' a1 a2 a3 a4 a5 a6 a7 a8)) (PySem.F.args_zip_next_1 _)))
theorem nextOf_zip_end {z TI TO i1 i2 l1 l2 : Addr} {v : Value} {f : Bool} {k1 k2 : Nat} {xs ys : Array Value} {a b : Value} {Q : Value → Shared → Prop} (hh : A.handled = none) (D : ZipApart z TI TO i1 i2 l1 l2)
    (hz : IsZ s.heap z TI TO v f) (hv : Mark v) (hTI : IsPair s.heap TI (.ref i1) (.ref i2)) (hTO : IsPair s.heap TO a b)
    (h1 : s.heap.IsTupleIter i1 l1 k1) (hl1 : s.heap.IsTuple l1 xs) (hx : xs[k1]? = none)
    (hE : ∀ h' e, (∀ c o, c ≠ z → c ≠ TO → c ≠ i1 → c ≠ i2 → s.heap.get? c = some o → h'.get? c = some o) → (∃ o, h'.get? e = some o ∧ o.cls = .type "StopIteration") → E (.ref e) { s with heap := h' }) :
    wpAny (model prog w) A (Builtin.SmallTypes.nextOf (.ref z)) Q E s := by
  have hT : s.TypeIs (.ref z) "zip" := ⟨_, hz, rfl⟩
  unfold Builtin.SmallTypes.nextOf
  exact wpAny_bind (wpAny_callSpecial?_slot (name := Str.ofString "__next__") hT PySem.F.slot_zip_next
    (wpAny_call_entry PySem.F.slot_zip_next hT PySem.F.entry_zip_next (zip_end (l2 := l2) (k2 := k2) (ys := ys) hh D hz hv hTI hTO h1 hl1 hx hE) (PySem.F.args_zip_next_1 _)))
end
/-- iter(v) hands out an iterator -/
structure Beg (v : Value) (it : Heap → Addr) (g : Heap → Heap) (P : Heap → Prop) : Prop where
  iter : ∀ (prog : Program) (w : World) (A : Around) (E : Value → Shared → Prop) (s : Shared) (Q : Value → Shared → Prop), P s.heap → Q (.ref (it s.heap)) { s with heap := g s.heap } → wpAny (model prog w) A (pyIter v) Q E s
set_option maxHeartbeats 1000000 in
theorem enum_new {v : Value} {it : Heap → Addr} {G : Heap → Heap} {P : Heap → Prop} (B : Beg v it G P) :
    Meets (Builtin.«enumerate.__new__» ⟨[.type "enumerate", v], []⟩) (fun _ R s => P s.heap ∧
      R (.ok (.ret (.ref (G s.heap).objs.size))) { s with heap := (G s.heap).push { cls := .type "enumerate", data := .fields #[.none, .bool false, .ref (it s.heap), rawInt 0, .none, .none] } }) :=
  .of_wp fun prog w A R s h => by
    obtain ⟨hp, g, d, tk, os⟩ := s; obtain ⟨h1, h⟩ := h
    have hsub := sub_enumerate
    have q1 : ∀ {A' : Around} {E : Value → Shared → Prop} {Q : Value → Shared → Prop}, Q (.ref (it hp)) ⟨G hp, g, d, tk, os⟩ → wpAny (model prog w) A' (pyIter v) Q E ⟨hp, g, d, tk, os⟩ :=
      fun q => B.iter prog w _ _ ⟨hp, g, d, tk, os⟩ _ h1 q
    wp_walk using q1
    refine wpAny_stack_any fun st => wpAny_pure ?_
    split
    · rename_i c _ _ _ _ _
      cases (c == Value.type "enumerate")
      · wp_walk using q1
        exact ⟨_, rfl, h⟩
      · wp_walk using q1
        exact ⟨_, rfl, h⟩
    · wp_walk using q1
      exact ⟨_, rfl, h⟩
section
variable {prog : Program} {w : World} {A : Around} {E : Value → Shared → Prop} {s : Shared}
theorem call_enum {v : Value} {it : Heap → Addr} {G : Heap → Heap} {P : Heap → Prop} (B : Beg v it G P) {Q : Value → Shared → Prop} (h1 : P s.heap)
    (h : ∀ h', h' = (G s.heap).push { cls := .type "enumerate", data := .fields #[.none, .bool false, .ref (it s.heap), rawInt 0, .none, .none] } → IsEnum h' (G s.heap).objs.size (it s.heap) 0 .none → h'.objs.size = (G s.heap).objs.size + 1 →
      (∀ b o, (G s.heap).get? b = some o → h'.get? b = some o) → Q (.ref (G s.heap).objs.size) { s with heap := h' }) :
    wpAny (model prog w) A (call (.type "enumerate") [v]) Q E s := by
  refine callType_new PySem.F.called_enumerate (by decide) (PySem.F.typeCall_enumerate_1 _) (PySem.F.newCall_enumerate_1 _) (fun obj => PySem.F.args_object_init_2 obj _) PySem.F.entry_enumerate_new (enum_new B) ⟨h1, ?_⟩
  have he : IsEnum ((G s.heap).push { cls := .type "enumerate", data := .fields #[.none, .bool false, .ref (it s.heap), rawInt 0, .none, .none] }) (G s.heap).objs.size (it s.heap) 0 .none := Heap.get?_push_size _ rfl
  exact ⟨⟨_, he, rfl⟩, h _ rfl he (Heap.size_push ..) fun b o x => Heap.get?_push_of_some _ x⟩
theorem beg_tup (t : Addr) (items : Array Value) : Beg (.ref t) (fun h => h.objs.size) (fun h => h.push { cls := .type "tuple_iterator", data := .fields #[.ref t, .int 0 0] }) fun h => h.IsTuple t items :=
  ⟨fun prog w A E s Q ht h => wpAny_pyIter_tuple ht h⟩
theorem beg_zip (z TI TO : Addr) : Beg (.ref z) (fun _ => z) (fun h => h) fun h => IsZip h z TI TO .none :=
  ⟨fun prog w A E s Q hz h => wpAny_pyIter_zip hz h⟩
end
end K82M
/-! ## part M2 -/
/-! enumerate of a tuple, of a zip of tuples: walks; list(enumerate(a tuple)). -/
namespace K82M
open PySem PySem.Spec PyProof.Rows L2
/-- enumerate(a tuple) -/
def IteT (K : PySem.W.Frag) (a : Addr) : It :=
  ⟨fun i H => ∃ (xs : List V) (x : V), SqT K H a xs ∧ xs[i]? = some x, fun i H v H' => ∃ T x, v = .ref T ∧ H T = none ∧ H' = upd H T (.tup [.int (i : Nat), x]) ∧ ∀ xs, SqT K H a xs → xs[i]? = some x, fun i H => ∃ xs : List V, SqT K H a xs ∧ xs.length ≤ i⟩
theorem turn_enumT {P : Program} {w : World} {K : PySem.W.Frag} {elts : List Expr} {kk : Nat} {tpos : Pos} (a e it : Addr) :
    Turn P w K (.Tuple elts kk tpos) (IteT K a) [e, it] e (fun i h => (∃ old, IsEnum h e it ((i : Nat) : Int) old) ∧ h.IsTupleIter it a i ∧ e ≠ it) where
  mem := by simp
  obj := fun i h st b hb => by
    obtain ⟨⟨old, he⟩, ⟨o, ho, hc, hd⟩, _⟩ := st
    have e' : b = e ∨ b = it := by simpa using hb
    rcases e' with z | z
    · rw [z]; exact ⟨_, he, fun v q => nomatch q⟩
    · rw [z]; exact ⟨o, ho, fun v q => by rw [hd] at q; cases q⟩
  keep := fun i h h' st k => let ⟨⟨old, he⟩, hi, hne⟩ := st; ⟨⟨old, k e (by simp) _ he⟩, hi.at fun o q => k it (by simp) o q, hne⟩
  item := by
    intro X hP hw hK hc i pins s σ H E I hf st hg
    subst hP hw hK
    obtain ⟨⟨old, he⟩, hit, hne⟩ := st
    obtain ⟨xs, x, hq, hx⟩ := hg
    obtain ⟨its, rv, p, hz⟩ := I.tuple hq
    obtain ⟨u, hu, ru⟩ := rv.get hx
    have hel : e < s.heap.objs.size := Heap.lt_size he
    have hil : it < s.heap.objs.size := by obtain ⟨_, q, _⟩ := hit; exact Heap.lt_size q
    refine pyNext_enum (v := .none) (f := false) he (.inl rfl) fun E' => RZ.nextOf_tuple_item hit p (x := u) (by simpa using hu) fun h₁ hit₁ sb₁ => ⟨h₁, s.toks, rfl, (sb₁.2 e hne).trans he, fun h' it' v' f' he' _ hvf hT hsz hk => ?_⟩
    obtain ⟨rfl, rfl⟩ := hvf rfl
    have hs1 : h₁.objs.size = s.heap.objs.size := sb₁.1
    rw [hs1] at he' hT hsz ⊢
    refine ⟨_, rfl, wpAny_letOwnedTupleGo_enum (s := { s with heap := h', toks := s.toks + 1 }) he' fun h'' he'' sb => ?_⟩
    have hT2 : h''.get? s.heap.objs.size = some { cls := .type "tuple", data := .seq #[.int i s.toks, u] } := (sb.2 _ (Nat.ne_of_gt hel)).trans hT
    have new : ObjOk X.prog X.w (upd H s.heap.objs.size (.tup [.int (i : Nat), x])) h'' s.heap.objs.size (.tup [.int (i : Nat), x]) :=
      ⟨by show 2 ≤ sizeLine; decide, [.int i s.toks, u], .cons ⟨_, rfl⟩ (.cons ru .nil), ⟨_, hT2, rfl, _, rfl⟩⟩
    have I1 : Inv X pins σ (upd H s.heap.objs.size (.tup [.int (i : Nat), x])) { s with heap := h'', toks := s.toks + 1 } :=
      I.turnedNew (ch := [e, it]) (fun b ob hb q => (sb.2 b (fun z => hb (by simp [z]))).trans (hk b ob (fun z => hb (by simp [z])) (sb₁.extBut b ob (fun z => hb (by simp [z])) q))) hf (Nat.le_refl _) new
    refine ⟨.ref s.heap.objs.size, _, I1, rfl, ⟨_, x, rfl, I.hok.fresh (Nat.le_refl _), rfl, fun ys hy => by rw [I.tuple_inj hy hq]; exact hx⟩, ⟨⟨it', ?_⟩, hit₁.at fun o q => (sb.2 it (Ne.symm hne)).trans (hk it o (Ne.symm hne) q), hne⟩, fun b hb => ?_⟩
    · have e1 : ((i + 1 : Nat) : Int) = (i : Int) + 1 := by omega
      rw [e1]; exact he''
    · have hb' : b < s.heap.objs.size := by
        have e' : b = e ∨ b = it := by simpa using hb
        rcases e' with z | z
        · rw [z]; exact hel
        · rw [z]; exact hil
      rw [upd_ne (Nat.ne_of_lt hb')]
      exact (hf b hb).1
  done := by
    intro X hP hw hK hc i pins s σ H E I hf st hg
    subst hP hw hK
    obtain ⟨⟨old, he⟩, hit, hne⟩ := st
    obtain ⟨xs, hq, hx⟩ := hg
    obtain ⟨its, rv, p, hz⟩ := I.tuple hq
    obtain ⟨f0, f1, f2, f3, f4, f5⟩ := hf it (by simp)
    have hl := rv.length
    exact pyNext_enum_end (v := .none) (f := false) (R := fun h' => Heap.ExtBut it s.heap h') he (fun Q' E' k => RZ.nextOf_tuple_end (I.ok.hd hc) hit p (by simp; omega) fun h' ev eb o => k h' ev eb o) fun h' eb => ⟨rfl, I.turned (t' := s.toks) (fun b o hb q => eb b o hb q) f0 f1 f3 f4 f5⟩
  self := fun A i s Q E st h => let ⟨⟨_, he⟩, _⟩ := st; wpAny_pyIter_enum he h
def iEnumT (K : PySem.W.Frag) (ta : TA) : TI := fun σ H R => ta σ H fun vs H1 => ∃ a xs, vs = [.ref a] ∧ SqT K H1 a xs ∧ R (IteT K a) H1
theorem pi_enumT {X : Cx} {e : Expr} {ta : TA} {p pos tpos : Pos} {elts : List Expr} {kk : Nat} (hg : Gl X "enumerate") (hm : X.mg "enumerate" = none) (ha : PA X [e] ta) (hs : starEach [e] X.env = [(false, eval e X.env)] := by rfl) :
    PI X (.Tuple elts kk tpos) (.Call (.Name "enumerate" p) [e] [] pos) (iEnumT X.K ta) := by
  refine ⟨fun pins s σ H R I h => ?_⟩
  refine Call_ (ld_blt I hg hm boot_enumerate (PyProof.Rows.callWith_type1 (thn (ha.run pos pins s σ H _ I h) fun us s1 ⟨vs, H1, I1, r1, q1⟩ => ?_) hs rfl))
  obtain ⟨a, xs, ex, hq, q⟩ := q1
  subst ex
  cases r1 with
  | cons r rr =>
    cases rr
    cases r
    obtain ⟨its, rv, p', hz⟩ := I1.tuple hq
    have hz1 : (s1.heap.push { cls := .type "tuple_iterator", data := .fields #[.ref a, .int 0 0] }).objs.size = s1.heap.objs.size + 1 := Heap.size_push ..
    refine call_enum (beg_tup a its.toArray) p' fun h' eh he hsz hk => wpAny_pyIter_enum he ?_
    rw [hz1] at he hsz ⊢
    have hk' : ∀ b o, s1.heap.get? b = some o → h'.get? b = some o := fun b o q => hk b o (Heap.get?_push_of_some _ q)
    have hit : h'.IsTupleIter s1.heap.objs.size a 0 := ⟨_, hk _ _ (Heap.get?_push_size _ rfl), rfl, rfl⟩
    have I2 : Inv X pins σ H1 { s1 with heap := h' } := I1.kept (t' := s1.toks) hk'
    refine ⟨s1.heap.objs.size + 1, [s1.heap.objs.size + 1, s1.heap.objs.size], _, _, H1, rfl, I2, turn_enumT a (s1.heap.objs.size + 1) s1.heap.objs.size, ⟨⟨.none, he⟩, hit, Nat.succ_ne_self _⟩, fun b hb => ?_, q⟩
    have e' : b = s1.heap.objs.size + 1 ∨ b = s1.heap.objs.size := by simpa using hb
    have hle : s1.heap.objs.size ≤ b := by
      rcases e' with z | z
      · rw [z]; exact Nat.le_add_right _ _
      · rw [z]; exact Nat.le_refl _
    exact I1.fpOk hle (I1.hok.fresh hle)
/-- enumerate(zip(a tuple, a tuple)) of one length -/
def ItzE (K : PySem.W.Frag) (a b : Addr) : It :=
  ⟨fun i H => ∃ (xs ys : List V) (x y : V), SqT K H a xs ∧ SqT K H b ys ∧ xs[i]? = some x ∧ ys[i]? = some y,
    fun i H v H' => ∃ T1 T2 x y, v = .ref T2 ∧ H T1 = none ∧ (upd H T1 (.tup [x, y])) T2 = none ∧ H' = upd (upd H T1 (.tup [x, y])) T2 (.tup [.int (i : Nat), .ref T1]) ∧ (∀ xs, SqT K H a xs → xs[i]? = some x) ∧ ∀ ys, SqT K H b ys → ys[i]? = some y,
    fun i H => ∃ xs : List V, SqT K H a xs ∧ xs.length ≤ i⟩
theorem turn_enumZ {P : Program} {w : World} {K : PySem.W.Frag} {elts : List Expr} {kk : Nat} {tpos : Pos} {a b e z TI TO i1 i2 : Addr} (D : ZipApart z TI TO i1 i2 a b) (n0 : e ≠ z) (n1 : e ≠ TI) (n2 : e ≠ TO) (n3 : e ≠ i1) (n4 : e ≠ i2) :
    Turn P w K (.Tuple elts kk tpos) (ItzE K a b) [e, z, TI, TO, i1, i2] e (fun i h => (∃ old, IsEnum h e z ((i : Nat) : Int) old) ∧ (∃ v f, Mark v ∧ IsZ h z TI TO v f) ∧ IsPair h TI (.ref i1) (.ref i2) ∧ (∃ x y, IsPair h TO x y) ∧ h.IsTupleIter i1 a i ∧ h.IsTupleIter i2 b i) where
  mem := by simp
  obj := fun i h st c hc => by
    obtain ⟨⟨old, he⟩, ⟨v, f, _, hz⟩, hTI, ⟨x, y, hTO⟩, ⟨o1, e1, _, d1⟩, ⟨o2, e2, _, d2⟩⟩ := st
    have e' : c = e ∨ c = z ∨ c = TI ∨ c = TO ∨ c = i1 ∨ c = i2 := by simpa using hc
    rcases e' with q | q | q | q | q | q
    · rw [q]; exact ⟨_, he, fun v q => nomatch q⟩
    · rw [q]; exact ⟨_, hz, fun v q => nomatch q⟩
    · rw [q]; exact ⟨_, hTI, fun v q => nomatch q⟩
    · rw [q]; exact ⟨_, hTO, fun v q => nomatch q⟩
    · rw [q]; exact ⟨o1, e1, fun v q => by rw [d1] at q; cases q⟩
    · rw [q]; exact ⟨o2, e2, fun v q => by rw [d2] at q; cases q⟩
  keep := fun i h h' st k => by
    obtain ⟨⟨old, he⟩, ⟨v, f, mv, hz⟩, hTI, ⟨x, y, hTO⟩, h1, h2⟩ := st
    exact ⟨⟨old, k e (by simp) _ he⟩, ⟨v, f, mv, k z (by simp) _ hz⟩, k TI (by simp) _ hTI, ⟨x, y, k TO (by simp) _ hTO⟩, h1.at fun o q => k i1 (by simp) o q, h2.at fun o q => k i2 (by simp) o q⟩
  item := by
    intro X hP hw hK hc i pins s σ H E I hf st hg
    subst hP hw hK
    obtain ⟨⟨old, he⟩, ⟨v, f, mv, hz⟩, hTI, ⟨x0, y0, hTO⟩, h1, h2⟩ := st
    obtain ⟨xs, ys, x, y, hqx, hqy, hx, hy⟩ := hg
    obtain ⟨its, rv, p, _⟩ := I.tuple hqx
    obtain ⟨its2, rv2, p2, _⟩ := I.tuple hqy
    obtain ⟨u, hu, ru⟩ := rv.get hx
    obtain ⟨u2, hu2, ru2⟩ := rv2.get hy
    have hlt : ∀ c ∈ [e, z, TI, TO, i1, i2], c < s.heap.objs.size := fun c hc => by
      have e' : c = e ∨ c = z ∨ c = TI ∨ c = TO ∨ c = i1 ∨ c = i2 := by simpa using hc
      rcases e' with q | q | q | q | q | q
      · rw [q]; exact Heap.lt_size he
      · rw [q]; exact Heap.lt_size hz
      · rw [q]; exact Heap.lt_size hTI
      · rw [q]; exact Heap.lt_size hTO
      · rw [q]; obtain ⟨_, e1, _⟩ := h1; exact Heap.lt_size e1
      · rw [q]; obtain ⟨_, e2, _⟩ := h2; exact Heap.lt_size e2
    refine pyNext_enum (v := .none) (f := false) he (.inl rfl) fun E' => nextOf_zip D hz mv hTI hTO h1 h2 p p2 (x := u) (y := u2) (by simpa using hu) (by simpa using hu2) fun h₁ v' f' a' b' z' mv' TO' h1' h2' hT hsz hk =>
      ⟨h₁, s.toks, rfl, hk e _ n0 n2 n3 n4 he, fun h' it' v'' f'' he' _ hvf hT2 hsz2 hk2 => ?_⟩
    obtain ⟨rfl, rfl⟩ := hvf rfl
    rw [hsz] at he' hT2 hsz2 ⊢
    refine ⟨_, rfl, wpAny_letOwnedTupleGo_enum (s := { s with heap := h', toks := s.toks + 1 }) he' fun h'' he'' sb => ?_⟩
    have el := hlt e (by simp)
    have up : ∀ c o, c ≠ e → h₁.get? c = some o → h''.get? c = some o := fun c o hc q => (sb.2 c hc).trans (hk2 c o hc q)
    have new1 : ObjOk X.prog X.w (upd H s.heap.objs.size (.tup [x, y])) h₁ s.heap.objs.size (.tup [x, y]) :=
      ⟨by show 2 ≤ sizeLine; decide, [u, u2], .cons ru (.cons ru2 .nil), ⟨_, hT, rfl, _, rfl⟩⟩
    have I1 : Inv X pins σ (upd H s.heap.objs.size (.tup [x, y])) { s with heap := h₁ } :=
      I.turnedNew (t' := s.toks) (ch := [z, TO, i1, i2]) (fun c o hb q => hk c o (fun q' => hb (by simp [q'])) (fun q' => hb (by simp [q'])) (fun q' => hb (by simp [q'])) (fun q' => hb (by simp [q'])) q)
        (fun c hc => hf c (by
          have e' : c = z ∨ c = TO ∨ c = i1 ∨ c = i2 := by simpa using hc
          rcases e' with q | q | q | q <;> rw [q] <;> simp)) (Nat.le_refl _) new1
    have hT3 : h''.get? (s.heap.objs.size + 1) = some { cls := .type "tuple", data := .seq #[.int i s.toks, .ref s.heap.objs.size] } := (sb.2 _ (Nat.ne_of_gt (Nat.lt_succ_of_lt el))).trans hT2
    have new2 : ObjOk X.prog X.w (upd (upd H s.heap.objs.size (.tup [x, y])) (s.heap.objs.size + 1) (.tup [.int (i : Nat), .ref s.heap.objs.size])) h'' (s.heap.objs.size + 1) (.tup [.int (i : Nat), .ref s.heap.objs.size]) :=
      ⟨by show 2 ≤ sizeLine; decide, [.int i s.toks, .ref s.heap.objs.size], .cons ⟨_, rfl⟩ (.cons rfl .nil), ⟨_, hT3, rfl, _, rfl⟩⟩
    have fe : FpOk X pins (upd H s.heap.objs.size (.tup [x, y])) e := by
      obtain ⟨f0, fr⟩ := hf e (by simp)
      exact ⟨by rw [upd_ne (Nat.ne_of_lt el)]; exact f0, fr⟩
    have I2 : Inv X pins σ (upd (upd H s.heap.objs.size (.tup [x, y])) (s.heap.objs.size + 1) (.tup [.int (i : Nat), .ref s.heap.objs.size])) { s with heap := h'', toks := s.toks + 1 } :=
      I1.turnedNew (t' := s.toks + 1) (ch := [e]) (fun c o hb q => up c o (fun q' => hb (by simp [q'])) q) (fun c hc => by
        have e' : c = e := by simpa using hc
        rw [e']; exact fe) (Nat.le_of_eq hsz) new2
    refine ⟨.ref (s.heap.objs.size + 1), _, I2, rfl, ⟨_, _, x, y, rfl, I.hok.fresh (Nat.le_refl _), ?_, rfl, fun l hl => by rw [I.tuple_inj hl hqx]; exact hx, fun l hl => by rw [I.tuple_inj hl hqy]; exact hy⟩, ⟨⟨it', ?_⟩, ⟨v', f', mv', ?_⟩, ?_, ⟨a', b', ?_⟩, ?_, ?_⟩, fun c hcm => ?_⟩
    · rw [upd_ne (Nat.succ_ne_self _)]; exact I.hok.fresh (Nat.le_succ _)
    · have e1 : ((i + 1 : Nat) : Int) = (i : Int) + 1 := by omega
      rw [e1]; exact he''
    · exact up _ _ (Ne.symm n0) z'
    · exact up _ _ (Ne.symm n1) (hk _ _ D.TIz D.TITO D.TIi1 D.TIi2 hTI)
    · exact up _ _ (Ne.symm n2) TO'
    · exact h1'.at fun o q => up _ o (Ne.symm n3) q
    · exact h2'.at fun o q => up _ o (Ne.symm n4) q
    · have hc' := hlt c hcm
      rw [upd_ne (Nat.ne_of_lt (Nat.lt_succ_of_lt hc')), upd_ne (Nat.ne_of_lt hc')]
      exact (hf c hcm).1
  done := by
    intro X hP hw hK hc i pins s σ H E I hf st hg
    subst hP hw hK
    obtain ⟨⟨old, he⟩, ⟨v, f, mv, hz⟩, hTI, ⟨x0, y0, hTO⟩, h1, h2⟩ := st
    obtain ⟨xs, hqx, hend⟩ := hg
    obtain ⟨its, rv, p, _⟩ := I.tuple hqx
    have l1 := rv.length
    exact pyNext_enum_end (v := .none) (f := false) (R := fun h' => ∀ c o, c ≠ z → c ≠ TO → c ≠ i1 → c ≠ i2 → s.heap.get? c = some o → h'.get? c = some o) he
      (fun Q' E' k => nextOf_zip_end (l2 := b) (k2 := 0) (ys := #[]) (I.ok.hd hc) D hz mv hTI hTO h1 p (by simp; omega) k) fun h' hk => ⟨rfl, I.turnedL (t' := s.toks) (ch := [z, TO, i1, i2]) (fun c o hb q =>
        hk c o (fun q' => hb (by simp [q'])) (fun q' => hb (by simp [q'])) (fun q' => hb (by simp [q'])) (fun q' => hb (by simp [q'])) q) fun c hc => hf c (by
          have e' : c = z ∨ c = TO ∨ c = i1 ∨ c = i2 := by simpa using hc
          rcases e' with q | q | q | q <;> rw [q] <;> simp)⟩
  self := fun A i s Q E st h => let ⟨⟨_, he⟩, _⟩ := st; wpAny_pyIter_enum he h
def iEnumZ (K : PySem.W.Frag) (ta : TA) : TI := fun σ H R => ta σ H fun vs H1 => ∃ a b xs ys, vs = [.ref a, .ref b] ∧ SqT K H1 a xs ∧ SqT K H1 b ys ∧ R (ItzE K a b) H1
theorem pi_enumZ {X : Cx} {e e2 : Expr} {ta : TA} {p p2 pos pos2 tpos : Pos} {elts : List Expr} {kk : Nat} (hg : Gl X "enumerate") (hm : X.mg "enumerate" = none) (hg2 : Gl X "zip") (hm2 : X.mg "zip" = none) (ha : PA X [e, e2] ta)
    (hs : starEach [e, e2] X.env = (false, eval e X.env) :: starEach [e2] X.env := by rfl) (hpl : (backTo pos2 (starEach [e2] X.env)).any (·.1) = false := by rfl)
    (na : starEach [.Call (.Name "zip" p2) [e, e2] [] pos2] X.env = (false, eval (.Call (.Name "zip" p2) [e, e2] [] pos2) X.env) :: starEach [] X.env := by rfl) :
    PI X (.Tuple elts kk tpos) (.Call (.Name "enumerate" p) [.Call (.Name "zip" p2) [e, e2] [] pos2] [] pos) (iEnumZ X.K ta) := by
  refine ⟨fun pins s σ H R I h => ?_⟩
  refine Call_ (ld_blt I hg hm boot_enumerate (PyProof.Rows.callWith_type1 (args_cons (thn (Q := fun v s2 => ∃ z TI TO i1 i2 a b H1, v = .ref z ∧ Inv X pins σ H1 s2 ∧ ZipApart z TI TO i1 i2 a b ∧ IsZip s2.heap z TI TO .none ∧ IsPair s2.heap TI (.ref i1) (.ref i2) ∧ IsPair s2.heap TO .none .none ∧ s2.heap.IsTupleIter i1 a 0 ∧ s2.heap.IsTupleIter i2 b 0 ∧ (∀ c ∈ [z, TI, TO, i1, i2], FpOk X pins H1 c) ∧ R (ItzE X.K a b) H1)
    (Call_ (ld_blt I hg2 hm2 PyProof.Rows.boot_zip (PyProof.Rows.callWith_type1 (thn (ha.run pos2 pins s σ H _ I h) fun us s1 ⟨vs, H1, I1, r1, q1⟩ => ?_) hs hpl))) fun v s2 hv => args_nil ?_) na) na rfl))
  · obtain ⟨a, b, xs, ys, ex, hqx, hqy, q⟩ := q1
    subst ex
    cases r1 with
    | cons r rr =>
      cases rr with
      | cons r' rr =>
        cases rr
        cases r
        cases r'
        have fresh5 : ∀ c, c ∈ [s1.heap.objs.size + 4, s1.heap.objs.size + 2, s1.heap.objs.size + 3, s1.heap.objs.size, s1.heap.objs.size + 1] → FpOk X pins H1 c := fun c hcm => by
          have e' : c = s1.heap.objs.size + 4 ∨ c = s1.heap.objs.size + 2 ∨ c = s1.heap.objs.size + 3 ∨ c = s1.heap.objs.size ∨ c = s1.heap.objs.size + 1 := by simpa using hcm
          have hle : s1.heap.objs.size ≤ c := by omega
          exact I1.fpOk hle (I1.hok.fresh hle)
        obtain ⟨its, rv, p1, _⟩ := I1.tuple hqx
        obtain ⟨its2, rv2, p2, _⟩ := I1.tuple hqy
        obtain ⟨o1, ho1, _⟩ := id p1
        obtain ⟨o2, ho2, _⟩ := id p2
        refine RZ.call_zipT (show s1.heap.IsTuple a its.toArray from p1) (show s1.heap.IsTuple b its2.toArray from p2) fun h' hz hTI hTO h1 h2 hsz hk => ?_
        have I2 : Inv X pins σ H1 { s1 with heap := h' } := I1.kept (t' := s1.toks) hk
        exact ⟨s1.heap.objs.size + 4, _, _, _, _, a, b, H1, rfl, I2, PySem.W.ktu_apart s1.heap.objs.size a b (Heap.lt_size ho1) (Heap.lt_size ho2), hz, hTI, hTO, h1, h2, fresh5, q⟩
  · obtain ⟨z, TI, TO, i1, i2, a, b, H1, rfl, I1, D, hz, hTI, hTO, h1, h2, fp, q⟩ := hv
    refine call_enum (beg_zip z TI TO) hz fun h' eh he hsz hk => wpAny_pyIter_enum he ?_
    have I2 : Inv X pins σ H1 { s2 with heap := h' } := I1.kept (t' := s2.toks) hk
    have n : ∀ c o, s2.heap.get? c = some o → s2.heap.objs.size ≠ c := fun c o e => Nat.ne_of_gt (Heap.lt_size e)
    obtain ⟨o1, e1, _⟩ := id h1
    obtain ⟨o2, e2, _⟩ := id h2
    refine ⟨s2.heap.objs.size, [s2.heap.objs.size, z, TI, TO, i1, i2], _, _, H1, rfl, I2, turn_enumZ D (n _ _ hz) (n _ _ hTI) (n _ _ hTO) (n _ _ e1) (n _ _ e2), ⟨⟨.none, he⟩, ⟨.none, false, .inl rfl, hk _ _ hz⟩, hk _ _ hTI, ⟨.none, .none, hk _ _ hTO⟩, h1.at fun o q => hk _ o q, h2.at fun o q => hk _ o q⟩, fun c hc => ?_, q⟩
    rcases List.mem_cons.mp hc with w | w
    · rw [w]; exact I1.fpOk (Nat.le_refl _) (I1.hok.fresh (Nat.le_refl _))
    · exact fp c w
end K82M
/-! ## part M3 -/
/-! sorted of data, min, max, sum of a tuple; list(enumerate(a tuple)). -/
namespace K82M
open PySem PySem.Spec PyProof.Rows L2 PySem.W
section
variable {prog : Program} {w : World} {A : Around} {E : Value → Shared → Prop} {s : Shared}
theorem collect_tup {l : Addr} {vs : List Value} {Q : List Value → Shared → Prop} (hl : s.heap.IsTuple l vs.toArray)
    (h : Q vs { s with heap := (s.heap.push (seqObj "list" #[] 0)).update s.heap.objs.size (Obj.mapSeq (· ++ vs.toArray)) }) (hsz : vs.length ≤ sizeLine) :
    wpAny (model prog w) A (collect (.ref l)) Q E s := by
  obtain ⟨o, ho, hc, n, hd⟩ := id hl
  unfold collect
  refine wpAny_bind (wpAny_runValue (codeAny_builtin entry_proto_collect' ?_))
  show wpAny _ _ (do again (.builtin "list.__iadd__" ⟨[← newList [], .ref l], []⟩)) _ _ s
  refine wpAny_bind (wpAny_newList (wpAny_pure ⟨Code.quiet_builtin _ (by decide +kernel), codeAny_builtin entry_list_iadd' ?_⟩))
  show wpAny _ _ (Builtin.List.listExtendWith (.ref s.heap.objs.size) (.ref l) (.ref s.heap.objs.size)) _ _ { s with heap := s.heap.push (seqObj "list" #[] 0) }
  unfold Builtin.List.listExtendWith
  have ho' : (s.heap.push (seqObj "list" #[] 0)).get? l = some o := Heap.get?_push_of_some _ ho
  refine wpAny_bind (wpAny_typeOf (T := "tuple") ⟨o, ho', hc⟩ ?_)
  have ht : (Value.type "tuple" == Value.type "tuple") = true := by rfl
  rw [if_pos (by rw [ht]; simp)]
  refine wpAny_bind (listItems_at ho' hd ?_)
  refine wpAny_bind (listItems_at (xs := #[]) (n := 0) (Heap.get?_push_size _ rfl) rfl ?_)
  rw [if_neg (by simp)]
  refine wpAny_bind (listUpdate_at (xs := #[]) (n := 0) (Heap.get?_push_size _ rfl) rfl ?_ (Nat.zero_le _) (by show (#[] ++ vs.toArray).size ≤ sizeLine + 1; simp only [Array.size_append, List.size_toArray, List.length_nil]; omega))
  refine wpAny_pure ?_
  show wpAny (model prog w) A (do
      let o ← load s.heap.objs.size
      match o.data with
      | .seq xs _ => pure xs.toList
      | _ => unsupported "internal:collect") Q E { s with heap := (s.heap.push (seqObj "list" #[] 0)).update s.heap.objs.size (Obj.mapSeq (· ++ vs.toArray)) }
  refine wpAny_bind (wpAny_load (get?_update_seq (Heap.get?_push_size _ rfl) _) ?_)
  show wpAny _ _ (pure ((#[] : Array Value) ++ vs.toArray).toList) Q E _
  rw [show ((#[] : Array Value) ++ vs.toArray).toList = vs by simp]
  exact wpAny_pure h
theorem sorted_of_tup {l : Addr} {vs : List Value} {Q : Value → Shared → Prop} (hl : s.heap.IsTuple l vs.toArray) (hL : vs.length ≤ sizeLine)
    (body : ∀ E' : Value → Shared → Prop, wpAny (model prog w) A.in1.in1 (Builtin.«list.sort» ⟨[.ref (s.heap.objs.size + 1)], []⟩) (fun f s' => f = .done (.ret .none) ∧ Q (.ref (s.heap.objs.size + 1)) s') E' { s with heap := copyHeap s.heap vs }) :
    wpAny (model prog w) A (call (.builtin "sorted") [.ref l]) Q E s := by
  refine call_function_entry_kw kind_sorted plain_sorted entry_sorted (args_sorted1 _) ?_
  unfold Builtin.«sorted»
  refine wpAny_bind (m := checkCount "sorted" 1 1 _) (wpAny_pure ?_)
  refine wpAny_bind (collect_tup hl ?_ hL)
  refine wpAny_bind (wpAny_newList ?_ hL)
  have hsz : ((s.heap.push (seqObj "list" #[] 0)).update s.heap.objs.size (Obj.mapSeq (· ++ vs.toArray))).objs.size = s.heap.objs.size + 1 := by
    rw [Heap.size_update, size_push']
  show wpAny _ _ _ _ _ { s with heap := copyHeap s.heap vs }
  rw [hsz]
  refine wpAny_bind (wpAny_holding (wpAny_call_entry_kw slot_list_sort ⟨_, copyHeap_at s.heap vs, rfl⟩ entry_list_sort ?body (args_list_sort _)))
  case body =>
    show wpAny (model prog w) A.in1.in1 (Builtin.«list.sort» ⟨[.ref (s.heap.objs.size + 1)], []⟩) _ _ _
    refine wpAny_mono (body _) (fun f s' hf => ?_) fun _ _ e => e
    obtain ⟨rfl, hq⟩ := hf
    exact ⟨_, rfl, wpAny_pure ⟨_, rfl, hq⟩⟩
theorem sorted_tup_data {β : Type} {vs : List Value} {bs : List β} {enc : β → PyData} {R : Value → β → Prop} {l : Addr} {Q : Value → Shared → Prop} (hl : s.heap.IsTuple l vs.toArray) (e : EachIs R vs bs) (er : EachIs (fun v b => ∃ as, Reads s.heap v (enc b) as) vs bs) (hal : AllAlike (bs.map enc)) (hk : Sortable (bs.map enc)) (hL : bs.length ≤ sizeLine)
    (hu : ∀ b, b ∈ bs → A.units + 2 + (enc b).depth < cLine) (h : ∀ out, out.length = bs.length → EachIs R out (bs.mergeSort (dataLe false enc)) → Q (.ref (s.heap.objs.size + 1)) { s with heap := sortedAll s.heap vs (List.toArray out) }) :
    wpAny (model prog w) A (call (.builtin "sorted") [.ref l]) Q E s := by
  have er' : EachIs (fun v b => ∃ as, Reads (sortingHeap (copyHeap s.heap vs) (s.heap.objs.size + 1) vs) v (enc b) as) vs bs := er.mono fun _ _ ⟨as, r⟩ => ⟨as, PyProof.Rows.Reads.keeps (fun _ _ => sorting_copy_old) r⟩
  exact sorted_of_tup hl (by rw [e.length]; exact hL) fun _ => list_sort_vals (s := { s with heap := copyHeap s.heap vs }) (copyHeap_at s.heap vs) (SortsAt.data (s := { s with heap := sortingHeap (copyHeap s.heap vs) (s.heap.objs.size + 1) vs }) (each_map (R := fun v d => ∃ as, Reads (sortingHeap (copyHeap s.heap vs) (s.heap.objs.size + 1) vs) v d as) enc er') hal hk (bound_map hu)) (by rw [e.length]; exact hL)
    ⟨rfl, h _ (by rw [sortVals_length false rfl]; exact e.length) (sortVals_data false e er' hal)⟩
end
/-- sorted of a list or tuple of data -/
def rSortD (K : PySem.W.Frag) {β : Type} (P : V → β → Prop) (enc : β → PyData) : List V → Hp → VK → Prop := fun vs H Q => ∃ (a : Addr) (xs : List V) (bs : List β), vs = [V.ref a] ∧ (SqL K H a xs ∨ SqT K H a xs) ∧ EachIs P xs bs ∧ (∀ x b, P x b → Dp K H x (enc b)) ∧ AllAlike (bs.map enc) ∧ Sortable (bs.map enc) ∧ bs.length ≤ 1000 ∧ (∀ b ∈ bs, (enc b).depth ≤ 60) ∧
  ∀ (ys : List V) (p : Addr), EachIs P ys (bs.mergeSort (dataLe false enc)) → H p = none → Q (.ref p) (upd H p (.lst ys))
theorem each_rel {β : Type} {P : V → β → Prop} : ∀ {xs : List V} {bs : List β} {its : List Value}, EachIs P xs bs → Vals xs its → EachIs (fun u b => ∃ x, RelV x u ∧ P x b) its bs
  | _, _, _, .nil, r => by cases r; exact .nil
  | _, _, _, .cons h t, r => by
    cases r with
    | cons r1 r2 => exact .cons ⟨_, r1, h⟩ (each_rel t r2)
theorem each_back {β : Type} {P : V → β → Prop} : ∀ {its : List Value} {bs : List β}, EachIs (fun u b => ∃ x, RelV x u ∧ P x b) its bs → ∃ xs, Vals xs its ∧ EachIs P xs bs
  | _, _, .nil => ⟨[], .nil, .nil⟩
  | _, _, .cons h t => by
    obtain ⟨x, h1, h2⟩ := h
    obtain ⟨xs, h3, h4⟩ := each_back t
    exact ⟨x :: xs, .cons h1 h3, .cons h2 h4⟩
section
variable {X : Cx}
theorem cr_sortD {β : Type} {P : V → β → Prop} {enc : β → PyData} (hu : X.A.units + 64 < cLine) : CallR X (.builtin "sorted") (rSortD X.K P enc) := by
  intro pins s σ H vs us Q I r h
  obtain ⟨a, xs, bs, rfl, hs, he, hd, hal, hk, hz, hdep, q⟩ := h
  rw [Vals.ref1 r]
  have fin : ∀ (its : List Value), Vals xs its → ∀ out, out.length = bs.length → EachIs (fun u b => ∃ x, RelV x u ∧ P x b) out (bs.mergeSort (dataLe false enc)) → EP X pins σ Q (.ref (s.heap.objs.size + 1)) { s with heap := sortedAll s.heap its (List.toArray out) } := fun its rv out hl ho => by
    obtain ⟨ys, h3, h4⟩ := each_back ho
    obtain ⟨ep, he'⟩ := PyProof.Rows.sortedAll_at s.heap its out.toArray
    have hlen : ys.length ≤ sizeLine := by rw [h3.length, hl, sizeLine_eq]; omega
    exact ⟨.ref _, upd H (s.heap.objs.size + 1) (.lst ys), I.laid (t' := s.toks) (fun _ _ => PyProof.Rows.sortedAll_old) (Nat.le_succ _) ⟨hlen, out, ep, h3, he'⟩, rfl, q ys _ h4 (I.hok.fresh (Nat.le_succ _))⟩
  have rd : ∀ {its : List Value}, Vals xs its → EachIs (fun v b => ∃ as, Reads s.heap v (enc b) as) its bs := fun rv => (each_rel he rv).mono fun u b ⟨x, h1, h2⟩ => Dp.reads I _ x u (hd x b h2) h1
  have hz' : bs.length ≤ sizeLine := by rw [sizeLine_eq]; omega
  have hu' : ∀ b, b ∈ bs → X.A.units + 2 + (enc b).depth < cLine := fun b hb => by have := hdep b hb; omega
  rcases hs with hs | hs
  · obtain ⟨its, rv, hl, _⟩ := I.list hs
    exact sorted_data hl.isList (each_rel he rv) (rd rv) hal hk hz' hu' (fin its rv)
  · obtain ⟨its, rv, hl, _⟩ := I.tuple hs
    exact sorted_tup_data hl (each_rel he rv) (rd rv) hal hk hz' hu' (fin its rv)
/-- min, max, sum of a tuple of two ints -/
theorem cr_minT (hc : X.calm = true) (hu : X.A.units + 64 < cLine) : CallR X (.builtin "min") (fun vs H Q => ∃ (a : Addr) (i j : Int), vs = [V.ref a] ∧ SqT X.K H a [.int i, .int j] ∧ Q (.int (if j < i then j else i)) H) := by
  intro pins s σ H vs us Q I r h
  obtain ⟨a, i, j, rfl, hs, q⟩ := h
  rw [Vals.ref1 r]
  obtain ⟨its, rv, hl, _⟩ := I.tuple hs
  obtain ⟨u1, u2, rfl, ⟨t1, rfl⟩, ⟨t2, rfl⟩⟩ := vals2 rv
  have rs : ReadsAll s.heap ([Value.int i t1, Value.int j t2] : List Value) [PyData.int i, PyData.int j] _ := .cons (.int i t1) (.cons (.int j t2) .nil)
  refine min_tuple_data (I.ok.hd hc) hl rs ⟨fun x hx y hy => ?_, fun x hx => ?_⟩ (by simp [PyData.depthAll, PyData.depth]; omega) fun k v h' tk bs hk hr kp => ?_
  · simp only [List.mem_cons, List.not_mem_nil, or_false] at hx hy
    rcases hx with rfl | rfl <;> rcases hy with rfl | rfl <;> rfl
  · simp only [List.mem_cons, List.not_mem_nil, or_false] at hx
    rcases hx with rfl | rfl <;> exact fun z => nomatch z
  · have e : minD (PyData.int i) [PyData.int j] = .int (if j < i then j else i) := by
      have := minD_ints i [j]
      rw [show ([j] : List Int).map PyData.int = [PyData.int j] from rfl] at this
      rw [this]
      show PyData.int (min i j) = _
      congr 1
      split <;> omega
    rw [e] at hr
    cases hr with
    | int _ t => exact ⟨.int _, H, I.kept (t' := tk) kp, ⟨t, rfl⟩, q⟩
theorem cr_maxT (hc : X.calm = true) (hu : X.A.units + 64 < cLine) : CallR X (.builtin "max") (fun vs H Q => ∃ (a : Addr) (i j : Int), vs = [V.ref a] ∧ SqT X.K H a [.int i, .int j] ∧ Q (.int (if j > i then j else i)) H) := by
  intro pins s σ H vs us Q I r h
  obtain ⟨a, i, j, rfl, hs, q⟩ := h
  rw [Vals.ref1 r]
  obtain ⟨its, rv, hl, _⟩ := I.tuple hs
  obtain ⟨u1, u2, rfl, ⟨t1, rfl⟩, ⟨t2, rfl⟩⟩ := vals2 rv
  have rs : ReadsAll s.heap ([Value.int i t1, Value.int j t2] : List Value) [PyData.int i, PyData.int j] _ := .cons (.int i t1) (.cons (.int j t2) .nil)
  refine max_tuple_data (I.ok.hd hc) hl rs ⟨fun x hx y hy => ?_, fun x hx => ?_⟩ (by simp [PyData.depthAll, PyData.depth]; omega) fun k v h' tk bs hk hr kp => ?_
  · simp only [List.mem_cons, List.not_mem_nil, or_false] at hx hy
    rcases hx with rfl | rfl <;> rcases hy with rfl | rfl <;> rfl
  · simp only [List.mem_cons, List.not_mem_nil, or_false] at hx
    rcases hx with rfl | rfl <;> exact fun z => nomatch z
  · have e : maxD (PyData.int i) [PyData.int j] = .int (if j > i then j else i) := by
      have := maxD_ints i [j]
      rw [show ([j] : List Int).map PyData.int = [PyData.int j] from rfl] at this
      rw [this]
      show PyData.int (max i j) = _
      congr 1
      split <;> omega
    rw [e] at hr
    cases hr with
    | int _ t => exact ⟨.int _, H, I.kept (t' := tk) kp, ⟨t, rfl⟩, q⟩
theorem cr_sumT (hc : X.calm = true) : CallR X (.builtin "sum") (fun vs H Q => ∃ (a : Addr) (i j : Int), vs = [V.ref a] ∧ SqT X.K H a [.int i, .int j] ∧ Q (.int (i + j)) H) := by
  intro pins s σ H vs us Q I r h
  obtain ⟨a, i, j, rfl, hs, q⟩ := h
  rw [Vals.ref1 r]
  obtain ⟨its, rv, hl, _⟩ := I.tuple hs
  obtain ⟨u1, u2, rfl, ⟨t1, rfl⟩, ⟨t2, rfl⟩⟩ := vals2 rv
  have hl' : s.heap.IsTuple a (intItems #[(i, t1), (j, t2)]) := by
    rw [show intItems #[(i, t1), (j, t2)] = #[Value.int i t1, Value.int j t2] by simp [intItems]]
    exact hl
  refine ktm_sumG (I.ok.hd hc) hl' fun h' tk t' kp => ?_
  have e : preSum (numAt #[(i, t1), (j, t2)]) (#[(i, t1), (j, t2)] : Array (Int × Tok)).size = i + j := by
    simp [preSum, numAt]
  rw [e]
  exact ⟨.int _, H, I.kept (t' := tk) kp, ⟨t', rfl⟩, q⟩
end
/-! ### list(enumerate(a tuple)) -/
inductive EnumMade : Nat → Hp → Hp → List V → List V → Prop
  | nil {k : Nat} {H : Hp} : EnumMade k H H [] []
  | cons {k : Nat} {H H2 : Hp} {T : Addr} {x : V} {xs ys : List V} (h : H T = none) (t : EnumMade (k + 1) (upd H T (.tup [.int (k : Int), x])) H2 xs ys) : EnumMade k H H2 (x :: xs) (.ref T :: ys)
theorem enumerate_no_len : typeLookup (.type "enumerate") "__len__" = pure none := by rw [typeLookup_type, builtinLookup_eq_fast]; kernel_rfl
theorem enumerate_no_hint : typeLookup (.type "enumerate") "__length_hint__" = pure none := by rw [typeLookup_type, builtinLookup_eq_fast]; kernel_rfl
theorem upd_upd {H : Hp} {a : Addr} {o o' : HO} : upd (upd H a o) a o' = upd H a o' := by
  funext b
  by_cases z : b = a
  · subst z; rw [upd_same, upd_same]
  · rw [upd_ne z, upd_ne z, upd_ne z]
theorem upd_comm {H : Hp} {a b : Addr} {o o' : HO} (h : a ≠ b) : upd (upd H a o) b o' = upd (upd H b o') a o := by
  funext c
  by_cases z : c = a
  · subst z; rw [upd_ne h, upd_same, upd_same]
  · by_cases y : c = b
    · subst y; rw [upd_same, upd_ne z, upd_same]
    · rw [upd_ne y, upd_ne z, upd_ne z, upd_ne y]
theorem vals_app : ∀ {xs ys : List V} {us vs : List Value}, Vals xs us → Vals ys vs → Vals (xs ++ ys) (us ++ vs)
  | _, _, _, _, .nil, h => h
  | _, _, _, _, .cons a b, h => .cons a (vals_app b h)
section
variable {X : Cx} {pins : List (Addr × Obj)} {σ : L2.St}
theorem ext_enum {A : Around} (hh : A.handled = none) (hc : X.calm = true) {a e it S : Addr} (res : Value) {xs : List V} : ∀ (rest : List V) (i : Nat) (K : Hp) (s : Shared) (accV : List V) (R : Result → Shared → Prop), Inv X pins σ (upd K S (.lst accV)) s → K S = none → FpOk X pins (upd K S (.lst accV)) e → FpOk X pins (upd K S (.lst accV)) it → e ≠ it →
    (∃ old v f, Mark v ∧ IsE s.heap e it i old v f) → s.heap.IsTupleIter it a i → SqT X.K K a xs → xs.drop i = rest → accV.length + rest.length ≤ 1000 →
    (∀ K2 ys s', EnumMade i K K2 rest ys → K2 S = none → Inv X pins σ (upd K2 S (.lst (accV ++ ys))) s' → R (.ok (.ret res)) s') → codeAny (model X.prog X.w) A (.builtin "list.extend.loop" ⟨[.ref S, .ref e, res], []⟩) R s := by
  intro rest
  induction rest with
  | nil =>
    intro i K s accV R I hS fe fi hne hE hit hq hd hz hR
    obtain ⟨old, v, f, mv, he⟩ := hE
    have eK : K82.Ex K (upd K S (.lst accV)) := by
      intro b o q
      rw [upd_ne (ne_of_none q hS)]; exact q
    obtain ⟨its, rv, p, _⟩ := I.tuple (K82.ex_t eK hq)
    have hl := rv.length
    have hi : xs.length ≤ i := by
      have := congrArg List.length hd
      rw [List.length_drop, List.length_nil] at this
      omega
    refine codeAny_builtin PySem.F.entry_extend_loop ?_
    rw [Around.under_plainId PySem.F.plain_extend_loop _]
    show wpAny _ A.in1 (pyNext (.ref e) >>= _) _ _ s
    refine wpAny_bind (pyNext_enum_end (R := fun h' => Heap.ExtBut it s.heap h') he (fun Q' E' k => RZ.nextOf_tuple_end hh hit p (by simp; omega) fun h' ev eb o => k h' ev eb o) fun h' eb => ?_)
    obtain ⟨f0, f1, f2, f3, f4, f5⟩ := fi
    refine wpAny_pure (hR K [] _ .nil hS ?_)
    rw [List.append_nil]
    exact I.turned (t' := s.toks) (fun b o hb q => eb b o hb q) f0 f1 f3 f4 f5
  | cons x rest ih =>
    intro i K s accV R I hS fe fi hne hE hit hq hd hz hR
    obtain ⟨old, v, f, mv, he⟩ := hE
    have eK : K82.Ex K (upd K S (.lst accV)) := by
      intro b o q
      rw [upd_ne (ne_of_none q hS)]; exact q
    obtain ⟨its, rv, p, _⟩ := I.tuple (K82.ex_t eK hq)
    have hx : xs[i]? = some x := by
      have := congrArg (fun l => l[0]?) hd
      simpa using this
    have hd' : xs.drop (i + 1) = rest := by
      have := congrArg List.tail hd
      simpa using this
    obtain ⟨u, hu, ru⟩ := rv.get hx
    have hel : e < s.heap.objs.size := Heap.lt_size he
    have hil : it < s.heap.objs.size := by obtain ⟨_, q, _⟩ := hit; exact Heap.lt_size q
    obtain ⟨hzS, accs, nS, rvS, hobS⟩ := I.hok S _ upd_same
    have hSl : S < s.heap.objs.size := Heap.lt_size hobS
    have neS : e ≠ S := fun z => by rw [z] at fe; have := fe.1; rw [upd_same] at this; cases this
    have niS : it ≠ S := fun z => by rw [z] at fi; have := fi.1; rw [upd_same] at this; cases this
    refine codeAny_builtin PySem.F.entry_extend_loop ?_
    rw [Around.under_plainId PySem.F.plain_extend_loop _]
    show wpAny _ A.in1 (pyNext (.ref e) >>= _) _ _ s
    refine wpAny_bind (pyNext_enum he mv fun E' => RZ.nextOf_tuple_item hit p (x := u) (by simpa using hu) fun h₁ hit₁ sb₁ => ⟨h₁, s.toks, rfl, (sb₁.2 e hne).trans he, fun h' it' v' f' he' mv' _ hT hsz hk => ?_⟩)
    have hs1 : h₁.objs.size = s.heap.objs.size := sb₁.1
    rw [hs1] at hT hsz ⊢
    have keep : ∀ b o, b ≠ e → b ≠ it → s.heap.get? b = some o → h'.get? b = some o := fun b o h1 h2 q => hk b o h1 (sb₁.extBut b o h2 q)
    have new : ObjOk X.prog X.w (upd (upd K S (.lst accV)) s.heap.objs.size (.tup [.int (i : Nat), x])) h' s.heap.objs.size (.tup [.int (i : Nat), x]) :=
      ⟨by show 2 ≤ sizeLine; decide, [.int i s.toks, u], .cons ⟨_, rfl⟩ (.cons ru .nil), ⟨_, hT, rfl, _, rfl⟩⟩
    have I1 : Inv X pins σ (upd (upd K S (.lst accV)) s.heap.objs.size (.tup [.int (i : Nat), x])) { s with heap := h', toks := s.toks + 1 } :=
      I.turnedNew (ch := [e, it]) (fun b ob hb q => keep b ob (fun z => hb (by simp [z])) (fun z => hb (by simp [z])) q) (fun b hb => by
        have e' : b = e ∨ b = it := by simpa using hb
        rcases e' with z | z
        · rw [z]; exact fe
        · rw [z]; exact fi) (Nat.le_refl _) new
    have nTS : s.heap.objs.size ≠ S := Nat.ne_of_gt hSl
    have hS' : h'.get? S = some { cls := .type "list", data := .seq accs.toArray nS } := keep S _ (Ne.symm neS) (Ne.symm niS) hobS
    show wpAny _ A.in1 (updateSeq S (·.push (.ref s.heap.objs.size)) >>= _) _ _ _
    have hKT : K s.heap.objs.size = none := eK.none (I.hok.fresh (Nat.le_refl _))
    refine wpAny_bind ?_
    refine wpAny_updateSeq hS' rfl (wpAny_pure ⟨plainId_quiet PySem.F.plain_extend_loop _, ?_⟩) ?z1 ?z2
    case z1 => rw [List.size_toArray, ← rvS.length, sizeLine_eq]; omega
    case z2 => show (accs.toArray.push _).size ≤ sizeLine + 1; rw [Array.size_push, List.size_toArray, ← rvS.length, sizeLine_eq]; omega
    have hup := Heap.get?_update_self (Obj.mapSeq (·.push (Value.ref s.heap.objs.size))) hS' rfl
    have oth : ∀ b o, b ≠ S → h'.get? b = some o → (h'.update S (Obj.mapSeq (·.push (Value.ref s.heap.objs.size)))).get? b = some o := fun b o hb q => (Heap.get?_update_other _ _ (Ne.symm hb)).trans q
    have I2 : Inv X pins σ (upd (upd (upd K S (.lst accV)) s.heap.objs.size (.tup [.int (i : Nat), x])) S (.lst (accV ++ [.ref s.heap.objs.size]))) { s with heap := h'.update S (Obj.mapSeq (·.push (Value.ref s.heap.objs.size))), toks := s.toks + 1 } :=
      I1.write (x := S) (e := S) (t' := s.toks + 1) (by rw [upd_ne (Ne.symm nTS), upd_same]; trivial) (.inl rfl) oth ⟨_, hup⟩ ⟨by rw [List.length_append, List.length_singleton, sizeLine_eq]; rw [List.length_cons] at hz; omega, accs ++ [.ref s.heap.objs.size], _, vals_app rvS (ys := [V.ref s.heap.objs.size]) (vs := [Value.ref s.heap.objs.size]) (.cons rfl .nil), by
        rw [hup]
        simp [Obj.mapSeq]
        rfl⟩
    have eH : upd (upd (upd K S (.lst accV)) s.heap.objs.size (.tup [.int (i : Nat), x])) S (.lst (accV ++ [.ref s.heap.objs.size])) = upd (upd K s.heap.objs.size (.tup [.int (i : Nat), x])) S (.lst (accV ++ [.ref s.heap.objs.size])) := by
      rw [upd_comm (Ne.symm nTS), upd_upd]
    rw [eH] at I2
    have fpk : ∀ b, b < s.heap.objs.size → FpOk X pins (upd K S (.lst accV)) b → b ≠ S → FpOk X pins (upd (upd K s.heap.objs.size (.tup [.int (i : Nat), x])) S (.lst (accV ++ [.ref s.heap.objs.size]))) b := fun b hb fb hbS => by
      obtain ⟨f0, fr⟩ := fb
      rw [upd_ne hbS] at f0
      exact ⟨by rw [upd_ne hbS, upd_ne (Nat.ne_of_lt hb)]; exact f0, fr⟩
    refine ih (i + 1) (upd K s.heap.objs.size (.tup [.int (i : Nat), x])) _ (accV ++ [.ref s.heap.objs.size]) R I2 (by rw [upd_ne (Ne.symm nTS)]; exact hS) (fpk e hel fe neS) (fpk it hil fi niS) hne ⟨it', v', f', mv', ?_⟩ ?_ (K82.ex_t (K82.Ex.new hKT) hq) hd' (by rw [List.length_append, List.length_singleton]; rw [List.length_cons] at hz; omega) fun K2 ys s' hm hK2 I3 => ?_
    · have e1 : ((i + 1 : Nat) : Int) = (i : Int) + 1 := by omega
      rw [e1]
      exact oth e _ neS he'
    · exact hit₁.at fun o q => oth it o niS (hk it o (Ne.symm hne) q)
    · rw [List.append_assoc] at I3
      exact hR K2 _ s' (.cons hKT hm) hK2 I3
end
end K82M
/-! ## part M4 -/
/-! list(enumerate(a tuple)), as a rule. -/
namespace K82M
open PySem PySem.Spec PyProof.Rows L2
section
variable {X : Cx} {pins : List (Addr × Obj)} {σ : L2.St} {H : Hp} {s : Shared}
theorem call_list_enum (hc : X.calm = true) {a e it : Addr} {xs : List V} {Q : VK} (I : Inv X pins σ H s) (he : IsEnum s.heap e it 0 .none) (hit : s.heap.IsTupleIter it a 0) (hq : SqT X.K H a xs) (fe : FpOk X pins H e) (fi : FpOk X pins H it) (hne : e ≠ it) (hz : xs.length ≤ 1000)
    (q : ∀ S H2 ys, H S = none → EnumMade 0 H H2 xs ys → H2 S = none → Q (.ref S) (upd H2 S (.lst ys))) : wpAny (model X.prog X.w) X.A (call (.type "list") [.ref e]) (EP X pins σ Q) X.xe s := by
  have hel : e < s.heap.objs.size := Heap.lt_size he
  have hil : it < s.heap.objs.size := by obtain ⟨_, q, _⟩ := hit; exact Heap.lt_size q
  have nS : H s.heap.objs.size = none := I.hok.fresh (Nat.le_refl _)
  refine callType_codes (Q₁ := fun obj s₁ => obj = .ref s.heap.objs.size ∧ s₁ = { s with heap := s.heap.push { cls := .type "list", data := .seq #[] } }) PySem.F.called_list (PySem.F.typeCall_list_1 _) PySem.F.entry_list_init
    (code_list_new _ ⟨rfl, rfl⟩) fun obj s₁ h₁ => ?_
  obtain ⟨rfl, rfl⟩ := h₁
  have hS0 : (s.heap.push { cls := .type "list", data := .seq #[] }).get? s.heap.objs.size = some { cls := .type "list", data := .seq #[] } := Heap.get?_push_size _ rfl
  refine ⟨⟨_, hS0, rfl⟩, PySem.F.args_list_init_2 _ _, ?_⟩
  show wpAny _ X.A.in1.in1 (do let old ← Builtin.List.listItems (.ref s.heap.objs.size); Builtin.List.listUpdate (.ref s.heap.objs.size) (fun _ => #[]); letGo old.toList.reverse; Builtin.List.listExtendWith (.ref s.heap.objs.size) (.ref e) .none) _ _ _
  refine wpAny_bind ?_
  unfold Builtin.List.listItems
  refine wpAny_bind (wpAny_seqItems hS0 rfl (wpAny_pure ?_))
  show wpAny _ X.A.in1.in1 (updateSeq s.heap.objs.size (fun _ => #[]) >>= fun _ => letGo (#[] : Array Value).toList.reverse >>= fun _ => Builtin.List.listExtendWith (.ref s.heap.objs.size) (.ref e) .none) _ _ _
  refine wpAny_bind (wpAny_updateSeq hS0 rfl ?_)
  have hS₁ := Heap.get?_update_self (Obj.mapSeq (fun _ => (#[] : Array Value))) hS0 rfl
  generalize hh1 : (s.heap.push { cls := .type "list", data := .seq #[] }).update s.heap.objs.size (Obj.mapSeq (fun _ => (#[] : Array Value))) = g1 at hS₁
  have k1 : ∀ b o, s.heap.get? b = some o → g1.get? b = some o := fun b o q => by
    rw [← hh1]
    exact (Heap.get?_update_other _ _ (Nat.ne_of_gt (Heap.lt_size q))).trans (Heap.get?_push_of_some _ q)
  refine wpAny_bind (wpAny_letGo ?_)
  have hT : ∀ (g : Heap), (∀ b o, s.heap.get? b = some o → g.get? b = some o) → Shared.TypeIs { s with heap := g } (.ref e) "enumerate" := fun g k => ⟨_, k _ _ he, rfl⟩
  unfold Builtin.List.listExtendWith
  refine wpAny_bind (wpAny_typeOf (hT g1 k1) ?_)
  have h1 : Builtin.List.listSameRef (.ref s.heap.objs.size) (.ref e) = false := by simp [Builtin.List.listSameRef, Nat.ne_of_gt hel]
  have h2 : (Value.type "enumerate" == Value.type "list") = false := by decide
  have h3 : (Value.type "enumerate" == Value.type "tuple") = false := by decide
  simp only [h1, h2, h3, Bool.or_false, Bool.false_eq_true, if_false]
  refine wpAny_bind (wpAny_pyIter_enum (s := { s with heap := g1 }) (k1 _ _ he) ?_)
  refine wpAny_bind (wpAny_holding ?_)
  unfold Builtin.List.listLengthHint
  refine wpAny_bind (wpAny_specialOf (hT g1 k1) enumerate_no_len ?_)
  show wpAny _ X.A.in1.in1 (specialOf (Value.ref e) (Str.ofString "__length_hint__") >>= _) _ _ _
  refine wpAny_bind (wpAny_specialOf (hT g1 k1) enumerate_no_hint ?_)
  refine wpAny_pure ?_
  show wpAny _ X.A.in1.in1 (rule "list.extend.makes-room" >>= fun _ => Builtin.List.listTouch (.ref s.heap.objs.size) >>= fun _ =>
    again (.builtin "list.extend.loop" ⟨[.ref s.heap.objs.size, .ref e, .none], []⟩)) _ _ _
  refine wpAny_bind (wpAny_rule ?_)
  refine wpAny_bind ?_
  show wpAny _ X.A.in1.in1 (updateSeq s.heap.objs.size (·.push .none) >>= fun _ => updateSeq s.heap.objs.size (·.pop)) _ _ _
  refine wpAny_bind (wpAny_updateSeq hS₁ rfl ?_)
  have hS₂ := Heap.get?_update_self (Obj.mapSeq (·.push Value.none)) hS₁ rfl
  refine wpAny_updateSeq (hz := by seq_fits) hS₂ rfl ?_
  have hS₃ := Heap.get?_update_self (Obj.mapSeq (·.pop)) hS₂ rfl
  generalize hh2 : (g1.update s.heap.objs.size (Obj.mapSeq (·.push Value.none))).update s.heap.objs.size (Obj.mapSeq (·.pop)) = g2 at hS₃
  have k2 : ∀ b o, s.heap.get? b = some o → g2.get? b = some o := fun b o q => by
    have hb : s.heap.objs.size ≠ b := Nat.ne_of_gt (Heap.lt_size q)
    rw [← hh2]
    exact (Heap.get?_update_other _ _ hb).trans ((Heap.get?_update_other _ _ hb).trans (k1 b o q))
  have I2 : Inv X pins σ (upd H s.heap.objs.size (.lst [])) { s with heap := g2 } := I.laid (t' := s.toks) k2 (Nat.le_refl _) ⟨Nat.zero_le _, [], _, .nil, by
    rw [hS₃]
    simp [Obj.mapSeq]
    rfl⟩
  have fp : ∀ b, b < s.heap.objs.size → FpOk X pins H b → FpOk X pins (upd H s.heap.objs.size (.lst [])) b := fun b hb f => by
    obtain ⟨f0, fr⟩ := f
    exact ⟨by rw [upd_ne (Nat.ne_of_lt hb)]; exact f0, fr⟩
  refine wpAny_pure ⟨plainId_quiet PySem.F.plain_extend_loop _, ext_enum (A := X.A.in1) (I.ok.hd hc) hc .none xs 0 H _ [] _ I2 nS (fp e hel fe) (fp it hil fi) hne ⟨.none, .none, false, .inl rfl, k2 _ _ he⟩ (hit.at fun o q => k2 _ o q) hq (by simp) (by simpa using hz) fun K2 ys s' hm hK2 I3 => ?_⟩
  rw [List.nil_append] at I3
  exact ⟨rfl, .ref s.heap.objs.size, _, I3, rfl, q _ K2 ys nS hm hK2⟩
def tListEnum (K : PySem.W.Frag) (ta : TA) : TE := fun σ H Q => ta σ H fun vs H1 => ∃ a xs, vs = [.ref a] ∧ SqT K H1 a xs ∧ xs.length ≤ 1000 ∧ ∀ S H2 ys, H1 S = none → EnumMade 0 H1 H2 xs ys → H2 S = none → Q (.ref S) (upd H2 S (.lst ys))
theorem pe_listEnum {e : Expr} {ta : TA} {p p2 pos pos2 : Pos} (hc : X.calm = true) (hg : Gl X "list") (hm : X.mg "list" = none) (hg2 : Gl X "enumerate") (hm2 : X.mg "enumerate" = none) (ha : PA X [e] ta) (hs : starEach [e] X.env = [(false, eval e X.env)] := by rfl)
    (na : starEach [.Call (.Name "enumerate" p2) [e] [] pos2] X.env = (false, eval (.Call (.Name "enumerate" p2) [e] [] pos2) X.env) :: starEach [] X.env := by rfl) :
    PE X (.Call (.Name "list" p) [.Call (.Name "enumerate" p2) [e] [] pos2] [] pos) (tListEnum X.K ta) := by
  refine ⟨fun pins s σ H Q I h => ?_⟩
  refine Call_ (ld_blt I hg hm boot_list (PyProof.Rows.callWith_type1 (args_cons (thn (Q := fun v s2 => ∃ e it a xs H1, v = .ref e ∧ Inv X pins σ H1 s2 ∧ IsEnum s2.heap e it 0 .none ∧ s2.heap.IsTupleIter it a 0 ∧ SqT X.K H1 a xs ∧ FpOk X pins H1 e ∧ FpOk X pins H1 it ∧ e ≠ it ∧ xs.length ≤ 1000 ∧ ∀ S H2 ys, H1 S = none → EnumMade 0 H1 H2 xs ys → H2 S = none → Q (.ref S) (upd H2 S (.lst ys)))
    (Call_ (ld_blt I hg2 hm2 boot_enumerate (PyProof.Rows.callWith_type1 (thn (ha.run pos2 pins s σ H _ I h) fun us s1 ⟨vs, H1, I1, r1, q1⟩ => ?_) hs rfl))) fun v s2 hv => args_nil ?_) na) na rfl))
  · obtain ⟨a, xs, ex, hq, hz0, q⟩ := q1
    subst ex
    cases r1 with
    | cons r rr =>
      cases rr
      cases r
      obtain ⟨its, rv, p', hz⟩ := I1.tuple hq
      have hz1 : (s1.heap.push { cls := .type "tuple_iterator", data := .fields #[.ref a, .int 0 0] }).objs.size = s1.heap.objs.size + 1 := Heap.size_push ..
      refine call_enum (beg_tup a its.toArray) p' fun h' eh he hsz hk => ?_
      rw [hz1] at he hsz ⊢
      have hk' : ∀ b o, s1.heap.get? b = some o → h'.get? b = some o := fun b o q => hk b o (Heap.get?_push_of_some _ q)
      have hit : h'.IsTupleIter s1.heap.objs.size a 0 := ⟨_, hk _ _ (Heap.get?_push_size _ rfl), rfl, rfl⟩
      have I2 : Inv X pins σ H1 { s1 with heap := h' } := I1.kept (t' := s1.toks) hk'
      exact ⟨s1.heap.objs.size + 1, s1.heap.objs.size, a, xs, H1, rfl, I2, he, hit, hq, I1.fpOk (Nat.le_succ _) (I1.hok.fresh (Nat.le_succ _)), I1.fpOk (Nat.le_refl _) (I1.hok.fresh (Nat.le_refl _)), Nat.succ_ne_self _, hz0, q⟩
  · obtain ⟨e', it, a, xs, H1, rfl, I1, he, hit, hq, fe, fi, hne, hz, q⟩ := hv
    exact call_list_enum hc I1 he hit hq fe fi hne hz q
end
end K82M
/-! ## part F -/
/-! The head's facts, one by one. Printed by gen_facts.py. -/
namespace K82
open PySem PySem.Spec PyProof.Rows L2
structure Fx (w : World) (K : PySem.W.Frag) (mg : Str → Option Value) : Prop where
  hx : ∃ h : Heap, K.In h ∧ h.Ns mainGlobals mg ∧ He.SaysX fa fn [] tf ex w h K
section
variable {P : Program} {w : World} {K : PySem.W.Frag} {mg : Str → Option Value} {base : Heap}
theorem Fx.d (c : Fx w K mg) : He.SaysD fa fn K := by obtain ⟨_, _, _, x⟩ := c.hx; exact x.t.d
theorem Fx.glo (c : Fx w K mg) (i : Nat) {x : Str} (h : fa[i]? = some (.glo x)) : mg x = some (.ref (He.ga K x)) := by obtain ⟨_, X, G, x⟩ := c.hx; exact He.glo_ok X G (x.t.d.fact i h)
theorem Fx.free (c : Fx w K mg) (i : Nat) {x : Str} (h : fa[i]? = some (.free x)) : mg x = none := by obtain ⟨_, X, G, x⟩ := c.hx; exact He.free_ok X G (x.t.d.fact i h)
theorem Fx.int (c : Fx w K mg) (i : Nat) {x : Str} {z : Int} (h : fa[i]? = some (.int x z)) : ∃ t, mg x = some (.int z t) := by obtain ⟨_, X, G, x⟩ := c.hx; exact He.int_ok X G (x.t.d.fact i h)
theorem Fx.str (c : Fx w K mg) (i : Nat) {x z : Str} (h : fa[i]? = some (.str x z)) : ∃ t, mg x = some (.str z t) := by obtain ⟨_, X, G, x⟩ := c.hx; exact He.str_ok X G (x.t.d.fact i h)
theorem Fx.more (c : Fx w K mg) : K82.ex K = true := by obtain ⟨_, _, _, x⟩ := c.hx; exact x.more
abbrev N_is_whole : List Str := ["value", "least", "most"]
abbrev p_is_whole : List Str := ["value", "least", "most"]
theorem sc_is_whole : FnScope N_is_whole p_is_whole (defScope s_is_whole) := ⟨rfl, rfl, rfl, by decide +kernel, rfl, by decide +kernel, by decide +kernel⟩
abbrev F_is_whole (K : PySem.W.Frag) (f : Addr) (fd : FuncData) : Prop := FunD K "is_whole" "is_whole" (defArgs s_is_whole) (defBody s_is_whole) (defScope s_is_whole) [] [] f fd
theorem bi_is_whole {f : Addr} {fd : FuncData} (F : F_is_whole K f fd) : Binds K fd p_is_whole [] := F.bindsN fun _ _ _ _ _ _ us hl => match us, hl with | [_, _, _], _ => rfl
abbrev N_Strip_init : List Str := ["self", "lengths", "creases", "length", "crease"]
abbrev p_Strip_init : List Str := ["self", "lengths", "creases"]
theorem sc_Strip_init : FnScope N_Strip_init p_Strip_init (defScope s_Strip_init) := ⟨rfl, rfl, rfl, by decide +kernel, rfl, by decide +kernel, by decide +kernel⟩
abbrev F_Strip_init (K : PySem.W.Frag) (f : Addr) (fd : FuncData) : Prop := FunD K "__init__" "Strip.__init__" (defArgs s_Strip_init) (defBody s_Strip_init) (defScope s_Strip_init) [] [] f fd
theorem bi_Strip_init {f : Addr} {fd : FuncData} (F : F_Strip_init K f fd) : Binds K fd p_Strip_init [] := F.bindsN fun _ _ _ _ _ _ us hl => match us, hl with | [_, _, _], _ => rfl
abbrev N_places : List Str := ["strip", "found", "number", "length"]
abbrev p_places : List Str := ["strip"]
theorem sc_places : FnScope N_places p_places (defScope s_places) := ⟨rfl, rfl, rfl, by decide +kernel, rfl, by decide +kernel, by decide +kernel⟩
abbrev F_places (K : PySem.W.Frag) (f : Addr) (fd : FuncData) : Prop := FunD K "places" "places" (defArgs s_places) (defBody s_places) (defScope s_places) [] [] f fd
theorem bi_places {f : Addr} {fd : FuncData} (F : F_places K f fd) : Binds K fd p_places [] := F.bindsN fun _ _ _ _ _ _ us hl => match us, hl with | [_], _ => rfl
abbrev N_ends : List Str := ["strip", "number", "here"]
abbrev p_ends : List Str := ["strip", "number"]
theorem sc_ends : FnScope N_ends p_ends (defScope s_ends) := ⟨rfl, rfl, rfl, by decide +kernel, rfl, by decide +kernel, by decide +kernel⟩
abbrev F_ends (K : PySem.W.Frag) (f : Addr) (fd : FuncData) : Prop := FunD K "ends" "ends" (defArgs s_ends) (defBody s_ends) (defScope s_ends) [] [] f fd
theorem bi_ends {f : Addr} {fd : FuncData} (F : F_ends K f fd) : Binds K fd p_ends [] := F.bindsN fun _ _ _ _ _ _ us hl => match us, hl with | [_, _], _ => rfl
abbrev N_u_are_creases : List Str := ["value", "many", "one"]
abbrev p_u_are_creases : List Str := ["value", "many"]
theorem sc_u_are_creases : FnScope N_u_are_creases p_u_are_creases (defScope s_u_are_creases) := ⟨rfl, rfl, rfl, by decide +kernel, rfl, by decide +kernel, by decide +kernel⟩
abbrev F_u_are_creases (K : PySem.W.Frag) (f : Addr) (fd : FuncData) : Prop := FunD K "_are_creases" "_are_creases" (defArgs s_u_are_creases) (defBody s_u_are_creases) (defScope s_u_are_creases) [] [] f fd
theorem bi_u_are_creases {f : Addr} {fd : FuncData} (F : F_u_are_creases K f fd) : Binds K fd p_u_are_creases [] := F.bindsN fun _ _ _ _ _ _ us hl => match us, hl with | [_, _], _ => rfl
abbrev N_Map_init : List Str := ["self", "rows", "columns", "across", "down", "row"]
abbrev p_Map_init : List Str := ["self", "rows", "columns", "across", "down"]
theorem sc_Map_init : FnScope N_Map_init p_Map_init (defScope s_Map_init) := ⟨rfl, rfl, rfl, by decide +kernel, rfl, by decide +kernel, by decide +kernel⟩
abbrev F_Map_init (K : PySem.W.Frag) (f : Addr) (fd : FuncData) : Prop := FunD K "__init__" "Map.__init__" (defArgs s_Map_init) (defBody s_Map_init) (defScope s_Map_init) [] [] f fd
theorem bi_Map_init {f : Addr} {fd : FuncData} (F : F_Map_init K f fd) : Binds K fd p_Map_init [] := F.bindsN fun _ _ _ _ _ _ us hl => match us, hl with | [_, _, _, _, _], _ => rfl
abbrev N_Map_place : List Str := ["self", "cell"]
abbrev p_Map_place : List Str := ["self", "cell"]
theorem sc_Map_place : FnScope N_Map_place p_Map_place (defScope s_Map_place) := ⟨rfl, rfl, rfl, by decide +kernel, rfl, by decide +kernel, by decide +kernel⟩
abbrev F_Map_place (K : PySem.W.Frag) (f : Addr) (fd : FuncData) : Prop := FunD K "place" "Map.place" (defArgs s_Map_place) (defBody s_Map_place) (defScope s_Map_place) [] [] f fd
theorem bi_Map_place {f : Addr} {fd : FuncData} (F : F_Map_place K f fd) : Binds K fd p_Map_place [] := F.bindsN fun _ _ _ _ _ _ us hl => match us, hl with | [_, _], _ => rfl
abbrev N_Map_is_odd : List Str := ["self", "cell", "row", "column"]
abbrev p_Map_is_odd : List Str := ["self", "cell"]
theorem sc_Map_is_odd : FnScope N_Map_is_odd p_Map_is_odd (defScope s_Map_is_odd) := ⟨rfl, rfl, rfl, by decide +kernel, rfl, by decide +kernel, by decide +kernel⟩
abbrev F_Map_is_odd (K : PySem.W.Frag) (f : Addr) (fd : FuncData) : Prop := FunD K "is_odd" "Map.is_odd" (defArgs s_Map_is_odd) (defBody s_Map_is_odd) (defScope s_Map_is_odd) [] [] f fd
theorem bi_Map_is_odd {f : Addr} {fd : FuncData} (F : F_Map_is_odd K f fd) : Binds K fd p_Map_is_odd [] := F.bindsN fun _ _ _ _ _ _ us hl => match us, hl with | [_, _], _ => rfl
abbrev N_creases : List Str := ["sheet", "found", "cell", "row", "column"]
abbrev p_creases : List Str := ["sheet"]
theorem sc_creases : FnScope N_creases p_creases (defScope s_creases) := ⟨rfl, rfl, rfl, by decide +kernel, rfl, by decide +kernel, by decide +kernel⟩
abbrev F_creases (K : PySem.W.Frag) (f : Addr) (fd : FuncData) : Prop := FunD K "creases" "creases" (defArgs s_creases) (defBody s_creases) (defScope s_creases) [] [] f fd
theorem bi_creases {f : Addr} {fd : FuncData} (F : F_creases K f fd) : Binds K fd p_creases [] := F.bindsN fun _ _ _ _ _ _ us hl => match us, hl with | [_], _ => rfl
abbrev N_is_pile : List Str := ["sheet", "value", "one"]
abbrev p_is_pile : List Str := ["sheet", "value"]
theorem sc_is_pile : FnScope N_is_pile p_is_pile (defScope s_is_pile) := ⟨rfl, rfl, rfl, by decide +kernel, rfl, by decide +kernel, by decide +kernel⟩
abbrev F_is_pile (K : PySem.W.Frag) (f : Addr) (fd : FuncData) : Prop := FunD K "is_pile" "is_pile" (defArgs s_is_pile) (defBody s_is_pile) (defScope s_is_pile) [] [] f fd
theorem bi_is_pile {f : Addr} {fd : FuncData} (F : F_is_pile K f fd) : Binds K fd p_is_pile [] := F.bindsN fun _ _ _ _ _ _ us hl => match us, hl with | [_, _], _ => rfl
abbrev N_check_pile : List Str := ["sheet", "state"]
abbrev p_check_pile : List Str := ["sheet", "state"]
theorem sc_check_pile : FnScope N_check_pile p_check_pile (defScope s_check_pile) := ⟨rfl, rfl, rfl, by decide +kernel, rfl, by decide +kernel, by decide +kernel⟩
abbrev F_check_pile (K : PySem.W.Frag) (f : Addr) (fd : FuncData) : Prop := FunD K "check_pile" "check_pile" (defArgs s_check_pile) (defBody s_check_pile) (defScope s_check_pile) [] [] f fd
theorem bi_check_pile {f : Addr} {fd : FuncData} (F : F_check_pile K f fd) : Binds K fd p_check_pile [] := F.bindsN fun _ _ _ _ _ _ us hl => match us, hl with | [_, _], _ => rfl
abbrev N_u_heights : List Str := ["state", "found", "height", "cell"]
abbrev p_u_heights : List Str := ["state"]
theorem sc_u_heights : FnScope N_u_heights p_u_heights (defScope s_u_heights) := ⟨rfl, rfl, rfl, by decide +kernel, rfl, by decide +kernel, by decide +kernel⟩
abbrev F_u_heights (K : PySem.W.Frag) (f : Addr) (fd : FuncData) : Prop := FunD K "_heights" "_heights" (defArgs s_u_heights) (defBody s_u_heights) (defScope s_u_heights) [] [] f fd
theorem bi_u_heights {f : Addr} {fd : FuncData} (F : F_u_heights K f fd) : Binds K fd p_u_heights [] := F.bindsN fun _ _ _ _ _ _ us hl => match us, hl with | [_], _ => rfl
abbrev N_cross_piles : List Str := ["one", "other", "low", "high", "height"]
abbrev p_cross_piles : List Str := ["one", "other"]
theorem sc_cross_piles : FnScope N_cross_piles p_cross_piles (defScope s_cross_piles) := ⟨rfl, rfl, rfl, by decide +kernel, rfl, by decide +kernel, by decide +kernel⟩
abbrev F_cross_piles (K : PySem.W.Frag) (f : Addr) (fd : FuncData) : Prop := FunD K "_cross" "_cross" (defArgs s_cross_piles) (defBody s_cross_piles) (defScope s_cross_piles) [] [] f fd
theorem bi_cross_piles {f : Addr} {fd : FuncData} (F : F_cross_piles K f fd) : Binds K fd p_cross_piles [] := F.bindsN fun _ _ _ _ _ _ us hl => match us, hl with | [_, _], _ => rfl
abbrev N_map_fault : List Str := ["sheet", "state", "heights", "rows", "at", "here", "first", "second", "side", "_", "one", "two", "other"]
abbrev p_map_fault : List Str := ["sheet", "state"]
theorem sc_map_fault : FnScope N_map_fault p_map_fault (defScope s_map_fault) := ⟨rfl, rfl, rfl, by decide +kernel, rfl, by decide +kernel, by decide +kernel⟩
abbrev F_map_fault (K : PySem.W.Frag) (f : Addr) (fd : FuncData) : Prop := FunD K "map_fault" "map_fault" (defArgs s_map_fault) (defBody s_map_fault) (defScope s_map_fault) [] [] f fd
theorem bi_map_fault {f : Addr} {fd : FuncData} (F : F_map_fault K f fd) : Binds K fd p_map_fault [] := F.bindsN fun _ _ _ _ _ _ us hl => match us, hl with | [_, _], _ => rfl
abbrev N_u_shown : List Str := ["sheet", "heights", "first", "second", "odd", "even"]
abbrev p_u_shown : List Str := ["sheet", "heights", "first", "second"]
theorem sc_u_shown : FnScope N_u_shown p_u_shown (defScope s_u_shown) := ⟨rfl, rfl, rfl, by decide +kernel, rfl, by decide +kernel, by decide +kernel⟩
abbrev F_u_shown (K : PySem.W.Frag) (f : Addr) (fd : FuncData) : Prop := FunD K "_shown" "_shown" (defArgs s_u_shown) (defBody s_u_shown) (defScope s_u_shown) [] [] f fd
theorem bi_u_shown {f : Addr} {fd : FuncData} (F : F_u_shown K f fd) : Binds K fd p_u_shown [] := F.bindsN fun _ _ _ _ _ _ us hl => match us, hl with | [_, _, _, _], _ => rfl
abbrev N_map_shown : List Str := ["sheet", "state", "heights", "row", "across", "down", "start", "cells", "cell"]
abbrev p_map_shown : List Str := ["sheet", "state"]
theorem sc_map_shown : FnScope N_map_shown p_map_shown (defScope s_map_shown) := ⟨rfl, rfl, rfl, by decide +kernel, rfl, by decide +kernel, by decide +kernel⟩
abbrev F_map_shown (K : PySem.W.Frag) (f : Addr) (fd : FuncData) : Prop := FunD K "map_shown" "map_shown" (defArgs s_map_shown) (defBody s_map_shown) (defScope s_map_shown) [] [] f fd
theorem bi_map_shown {f : Addr} {fd : FuncData} (F : F_map_shown K f fd) : Binds K fd p_map_shown [] := F.bindsN fun _ _ _ _ _ _ us hl => match us, hl with | [_, _], _ => rfl
abbrev N_map_keeps_fault : List Str := ["sheet", "state", "found", "heights", "first", "second", "_", "told"]
abbrev p_map_keeps_fault : List Str := ["sheet", "state"]
theorem sc_map_keeps_fault : FnScope N_map_keeps_fault p_map_keeps_fault (defScope s_map_keeps_fault) := ⟨rfl, rfl, rfl, by decide +kernel, rfl, by decide +kernel, by decide +kernel⟩
abbrev F_map_keeps_fault (K : PySem.W.Frag) (f : Addr) (fd : FuncData) : Prop := FunD K "map_keeps_fault" "map_keeps_fault" (defArgs s_map_keeps_fault) (defBody s_map_keeps_fault) (defScope s_map_keeps_fault) [] [] f fd
theorem bi_map_keeps_fault {f : Addr} {fd : FuncData} (F : F_map_keeps_fault K f fd) : Binds K fd p_map_keeps_fault [] := F.bindsN fun _ _ _ _ _ _ us hl => match us, hl with | [_, _], _ => rfl
abbrev N_is_higher : List Str := ["telling", "crease", "size", "is_odd"]
abbrev p_is_higher : List Str := ["telling", "crease", "size"]
theorem sc_is_higher : FnScope N_is_higher p_is_higher (defScope s_is_higher) := ⟨rfl, rfl, rfl, by decide +kernel, rfl, by decide +kernel, by decide +kernel⟩
abbrev F_is_higher (K : PySem.W.Frag) (f : Addr) (fd : FuncData) : Prop := FunD K "is_higher" "is_higher" (defArgs s_is_higher) (defBody s_is_higher) (defScope s_is_higher) [] [] f fd
theorem bi_is_higher {f : Addr} {fd : FuncData} (F : F_is_higher K f fd) : Binds K fd p_is_higher [] := F.bindsN fun _ _ _ _ _ _ us hl => match us, hl with | [_, _, _], _ => rfl
abbrev N_Pile_piling_init : List Str := ["self", "length", "layers"]
abbrev p_Pile_piling_init : List Str := ["self", "length", "layers"]
theorem sc_Pile_piling_init : FnScope N_Pile_piling_init p_Pile_piling_init (defScope s_Pile_piling_init) := ⟨rfl, rfl, rfl, by decide +kernel, rfl, by decide +kernel, by decide +kernel⟩
abbrev F_Pile_piling_init (K : PySem.W.Frag) (f : Addr) (fd : FuncData) : Prop := FunD K "__init__" "Pile.__init__" (defArgs s_Pile_piling_init) (defBody s_Pile_piling_init) (defScope s_Pile_piling_init) [] [] f fd
theorem bi_Pile_piling_init {f : Addr} {fd : FuncData} (F : F_Pile_piling_init K f fd) : Binds K fd p_Pile_piling_init [] := F.bindsN fun _ _ _ _ _ _ us hl => match us, hl with | [_, _, _], _ => rfl
abbrev N_Pile_piling_with_beside : List Str := ["self", "other", "is_above", "length"]
abbrev p_Pile_piling_with_beside : List Str := ["self", "other", "is_above", "length"]
theorem sc_Pile_piling_with_beside : FnScope N_Pile_piling_with_beside p_Pile_piling_with_beside (defScope s_Pile_piling_with_beside) := ⟨rfl, rfl, rfl, by decide +kernel, rfl, by decide +kernel, by decide +kernel⟩
abbrev F_Pile_piling_with_beside (K : PySem.W.Frag) (f : Addr) (fd : FuncData) : Prop := FunD K "with_beside" "Pile.with_beside" (defArgs s_Pile_piling_with_beside) (defBody s_Pile_piling_with_beside) (defScope s_Pile_piling_with_beside) [] [] f fd
theorem bi_Pile_piling_with_beside {f : Addr} {fd : FuncData} (F : F_Pile_piling_with_beside K f fd) : Binds K fd p_Pile_piling_with_beside [] := F.bindsN fun _ _ _ _ _ _ us hl => match us, hl with | [_, _, _, _], _ => rfl
abbrev N_Row_init : List Str := ["self", "lengths", "creases", "is_ring", "number", "length"]
abbrev p_Row_init : List Str := ["self", "lengths", "creases", "is_ring"]
theorem sc_Row_init : FnScope N_Row_init p_Row_init (defScope s_Row_init) := ⟨rfl, rfl, rfl, by decide +kernel, rfl, by decide +kernel, by decide +kernel⟩
abbrev F_Row_init (K : PySem.W.Frag) (f : Addr) (fd : FuncData) : Prop := FunD K "__init__" "Row.__init__" (defArgs s_Row_init) (defBody s_Row_init) (defScope s_Row_init) [] [] f fd
theorem bi_Row_init {f : Addr} {fd : FuncData} (F : F_Row_init K f fd) : Binds K fd p_Row_init [] := F.bindsN fun _ _ _ _ _ _ us hl => match us, hl with | [_, _, _, _], _ => rfl
abbrev N_Row_up : List Str := ["self", "at", "number", "telling"]
abbrev p_Row_up : List Str := ["self", "at"]
theorem sc_Row_up : FnScope N_Row_up p_Row_up (defScope s_Row_up) := ⟨rfl, rfl, rfl, by decide +kernel, rfl, by decide +kernel, by decide +kernel⟩
abbrev F_Row_up (K : PySem.W.Frag) (f : Addr) (fd : FuncData) : Prop := FunD K "_up" "Row._up" (defArgs s_Row_up) (defBody s_Row_up) (defScope s_Row_up) [] [] f fd
theorem bi_Row_up {f : Addr} {fd : FuncData} (F : F_Row_up K f fd) : Binds K fd p_Row_up [] := F.bindsN fun _ _ _ _ _ _ us hl => match us, hl with | [_, _], _ => rfl
abbrev N_Row_crimp_any : List Str := ["self", "at", "_"]
abbrev p_Row_crimp_any : List Str := ["self"]
theorem sc_Row_crimp_any : FnScope N_Row_crimp_any p_Row_crimp_any (defScope s_Row_crimp_any) := ⟨rfl, rfl, rfl, by decide +kernel, rfl, by decide +kernel, by decide +kernel⟩
abbrev F_Row_crimp_any (K : PySem.W.Frag) (f : Addr) (fd : FuncData) : Prop := FunD K "crimp_any" "Row.crimp_any" (defArgs s_Row_crimp_any) (defBody s_Row_crimp_any) (defScope s_Row_crimp_any) [] [] f fd
theorem bi_Row_crimp_any {f : Addr} {fd : FuncData} (F : F_Row_crimp_any K f fd) : Binds K fd p_Row_crimp_any [] := F.bindsN fun _ _ _ _ _ _ us hl => match us, hl with | [_], _ => rfl
abbrev N_Row_fold_end : List Str := ["self", "first", "second", "last", "other"]
abbrev p_Row_fold_end : List Str := ["self"]
theorem sc_Row_fold_end : FnScope N_Row_fold_end p_Row_fold_end (defScope s_Row_fold_end) := ⟨rfl, rfl, rfl, by decide +kernel, rfl, by decide +kernel, by decide +kernel⟩
abbrev F_Row_fold_end (K : PySem.W.Frag) (f : Addr) (fd : FuncData) : Prop := FunD K "fold_end" "Row.fold_end" (defArgs s_Row_fold_end) (defBody s_Row_fold_end) (defScope s_Row_fold_end) [] [] f fd
theorem bi_Row_fold_end {f : Addr} {fd : FuncData} (F : F_Row_fold_end K f fd) : Binds K fd p_Row_fold_end [] := F.bindsN fun _ _ _ _ _ _ us hl => match us, hl with | [_], _ => rfl
abbrev N_piled : List Str := ["lengths", "telling", "row"]
abbrev p_piled : List Str := ["lengths", "telling"]
theorem sc_piled : FnScope N_piled p_piled (defScope s_piled) := ⟨rfl, rfl, rfl, by decide +kernel, rfl, by decide +kernel, by decide +kernel⟩
abbrev F_piled (K : PySem.W.Frag) (f : Addr) (fd : FuncData) : Prop := FunD K "piled" "piled" (defArgs s_piled) (defBody s_piled) (defScope s_piled) [] [] f fd
theorem bi_piled {f : Addr} {fd : FuncData} (F : F_piled K f fd) : Binds K fd p_piled [] := F.bindsN fun _ _ _ _ _ _ us hl => match us, hl with | [_, _], _ => rfl
abbrev N_u_is_end : List Str := ["lengths", "step"]
abbrev p_u_is_end : List Str := ["lengths", "step"]
theorem sc_u_is_end : FnScope N_u_is_end p_u_is_end (defScope s_u_is_end) := ⟨rfl, rfl, rfl, by decide +kernel, rfl, by decide +kernel, by decide +kernel⟩
abbrev F_u_is_end (K : PySem.W.Frag) (f : Addr) (fd : FuncData) : Prop := FunD K "_is_end" "_is_end" (defArgs s_u_is_end) (defBody s_u_is_end) (defScope s_u_is_end) [] [] f fd
theorem bi_u_is_end {f : Addr} {fd : FuncData} (F : F_u_is_end K f fd) : Binds K fd p_u_is_end [] := F.bindsN fun _ _ _ _ _ _ us hl => match us, hl with | [_, _], _ => rfl
abbrev N_is_step : List Str := ["rest", "step", "lengths", "creases", "one"]
abbrev p_is_step : List Str := ["rest", "step"]
theorem sc_is_step : FnScope N_is_step p_is_step (defScope s_is_step) := ⟨rfl, rfl, rfl, by decide +kernel, rfl, by decide +kernel, by decide +kernel⟩
abbrev F_is_step (K : PySem.W.Frag) (f : Addr) (fd : FuncData) : Prop := FunD K "is_step" "is_step" (defArgs s_is_step) (defBody s_is_step) (defScope s_is_step) [] [] f fd
theorem bi_is_step {f : Addr} {fd : FuncData} (F : F_is_step K f fd) : Binds K fd p_is_step [] := F.bindsN fun _ _ _ _ _ _ us hl => match us, hl with | [_, _], _ => rfl
abbrev N_u_done : List Str := ["rest", "step", "lengths", "creases"]
abbrev p_u_done : List Str := ["rest", "step"]
theorem sc_u_done : FnScope N_u_done p_u_done (defScope s_u_done) := ⟨rfl, rfl, rfl, by decide +kernel, rfl, by decide +kernel, by decide +kernel⟩
abbrev F_u_done (K : PySem.W.Frag) (f : Addr) (fd : FuncData) : Prop := FunD K "_done" "_done" (defArgs s_u_done) (defBody s_u_done) (defScope s_u_done) [] [] f fd
theorem bi_u_done {f : Addr} {fd : FuncData} (F : F_u_done K f fd) : Binds K fd p_u_done [] := F.bindsN fun _ _ _ _ _ _ us hl => match us, hl with | [_, _], _ => rfl
abbrev N_due_step : List Str := ["lengths", "step", "first", "last"]
abbrev p_due_step : List Str := ["lengths"]
theorem sc_due_step : FnScope N_due_step p_due_step (defScope s_due_step) := ⟨rfl, rfl, rfl, by decide +kernel, rfl, by decide +kernel, by decide +kernel⟩
abbrev F_due_step (K : PySem.W.Frag) (f : Addr) (fd : FuncData) : Prop := FunD K "due_step" "due_step" (defArgs s_due_step) (defBody s_due_step) (defScope s_due_step) [] [] f fd
theorem bi_due_step {f : Addr} {fd : FuncData} (F : F_due_step K f fd) : Binds K fd p_due_step [] := F.bindsN fun _ _ _ _ _ _ us hl => match us, hl with | [_], _ => rfl
abbrev N_reduced : List Str := ["rest", "steps", "step"]
abbrev p_reduced : List Str := ["rest"]
theorem sc_reduced : FnScope N_reduced p_reduced (defScope s_reduced) := ⟨rfl, rfl, rfl, by decide +kernel, rfl, by decide +kernel, by decide +kernel⟩
abbrev F_reduced (K : PySem.W.Frag) (f : Addr) (fd : FuncData) : Prop := FunD K "reduced" "reduced" (defArgs s_reduced) (defBody s_reduced) (defScope s_reduced) [] [] f fd
theorem bi_reduced {f : Addr} {fd : FuncData} (F : F_reduced K f fd) : Binds K fd p_reduced [] := F.bindsN fun _ _ _ _ _ _ us hl => match us, hl with | [_], _ => rfl
abbrev N_ways_of : List Str := ["word"]
abbrev p_ways_of : List Str := ["word"]
theorem sc_ways_of : FnScope N_ways_of p_ways_of (defScope s_ways_of) := ⟨rfl, rfl, rfl, by decide +kernel, rfl, by decide +kernel, by decide +kernel⟩
abbrev F_ways_of (K : PySem.W.Frag) (f : Addr) (fd : FuncData) : Prop := FunD K "ways_of" "ways_of" (defArgs s_ways_of) (defBody s_ways_of) (defScope s_ways_of) [] [] f fd
theorem bi_ways_of {f : Addr} {fd : FuncData} (F : F_ways_of K f fd) : Binds K fd p_ways_of [] := F.bindsN fun _ _ _ _ _ _ us hl => match us, hl with | [_], _ => rfl
abbrev N_count : List Str := ["lengths", "creases", "pairs", "found", "step", "sums", "middle", "half", "left", "_", "first", "last", "word"]
abbrev p_count : List Str := ["lengths", "creases"]
theorem sc_count : FnScope N_count p_count (defScope s_count) := ⟨rfl, rfl, rfl, by decide +kernel, rfl, by decide +kernel, by decide +kernel⟩
abbrev F_count (K : PySem.W.Frag) (f : Addr) (fd : FuncData) : Prop := FunD K "count" "count" (defArgs s_count) (defBody s_count) (defScope s_count) [] [] f fd
theorem bi_count {f : Addr} {fd : FuncData} (F : F_count K f fd) : Binds K fd p_count [] := F.bindsN fun _ _ _ _ _ _ us hl => match us, hl with | [_, _], _ => rfl
abbrev N_tellings : List Str := ["strip"]
abbrev p_tellings : List Str := ["strip"]
theorem sc_tellings : FnScope N_tellings p_tellings (defScope s_tellings) := ⟨rfl, rfl, rfl, by decide +kernel, rfl, by decide +kernel, by decide +kernel⟩
abbrev F_tellings (K : PySem.W.Frag) (f : Addr) (fd : FuncData) : Prop := FunD K "tellings" "tellings" (defArgs s_tellings) (defBody s_tellings) (defScope s_tellings) [] [] f fd
theorem bi_tellings {f : Addr} {fd : FuncData} (F : F_tellings K f fd) : Binds K fd p_tellings [] := F.bindsN fun _ _ _ _ _ _ us hl => match us, hl with | [_], _ => rfl
abbrev N_u_told : List Str := ["strip", "creases"]
abbrev p_u_told : List Str := ["strip", "creases"]
theorem sc_u_told : FnScope N_u_told p_u_told (defScope s_u_told) := ⟨rfl, rfl, rfl, by decide +kernel, rfl, by decide +kernel, by decide +kernel⟩
abbrev F_u_told (K : PySem.W.Frag) (f : Addr) (fd : FuncData) : Prop := FunD K "_told" "_told" (defArgs s_u_told) (defBody s_u_told) (defScope s_u_told) [] [] f fd
theorem bi_u_told {f : Addr} {fd : FuncData} (F : F_u_told K f fd) : Binds K fd p_u_told [] := F.bindsN fun _ _ _ _ _ _ us hl => match us, hl with | [_, _], _ => rfl
abbrev N_telling : List Str := ["strip", "number", "creases", "at", "word", "ways"]
abbrev p_telling : List Str := ["strip", "number"]
theorem sc_telling : FnScope N_telling p_telling (defScope s_telling) := ⟨rfl, rfl, rfl, by decide +kernel, rfl, by decide +kernel, by decide +kernel⟩
abbrev F_telling (K : PySem.W.Frag) (f : Addr) (fd : FuncData) : Prop := FunD K "telling" "telling" (defArgs s_telling) (defBody s_telling) (defScope s_telling) [] [] f fd
theorem bi_telling {f : Addr} {fd : FuncData} (F : F_telling K f fd) : Binds K fd p_telling [] := F.bindsN fun _ _ _ _ _ _ us hl => match us, hl with | [_, _], _ => rfl
abbrev N_folds : List Str := ["strip"]
abbrev p_folds : List Str := ["strip"]
theorem sc_folds : FnScope N_folds p_folds (defScope s_folds) := ⟨rfl, rfl, rfl, by decide +kernel, rfl, by decide +kernel, by decide +kernel⟩
abbrev F_folds (K : PySem.W.Frag) (f : Addr) (fd : FuncData) : Prop := FunD K "folds" "folds" (defArgs s_folds) (defBody s_folds) (defScope s_folds) [] [] f fd
theorem bi_folds {f : Addr} {fd : FuncData} (F : F_folds K f fd) : Binds K fd p_folds [] := F.bindsN fun _ _ _ _ _ _ us hl => match us, hl with | [_], _ => rfl
abbrev N_folded_folding : List Str := ["strip", "steps", "lock"]
abbrev p_folded_folding : List Str := ["strip"]
theorem sc_folded_folding : FnScope N_folded_folding p_folded_folding (defScope s_folded_folding) := ⟨rfl, rfl, rfl, by decide +kernel, rfl, by decide +kernel, by decide +kernel⟩
abbrev F_folded_folding (K : PySem.W.Frag) (f : Addr) (fd : FuncData) : Prop := FunD K "folded" "folded" (defArgs s_folded_folding) (defBody s_folded_folding) (defScope s_folded_folding) [] [] f fd
theorem bi_folded_folding {f : Addr} {fd : FuncData} (F : F_folded_folding K f fd) : Binds K fd p_folded_folding [] := F.bindsN fun _ _ _ _ _ _ us hl => match us, hl with | [_], _ => rfl
abbrev N_Pile_mapfold_init : List Str := ["self", "sheet", "row", "first", "second", "side", "told", "_"]
abbrev p_Pile_mapfold_init : List Str := ["self", "sheet"]
theorem sc_Pile_mapfold_init : FnScope N_Pile_mapfold_init p_Pile_mapfold_init (defScope s_Pile_mapfold_init) := ⟨rfl, rfl, rfl, by decide +kernel, rfl, by decide +kernel, by decide +kernel⟩
abbrev F_Pile_mapfold_init (K : PySem.W.Frag) (f : Addr) (fd : FuncData) : Prop := FunD K "__init__" "Pile.__init__" (defArgs s_Pile_mapfold_init) (defBody s_Pile_mapfold_init) (defScope s_Pile_mapfold_init) [] [] f fd
theorem bi_Pile_mapfold_init {f : Addr} {fd : FuncData} (F : F_Pile_mapfold_init K f fd) : Binds K fd p_Pile_mapfold_init [] := F.bindsN fun _ _ _ _ _ _ us hl => match us, hl with | [_, _], _ => rfl
abbrev N_Pile_mapfold_left : List Str := ["self", "cell"]
abbrev p_Pile_mapfold_left : List Str := ["self"]
theorem sc_Pile_mapfold_left : FnScope N_Pile_mapfold_left p_Pile_mapfold_left (defScope s_Pile_mapfold_left) := ⟨rfl, rfl, rfl, by decide +kernel, rfl, by decide +kernel, by decide +kernel⟩
abbrev F_Pile_mapfold_left (K : PySem.W.Frag) (f : Addr) (fd : FuncData) : Prop := FunD K "left" "Pile.left" (defArgs s_Pile_mapfold_left) (defBody s_Pile_mapfold_left) (defScope s_Pile_mapfold_left) [] [] f fd
theorem bi_Pile_mapfold_left {f : Addr} {fd : FuncData} (F : F_Pile_mapfold_left K f fd) : Binds K fd p_Pile_mapfold_left [] := F.bindsN fun _ _ _ _ _ _ us hl => match us, hl with | [_], _ => rfl
abbrev N_Pile_mapfold_is_crease : List Str := ["self", "cell", "other", "near", "_", "told"]
abbrev p_Pile_mapfold_is_crease : List Str := ["self", "cell", "other"]
theorem sc_Pile_mapfold_is_crease : FnScope N_Pile_mapfold_is_crease p_Pile_mapfold_is_crease (defScope s_Pile_mapfold_is_crease) := ⟨rfl, rfl, rfl, by decide +kernel, rfl, by decide +kernel, by decide +kernel⟩
abbrev F_Pile_mapfold_is_crease (K : PySem.W.Frag) (f : Addr) (fd : FuncData) : Prop := FunD K "is_crease" "Pile.is_crease" (defArgs s_Pile_mapfold_is_crease) (defBody s_Pile_mapfold_is_crease) (defScope s_Pile_mapfold_is_crease) [] [] f fd
theorem bi_Pile_mapfold_is_crease {f : Addr} {fd : FuncData} (F : F_Pile_mapfold_is_crease K f fd) : Binds K fd p_Pile_mapfold_is_crease [] := F.bindsN fun _ _ _ _ _ _ us hl => match us, hl with | [_, _, _], _ => rfl
abbrev N_Pile_mapfold_goal : List Str := ["self", "cell", "side", "near", "here", "_"]
abbrev p_Pile_mapfold_goal : List Str := ["self", "cell", "side"]
theorem sc_Pile_mapfold_goal : FnScope N_Pile_mapfold_goal p_Pile_mapfold_goal (defScope s_Pile_mapfold_goal) := ⟨rfl, rfl, rfl, by decide +kernel, rfl, by decide +kernel, by decide +kernel⟩
abbrev F_Pile_mapfold_goal (K : PySem.W.Frag) (f : Addr) (fd : FuncData) : Prop := FunD K "_goal" "Pile._goal" (defArgs s_Pile_mapfold_goal) (defBody s_Pile_mapfold_goal) (defScope s_Pile_mapfold_goal) [] [] f fd
theorem bi_Pile_mapfold_goal {f : Addr} {fd : FuncData} (F : F_Pile_mapfold_goal K f fd) : Binds K fd p_Pile_mapfold_goal [] := F.bindsN fun _ _ _ _ _ _ us hl => match us, hl with | [_, _, _], _ => rfl
abbrev N_Pile_mapfold_is_under : List Str := ["self", "cell", "other", "between", "near", "side", "_", "goal"]
abbrev p_Pile_mapfold_is_under : List Str := ["self", "cell", "other", "between"]
theorem sc_Pile_mapfold_is_under : FnScope N_Pile_mapfold_is_under p_Pile_mapfold_is_under (defScope s_Pile_mapfold_is_under) := ⟨rfl, rfl, rfl, by decide +kernel, rfl, by decide +kernel, by decide +kernel⟩
abbrev F_Pile_mapfold_is_under (K : PySem.W.Frag) (f : Addr) (fd : FuncData) : Prop := FunD K "is_under" "Pile.is_under" (defArgs s_Pile_mapfold_is_under) (defBody s_Pile_mapfold_is_under) (defScope s_Pile_mapfold_is_under) [] [] f fd
theorem bi_Pile_mapfold_is_under {f : Addr} {fd : FuncData} (F : F_Pile_mapfold_is_under K f fd) : Binds K fd p_Pile_mapfold_is_under [] := F.bindsN fun _ _ _ _ _ _ us hl => match us, hl with | [_, _, _, _], _ => rfl
abbrev N_Pile_mapfold_reason : List Str := ["self", "cell", "other", "_", "between"]
abbrev p_Pile_mapfold_reason : List Str := ["self", "cell"]
theorem sc_Pile_mapfold_reason : FnScope N_Pile_mapfold_reason p_Pile_mapfold_reason (defScope s_Pile_mapfold_reason) := ⟨rfl, rfl, rfl, by decide +kernel, rfl, by decide +kernel, by decide +kernel⟩
abbrev F_Pile_mapfold_reason (K : PySem.W.Frag) (f : Addr) (fd : FuncData) : Prop := FunD K "reason" "Pile.reason" (defArgs s_Pile_mapfold_reason) (defBody s_Pile_mapfold_reason) (defScope s_Pile_mapfold_reason) [] [] f fd
theorem bi_Pile_mapfold_reason {f : Addr} {fd : FuncData} (F : F_Pile_mapfold_reason K f fd) : Binds K fd p_Pile_mapfold_reason [] := F.bindsN fun _ _ _ _ _ _ us hl => match us, hl with | [_, _], _ => rfl
abbrev N_Pile_mapfold_find : List Str := ["self", "rows", "cell", "reason", "paper"]
abbrev p_Pile_mapfold_find : List Str := ["self"]
theorem sc_Pile_mapfold_find : FnScope N_Pile_mapfold_find p_Pile_mapfold_find (defScope s_Pile_mapfold_find) := ⟨rfl, rfl, rfl, by decide +kernel, rfl, by decide +kernel, by decide +kernel⟩
abbrev F_Pile_mapfold_find (K : PySem.W.Frag) (f : Addr) (fd : FuncData) : Prop := FunD K "find" "Pile.find" (defArgs s_Pile_mapfold_find) (defBody s_Pile_mapfold_find) (defScope s_Pile_mapfold_find) [] [] f fd
theorem bi_Pile_mapfold_find {f : Addr} {fd : FuncData} (F : F_Pile_mapfold_find K f fd) : Binds K fd p_Pile_mapfold_find [] := F.bindsN fun _ _ _ _ _ _ us hl => match us, hl with | [_], _ => rfl
abbrev N_Pile_mapfold_every : List Str := ["self", "found", "cell"]
abbrev p_Pile_mapfold_every : List Str := ["self"]
theorem sc_Pile_mapfold_every : FnScope N_Pile_mapfold_every p_Pile_mapfold_every (defScope s_Pile_mapfold_every) := ⟨rfl, rfl, rfl, by decide +kernel, rfl, by decide +kernel, by decide +kernel⟩
abbrev F_Pile_mapfold_every (K : PySem.W.Frag) (f : Addr) (fd : FuncData) : Prop := FunD K "every" "Pile.every" (defArgs s_Pile_mapfold_every) (defBody s_Pile_mapfold_every) (defScope s_Pile_mapfold_every) [] [] f fd
theorem bi_Pile_mapfold_every {f : Addr} {fd : FuncData} (F : F_Pile_mapfold_every K f fd) : Binds K fd p_Pile_mapfold_every [] := F.bindsN fun _ _ _ _ _ _ us hl => match us, hl with | [_], _ => rfl
abbrev N_folded_mapfold : List Str := ["sheet", "pile", "paper"]
abbrev p_folded_mapfold : List Str := ["sheet"]
theorem sc_folded_mapfold : FnScope N_folded_mapfold p_folded_mapfold (defScope s_folded_mapfold) := ⟨rfl, rfl, rfl, by decide +kernel, rfl, by decide +kernel, by decide +kernel⟩
abbrev F_folded_mapfold (K : PySem.W.Frag) (f : Addr) (fd : FuncData) : Prop := FunD K "folded" "folded" (defArgs s_folded_mapfold) (defBody s_folded_mapfold) (defScope s_folded_mapfold) [] [] f fd
theorem bi_folded_mapfold {f : Addr} {fd : FuncData} (F : F_folded_mapfold K f fd) : Binds K fd p_folded_mapfold [] := F.bindsN fun _ _ _ _ _ _ us hl => match us, hl with | [_], _ => rfl
abbrev N_states_of : List Str := ["sheet"]
abbrev p_states_of : List Str := ["sheet"]
theorem sc_states_of : FnScope N_states_of p_states_of (defScope s_states_of) := ⟨rfl, rfl, rfl, by decide +kernel, rfl, by decide +kernel, by decide +kernel⟩
abbrev F_states_of (K : PySem.W.Frag) (f : Addr) (fd : FuncData) : Prop := FunD K "states_of" "states_of" (defArgs s_states_of) (defBody s_states_of) (defScope s_states_of) [] [] f fd
theorem bi_states_of {f : Addr} {fd : FuncData} (F : F_states_of K f fd) : Binds K fd p_states_of [] := F.bindsN fun _ _ _ _ _ _ us hl => match us, hl with | [_], _ => rfl
abbrev N_folded_map : List Str := ["sheet"]
abbrev p_folded_map : List Str := ["sheet"]
theorem sc_folded_map : FnScope N_folded_map p_folded_map (defScope s_folded_map) := ⟨rfl, rfl, rfl, by decide +kernel, rfl, by decide +kernel, by decide +kernel⟩
abbrev F_folded_map (K : PySem.W.Frag) (f : Addr) (fd : FuncData) : Prop := FunD K "folded_map" "folded_map" (defArgs s_folded_map) (defBody s_folded_map) (defScope s_folded_map) [] [] f fd
theorem bi_folded_map {f : Addr} {fd : FuncData} (F : F_folded_map K f fd) : Binds K fd p_folded_map [] := F.bindsN fun _ _ _ _ _ _ us hl => match us, hl with | [_], _ => rfl
abbrev N_is_state : List Str := ["value", "size", "one"]
abbrev p_is_state : List Str := ["value", "size"]
theorem sc_is_state : FnScope N_is_state p_is_state (defScope s_is_state) := ⟨rfl, rfl, rfl, by decide +kernel, rfl, by decide +kernel, by decide +kernel⟩
abbrev F_is_state (K : PySem.W.Frag) (f : Addr) (fd : FuncData) : Prop := FunD K "is_state" "is_state" (defArgs s_is_state) (defBody s_is_state) (defScope s_is_state) [] [] f fd
theorem bi_is_state {f : Addr} {fd : FuncData} (F : F_is_state K f fd) : Binds K fd p_is_state [] := F.bindsN fun _ _ _ _ _ _ us hl => match us, hl with | [_, _], _ => rfl
abbrev N_check_state : List Str := ["value", "size"]
abbrev p_check_state : List Str := ["value", "size"]
theorem sc_check_state : FnScope N_check_state p_check_state (defScope s_check_state) := ⟨rfl, rfl, rfl, by decide +kernel, rfl, by decide +kernel, by decide +kernel⟩
abbrev F_check_state (K : PySem.W.Frag) (f : Addr) (fd : FuncData) : Prop := FunD K "check_state" "check_state" (defArgs s_check_state) (defBody s_check_state) (defScope s_check_state) [] [] f fd
theorem bi_check_state {f : Addr} {fd : FuncData} (F : F_check_state K f fd) : Binds K fd p_check_state [] := F.bindsN fun _ _ _ _ _ _ us hl => match us, hl with | [_, _], _ => rfl
abbrev N_levels : List Str := ["state", "found", "level", "number"]
abbrev p_levels : List Str := ["state"]
theorem sc_levels : FnScope N_levels p_levels (defScope s_levels) := ⟨rfl, rfl, rfl, by decide +kernel, rfl, by decide +kernel, by decide +kernel⟩
abbrev F_levels (K : PySem.W.Frag) (f : Addr) (fd : FuncData) : Prop := FunD K "levels" "levels" (defArgs s_levels) (defBody s_levels) (defScope s_levels) [] [] f fd
theorem bi_levels {f : Addr} {fd : FuncData} (F : F_levels K f fd) : Binds K fd p_levels [] := F.bindsN fun _ _ _ _ _ _ us hl => match us, hl with | [_], _ => rfl
abbrev N_u_cut : List Str := ["strip", "level", "crease", "place", "low", "high", "number", "left", "right"]
abbrev p_u_cut : List Str := ["strip", "level", "crease"]
theorem sc_u_cut : FnScope N_u_cut p_u_cut (defScope s_u_cut) := ⟨rfl, rfl, rfl, by decide +kernel, rfl, by decide +kernel, by decide +kernel⟩
abbrev F_u_cut (K : PySem.W.Frag) (f : Addr) (fd : FuncData) : Prop := FunD K "_cut" "_cut" (defArgs s_u_cut) (defBody s_u_cut) (defScope s_u_cut) [] [] f fd
theorem bi_u_cut {f : Addr} {fd : FuncData} (F : F_u_cut K f fd) : Binds K fd p_u_cut [] := F.bindsN fun _ _ _ _ _ _ us hl => match us, hl with | [_, _, _], _ => rfl
abbrev N_cross_states : List Str := ["strip", "level", "first", "second", "here", "low", "high"]
abbrev p_cross_states : List Str := ["strip", "level", "first", "second"]
theorem sc_cross_states : FnScope N_cross_states p_cross_states (defScope s_cross_states) := ⟨rfl, rfl, rfl, by decide +kernel, rfl, by decide +kernel, by decide +kernel⟩
abbrev F_cross_states (K : PySem.W.Frag) (f : Addr) (fd : FuncData) : Prop := FunD K "_cross" "_cross" (defArgs s_cross_states) (defBody s_cross_states) (defScope s_cross_states) [] [] f fd
theorem bi_cross_states {f : Addr} {fd : FuncData} (F : F_cross_states K f fd) : Binds K fd p_cross_states [] := F.bindsN fun _ _ _ _ _ _ us hl => match us, hl with | [_, _, _, _], _ => rfl
abbrev N_state_fault : List Str := ["strip", "state", "level", "crease", "first", "number", "second"]
abbrev p_state_fault : List Str := ["strip", "state"]
theorem sc_state_fault : FnScope N_state_fault p_state_fault (defScope s_state_fault) := ⟨rfl, rfl, rfl, by decide +kernel, rfl, by decide +kernel, by decide +kernel⟩
abbrev F_state_fault (K : PySem.W.Frag) (f : Addr) (fd : FuncData) : Prop := FunD K "state_fault" "state_fault" (defArgs s_state_fault) (defBody s_state_fault) (defScope s_state_fault) [] [] f fd
theorem bi_state_fault {f : Addr} {fd : FuncData} (F : F_state_fault K f fd) : Binds K fd p_state_fault [] := F.bindsN fun _ _ _ _ _ _ us hl => match us, hl with | [_, _], _ => rfl
abbrev N_u_showing : List Str := ["level", "crease", "odd", "even"]
abbrev p_u_showing : List Str := ["level", "crease"]
theorem sc_u_showing : FnScope N_u_showing p_u_showing (defScope s_u_showing) := ⟨rfl, rfl, rfl, by decide +kernel, rfl, by decide +kernel, by decide +kernel⟩
abbrev F_u_showing (K : PySem.W.Frag) (f : Addr) (fd : FuncData) : Prop := FunD K "_showing" "_showing" (defArgs s_u_showing) (defBody s_u_showing) (defScope s_u_showing) [] [] f fd
theorem bi_u_showing {f : Addr} {fd : FuncData} (F : F_u_showing K f fd) : Binds K fd p_u_showing [] := F.bindsN fun _ _ _ _ _ _ us hl => match us, hl with | [_, _], _ => rfl
abbrev N_shown : List Str := ["strip", "state", "level", "crease"]
abbrev p_shown : List Str := ["strip", "state"]
theorem sc_shown : FnScope N_shown p_shown (defScope s_shown) := ⟨rfl, rfl, rfl, by decide +kernel, rfl, by decide +kernel, by decide +kernel⟩
abbrev F_shown (K : PySem.W.Frag) (f : Addr) (fd : FuncData) : Prop := FunD K "shown" "shown" (defArgs s_shown) (defBody s_shown) (defScope s_shown) [] [] f fd
theorem bi_shown {f : Addr} {fd : FuncData} (F : F_shown K f fd) : Binds K fd p_shown [] := F.bindsN fun _ _ _ _ _ _ us hl => match us, hl with | [_, _], _ => rfl
abbrev N_keeps_fault : List Str := ["strip", "state", "fault", "number", "told", "shows"]
abbrev p_keeps_fault : List Str := ["strip", "state"]
theorem sc_keeps_fault : FnScope N_keeps_fault p_keeps_fault (defScope s_keeps_fault) := ⟨rfl, rfl, rfl, by decide +kernel, rfl, by decide +kernel, by decide +kernel⟩
abbrev F_keeps_fault (K : PySem.W.Frag) (f : Addr) (fd : FuncData) : Prop := FunD K "keeps_fault" "keeps_fault" (defArgs s_keeps_fault) (defBody s_keeps_fault) (defScope s_keeps_fault) [] [] f fd
theorem bi_keeps_fault {f : Addr} {fd : FuncData} (F : F_keeps_fault K f fd) : Binds K fd p_keeps_fault [] := F.bindsN fun _ _ _ _ _ _ us hl => match us, hl with | [_, _], _ => rfl
abbrev N_u_law_draws : List Str := ["script", "many", "draws", "seed", "cell", "k", "number"]
abbrev p_u_law_draws : List Str := ["script", "many"]
theorem sc_u_law_draws : FnScope N_u_law_draws p_u_law_draws (defScope s_u_law_draws) := ⟨rfl, rfl, rfl, by decide +kernel, rfl, by decide +kernel, by decide +kernel⟩
abbrev F_u_law_draws (K : PySem.W.Frag) (f : Addr) (fd : FuncData) : Prop := FunD K "_law_draws" "_law_draws" (defArgs s_u_law_draws) (defBody s_u_law_draws) (defScope s_u_law_draws) [] [] f fd
theorem bi_u_law_draws {f : Addr} {fd : FuncData} (F : F_u_law_draws K f fd) : Binds K fd p_u_law_draws [] := F.bindsN fun _ _ _ _ _ _ us hl => match us, hl with | [_, _], _ => rfl
abbrev N_u_law_places : List Str := ["lengths", "found", "k"]
abbrev p_u_law_places : List Str := ["lengths"]
theorem sc_u_law_places : FnScope N_u_law_places p_u_law_places (defScope s_u_law_places) := ⟨rfl, rfl, rfl, by decide +kernel, rfl, by decide +kernel, by decide +kernel⟩
abbrev F_u_law_places (K : PySem.W.Frag) (f : Addr) (fd : FuncData) : Prop := FunD K "_law_places" "_law_places" (defArgs s_u_law_places) (defBody s_u_law_places) (defScope s_u_law_places) [] [] f fd
theorem bi_u_law_places {f : Addr} {fd : FuncData} (F : F_u_law_places K f fd) : Binds K fd p_u_law_places [] := F.bindsN fun _ _ _ _ _ _ us hl => match us, hl with | [_], _ => rfl
abbrev N_u_law_order : List Str := ["draws", "size", "rows", "k", "row"]
abbrev p_u_law_order : List Str := ["draws", "size"]
theorem sc_u_law_order : FnScope N_u_law_order p_u_law_order (defScope s_u_law_order) := ⟨rfl, rfl, rfl, by decide +kernel, rfl, by decide +kernel, by decide +kernel⟩
abbrev F_u_law_order (K : PySem.W.Frag) (f : Addr) (fd : FuncData) : Prop := FunD K "_law_order" "_law_order" (defArgs s_u_law_order) (defBody s_u_law_order) (defScope s_u_law_order) [] [] f fd
theorem bi_u_law_order {f : Addr} {fd : FuncData} (F : F_u_law_order K f fd) : Binds K fd p_u_law_order [] := F.bindsN fun _ _ _ _ _ _ us hl => match us, hl with | [_, _], _ => rfl
abbrev N_u_law_within : List Str := ["low", "here", "high"]
abbrev p_u_law_within : List Str := ["low", "here", "high"]
theorem sc_u_law_within : FnScope N_u_law_within p_u_law_within (defScope s_u_law_within) := ⟨rfl, rfl, rfl, by decide +kernel, rfl, by decide +kernel, by decide +kernel⟩
abbrev F_u_law_within (K : PySem.W.Frag) (f : Addr) (fd : FuncData) : Prop := FunD K "_law_within" "_law_within" (defArgs s_u_law_within) (defBody s_u_law_within) (defScope s_u_law_within) [] [] f fd
theorem bi_u_law_within {f : Addr} {fd : FuncData} (F : F_u_law_within K f fd) : Binds K fd p_u_law_within [] := F.bindsN fun _ _ _ _ _ _ us hl => match us, hl with | [_, _, _], _ => rfl
abbrev N_u_law_fault : List Str := ["lengths", "state", "k", "size", "here", "j", "m", "row", "one"]
abbrev p_u_law_fault : List Str := ["lengths", "state"]
theorem sc_u_law_fault : FnScope N_u_law_fault p_u_law_fault (defScope s_u_law_fault) := ⟨rfl, rfl, rfl, by decide +kernel, rfl, by decide +kernel, by decide +kernel⟩
abbrev F_u_law_fault (K : PySem.W.Frag) (f : Addr) (fd : FuncData) : Prop := FunD K "_law_fault" "_law_fault" (defArgs s_u_law_fault) (defBody s_u_law_fault) (defScope s_u_law_fault) [] [] f fd
theorem bi_u_law_fault {f : Addr} {fd : FuncData} (F : F_u_law_fault K f fd) : Binds K fd p_u_law_fault [] := F.bindsN fun _ _ _ _ _ _ us hl => match us, hl with | [_, _], _ => rfl
abbrev N_u_law_shows : List Str := ["state", "k"]
abbrev p_u_law_shows : List Str := ["state", "k"]
theorem sc_u_law_shows : FnScope N_u_law_shows p_u_law_shows (defScope s_u_law_shows) := ⟨rfl, rfl, rfl, by decide +kernel, rfl, by decide +kernel, by decide +kernel⟩
abbrev F_u_law_shows (K : PySem.W.Frag) (f : Addr) (fd : FuncData) : Prop := FunD K "_law_shows" "_law_shows" (defArgs s_u_law_shows) (defBody s_u_law_shows) (defScope s_u_law_shows) [] [] f fd
theorem bi_u_law_shows {f : Addr} {fd : FuncData} (F : F_u_law_shows K f fd) : Binds K fd p_u_law_shows [] := F.bindsN fun _ _ _ _ _ _ us hl => match us, hl with | [_, _], _ => rfl
abbrev N_u_law_states : List Str := ["lengths", "most", "found", "k", "longer", "row", "at"]
abbrev p_u_law_states : List Str := ["lengths", "most"]
theorem sc_u_law_states : FnScope N_u_law_states p_u_law_states (defScope s_u_law_states) := ⟨rfl, rfl, rfl, by decide +kernel, rfl, by decide +kernel, by decide +kernel⟩
abbrev F_u_law_states (K : PySem.W.Frag) (f : Addr) (fd : FuncData) : Prop := FunD K "_law_states" "_law_states" (defArgs s_u_law_states) (defBody s_u_law_states) (defScope s_u_law_states) [] [] f fd
theorem bi_u_law_states {f : Addr} {fd : FuncData} (F : F_u_law_states K f fd) : Binds K fd p_u_law_states [] := F.bindsN fun _ _ _ _ _ _ us hl => match us, hl with | [_, _], _ => rfl
abbrev N_law : List Str := ["script", "draws", "size", "told", "strip", "sheet", "turn", "due", "state", "word", "paper", "one", "two", "across", "down", "k", "crease", "row"]
abbrev p_law : List Str := ["script"]
theorem sc_law : FnScope N_law p_law (defScope s_law) := ⟨rfl, rfl, rfl, by decide +kernel, rfl, by decide +kernel, by decide +kernel⟩
abbrev F_law (K : PySem.W.Frag) (f : Addr) (fd : FuncData) : Prop := FunD K "law" "law" (defArgs s_law) (defBody s_law) (defScope s_law) [] [] f fd
theorem bi_law {f : Addr} {fd : FuncData} (F : F_law K f fd) : Binds K fd p_law [] := F.bindsN fun _ _ _ _ _ _ us hl => match us, hl with | [_], _ => rfl
theorem g_is_whole (c : Fx w K mg) : mg "is_whole" = some (.ref (He.ga K "is_whole")) := c.glo 0 rfl
theorem g_places (c : Fx w K mg) : mg "places" = some (.ref (He.ga K "places")) := c.glo 1 rfl
theorem g_ends (c : Fx w K mg) : mg "ends" = some (.ref (He.ga K "ends")) := c.glo 2 rfl
theorem g_u_are_creases (c : Fx w K mg) : mg "_are_creases" = some (.ref (He.ga K "_are_creases")) := c.glo 3 rfl
theorem g_creases (c : Fx w K mg) : mg "creases" = some (.ref (He.ga K "creases")) := c.glo 4 rfl
theorem g_is_pile (c : Fx w K mg) : mg "is_pile" = some (.ref (He.ga K "is_pile")) := c.glo 5 rfl
theorem g_check_pile (c : Fx w K mg) : mg "check_pile" = some (.ref (He.ga K "check_pile")) := c.glo 6 rfl
theorem g_u_heights (c : Fx w K mg) : mg "_heights" = some (.ref (He.ga K "_heights")) := c.glo 7 rfl
theorem g_cross_piles (c : Fx w K mg) : mg "cross_piles" = some (.ref (He.ga K "cross_piles")) := c.glo 8 rfl
theorem g_map_fault (c : Fx w K mg) : mg "map_fault" = some (.ref (He.ga K "map_fault")) := c.glo 9 rfl
theorem g_u_shown (c : Fx w K mg) : mg "_shown" = some (.ref (He.ga K "_shown")) := c.glo 10 rfl
theorem g_map_shown (c : Fx w K mg) : mg "map_shown" = some (.ref (He.ga K "map_shown")) := c.glo 11 rfl
theorem g_map_keeps_fault (c : Fx w K mg) : mg "map_keeps_fault" = some (.ref (He.ga K "map_keeps_fault")) := c.glo 12 rfl
theorem g_is_higher (c : Fx w K mg) : mg "is_higher" = some (.ref (He.ga K "is_higher")) := c.glo 13 rfl
theorem g_piled (c : Fx w K mg) : mg "piled" = some (.ref (He.ga K "piled")) := c.glo 14 rfl
theorem g_u_is_end (c : Fx w K mg) : mg "_is_end" = some (.ref (He.ga K "_is_end")) := c.glo 15 rfl
theorem g_is_step (c : Fx w K mg) : mg "is_step" = some (.ref (He.ga K "is_step")) := c.glo 16 rfl
theorem g_u_done (c : Fx w K mg) : mg "_done" = some (.ref (He.ga K "_done")) := c.glo 17 rfl
theorem g_due_step (c : Fx w K mg) : mg "due_step" = some (.ref (He.ga K "due_step")) := c.glo 18 rfl
theorem g_reduced (c : Fx w K mg) : mg "reduced" = some (.ref (He.ga K "reduced")) := c.glo 19 rfl
theorem g_ways_of (c : Fx w K mg) : mg "ways_of" = some (.ref (He.ga K "ways_of")) := c.glo 20 rfl
theorem g_count (c : Fx w K mg) : mg "count" = some (.ref (He.ga K "count")) := c.glo 21 rfl
theorem g_tellings (c : Fx w K mg) : mg "tellings" = some (.ref (He.ga K "tellings")) := c.glo 22 rfl
theorem g_u_told (c : Fx w K mg) : mg "_told" = some (.ref (He.ga K "_told")) := c.glo 23 rfl
theorem g_telling (c : Fx w K mg) : mg "telling" = some (.ref (He.ga K "telling")) := c.glo 24 rfl
theorem g_folds (c : Fx w K mg) : mg "folds" = some (.ref (He.ga K "folds")) := c.glo 25 rfl
theorem g_folded_folding (c : Fx w K mg) : mg "folded_folding" = some (.ref (He.ga K "folded_folding")) := c.glo 26 rfl
theorem g_folded_mapfold (c : Fx w K mg) : mg "folded_mapfold" = some (.ref (He.ga K "folded_mapfold")) := c.glo 27 rfl
theorem g_states_of (c : Fx w K mg) : mg "states_of" = some (.ref (He.ga K "states_of")) := c.glo 28 rfl
theorem g_folded_map (c : Fx w K mg) : mg "folded_map" = some (.ref (He.ga K "folded_map")) := c.glo 29 rfl
theorem g_is_state (c : Fx w K mg) : mg "is_state" = some (.ref (He.ga K "is_state")) := c.glo 30 rfl
theorem g_check_state (c : Fx w K mg) : mg "check_state" = some (.ref (He.ga K "check_state")) := c.glo 31 rfl
theorem g_levels (c : Fx w K mg) : mg "levels" = some (.ref (He.ga K "levels")) := c.glo 32 rfl
theorem g_u_cut (c : Fx w K mg) : mg "_cut" = some (.ref (He.ga K "_cut")) := c.glo 33 rfl
theorem g_cross_states (c : Fx w K mg) : mg "cross_states" = some (.ref (He.ga K "cross_states")) := c.glo 34 rfl
theorem g_state_fault (c : Fx w K mg) : mg "state_fault" = some (.ref (He.ga K "state_fault")) := c.glo 35 rfl
theorem g_u_showing (c : Fx w K mg) : mg "_showing" = some (.ref (He.ga K "_showing")) := c.glo 36 rfl
theorem g_shown (c : Fx w K mg) : mg "shown" = some (.ref (He.ga K "shown")) := c.glo 37 rfl
theorem g_keeps_fault (c : Fx w K mg) : mg "keeps_fault" = some (.ref (He.ga K "keeps_fault")) := c.glo 38 rfl
theorem g_u_law_draws (c : Fx w K mg) : mg "_law_draws" = some (.ref (He.ga K "_law_draws")) := c.glo 39 rfl
theorem g_u_law_places (c : Fx w K mg) : mg "_law_places" = some (.ref (He.ga K "_law_places")) := c.glo 40 rfl
theorem g_u_law_order (c : Fx w K mg) : mg "_law_order" = some (.ref (He.ga K "_law_order")) := c.glo 41 rfl
theorem g_u_law_within (c : Fx w K mg) : mg "_law_within" = some (.ref (He.ga K "_law_within")) := c.glo 42 rfl
theorem g_u_law_fault (c : Fx w K mg) : mg "_law_fault" = some (.ref (He.ga K "_law_fault")) := c.glo 43 rfl
theorem g_u_law_shows (c : Fx w K mg) : mg "_law_shows" = some (.ref (He.ga K "_law_shows")) := c.glo 44 rfl
theorem g_u_law_states (c : Fx w K mg) : mg "_law_states" = some (.ref (He.ga K "_law_states")) := c.glo 45 rfl
theorem g_law (c : Fx w K mg) : mg "law" = some (.ref (He.ga K "law")) := c.glo 46 rfl
theorem g_Strip (c : Fx w K mg) : mg "Strip" = some (.ref (He.ga K "Strip")) := c.glo 47 rfl
theorem g_Map (c : Fx w K mg) : mg "Map" = some (.ref (He.ga K "Map")) := c.glo 48 rfl
theorem g_Pile_piling (c : Fx w K mg) : mg "Pile_piling" = some (.ref (He.ga K "Pile_piling")) := c.glo 49 rfl
theorem g_Row (c : Fx w K mg) : mg "Row" = some (.ref (He.ga K "Row")) := c.glo 50 rfl
theorem g_Pile_mapfold (c : Fx w K mg) : mg "Pile_mapfold" = some (.ref (He.ga K "Pile_mapfold")) := c.glo 51 rfl
theorem g_LEFT (c : Fx w K mg) : mg "LEFT" = some (.ref (He.ga K "LEFT")) := c.glo 52 rfl
theorem g_RIGHT (c : Fx w K mg) : mg "RIGHT" = some (.ref (He.ga K "RIGHT")) := c.glo 53 rfl
theorem z_len (c : Fx w K mg) : mg "len" = none := c.free 54 rfl
theorem z_range (c : Fx w K mg) : mg "range" = none := c.free 55 rfl
theorem z_isinstance (c : Fx w K mg) : mg "isinstance" = none := c.free 56 rfl
theorem z_int (c : Fx w K mg) : mg "int" = none := c.free 57 rfl
theorem z_bool (c : Fx w K mg) : mg "bool" = none := c.free 58 rfl
theorem z_str (c : Fx w K mg) : mg "str" = none := c.free 59 rfl
theorem z_tuple (c : Fx w K mg) : mg "tuple" = none := c.free 60 rfl
theorem z_list (c : Fx w K mg) : mg "list" = none := c.free 61 rfl
theorem z_all (c : Fx w K mg) : mg "all" = none := c.free 62 rfl
theorem z_any (c : Fx w K mg) : mg "any" = none := c.free 63 rfl
theorem z_min (c : Fx w K mg) : mg "min" = none := c.free 64 rfl
theorem z_max (c : Fx w K mg) : mg "max" = none := c.free 65 rfl
theorem z_sum (c : Fx w K mg) : mg "sum" = none := c.free 66 rfl
theorem z_sorted (c : Fx w K mg) : mg "sorted" = none := c.free 67 rfl
theorem z_enumerate (c : Fx w K mg) : mg "enumerate" = none := c.free 68 rfl
theorem z_zip (c : Fx w K mg) : mg "zip" = none := c.free 69 rfl
theorem z_abs (c : Fx w K mg) : mg "abs" = none := c.free 70 rfl
theorem v_MOUNTAIN (c : Fx w K mg) : ∃ t, mg "MOUNTAIN" = some (.str "M" t) := c.str 71 rfl
theorem v_VALLEY (c : Fx w K mg) : ∃ t, mg "VALLEY" = some (.str "V" t) := c.str 72 rfl
theorem v_OPEN (c : Fx w K mg) : ∃ t, mg "OPEN" = some (.str "?" t) := c.str 73 rfl
theorem v_FORM (c : Fx w K mg) : ∃ t, mg "FORM" = some (.str "form" t) := c.str 74 rfl
theorem v_BLOCK (c : Fx w K mg) : ∃ t, mg "BLOCK" = some (.str "block" t) := c.str 75 rfl
theorem v_CREASE (c : Fx w K mg) : ∃ t, mg "CREASE" = some (.str "crease" t) := c.str 76 rfl
theorem v_UNDER (c : Fx w K mg) : ∃ t, mg "UNDER" = some (.str "under" t) := c.str 77 rfl
theorem v_THEN (c : Fx w K mg) : ∃ t, mg "THEN" = some (.str "then" t) := c.str 78 rfl
theorem v_MOST_SEGMENTS (c : Fx w K mg) : ∃ t, mg "MOST_SEGMENTS" = some (.int 20 t) := c.int 79 rfl
theorem v_MOST_LENGTH (c : Fx w K mg) : ∃ t, mg "MOST_LENGTH" = some (.int 1000 t) := c.int 80 rfl
theorem v_MOST_LINES (c : Fx w K mg) : ∃ t, mg "MOST_LINES" = some (.int 6 t) := c.int 81 rfl
theorem v_MOST_FOLDED (c : Fx w K mg) : ∃ t, mg "MOST_FOLDED" = some (.int 10 t) := c.int 82 rfl
theorem v_MOST_LISTED (c : Fx w K mg) : ∃ t, mg "MOST_LISTED" = some (.int 9 t) := c.int 83 rfl
abbrev C_Strip (K : PySem.W.Frag) : Addr := He.ga K "Strip"
theorem cl_Strip (c : Fx w K mg) : Cls K (C_Strip K) := He.cls_ok (x := "Strip") (c.d.fact 84 rfl)
theorem mk_Strip (c : Fx w K mg) : Mk K (C_Strip K) (He.ma K (C_Strip K) "__init__") := He.mkr_ok (x := "Strip") (c.d.fact 85 rfl)
theorem na_Strip_lengths (c : Fx w K mg) : NoAttr K (C_Strip K) "lengths" := He.noat_ok (x := "Strip") (c.d.fact 86 rfl)
theorem na_Strip_creases (c : Fx w K mg) : NoAttr K (C_Strip K) "creases" := He.noat_ok (x := "Strip") (c.d.fact 87 rfl)
theorem na_Strip_size (c : Fx w K mg) : NoAttr K (C_Strip K) "size" := He.noat_ok (x := "Strip") (c.d.fact 88 rfl)
abbrev C_Map (K : PySem.W.Frag) : Addr := He.ga K "Map"
theorem cl_Map (c : Fx w K mg) : Cls K (C_Map K) := He.cls_ok (x := "Map") (c.d.fact 89 rfl)
theorem mk_Map (c : Fx w K mg) : Mk K (C_Map K) (He.ma K (C_Map K) "__init__") := He.mkr_ok (x := "Map") (c.d.fact 90 rfl)
theorem na_Map_rows (c : Fx w K mg) : NoAttr K (C_Map K) "rows" := He.noat_ok (x := "Map") (c.d.fact 91 rfl)
theorem na_Map_columns (c : Fx w K mg) : NoAttr K (C_Map K) "columns" := He.noat_ok (x := "Map") (c.d.fact 92 rfl)
theorem na_Map_across (c : Fx w K mg) : NoAttr K (C_Map K) "across" := He.noat_ok (x := "Map") (c.d.fact 93 rfl)
theorem na_Map_down (c : Fx w K mg) : NoAttr K (C_Map K) "down" := He.noat_ok (x := "Map") (c.d.fact 94 rfl)
theorem na_Map_cells (c : Fx w K mg) : NoAttr K (C_Map K) "cells" := He.noat_ok (x := "Map") (c.d.fact 95 rfl)
abbrev C_Pile_piling (K : PySem.W.Frag) : Addr := He.ga K "Pile_piling"
theorem cl_Pile_piling (c : Fx w K mg) : Cls K (C_Pile_piling K) := He.cls_ok (x := "Pile_piling") (c.d.fact 96 rfl)
theorem mk_Pile_piling (c : Fx w K mg) : Mk K (C_Pile_piling K) (He.ma K (C_Pile_piling K) "__init__") := He.mkr_ok (x := "Pile_piling") (c.d.fact 97 rfl)
theorem na_Pile_piling_length (c : Fx w K mg) : NoAttr K (C_Pile_piling K) "length" := He.noat_ok (x := "Pile_piling") (c.d.fact 98 rfl)
theorem na_Pile_piling_layers (c : Fx w K mg) : NoAttr K (C_Pile_piling K) "layers" := He.noat_ok (x := "Pile_piling") (c.d.fact 99 rfl)
abbrev C_Row (K : PySem.W.Frag) : Addr := He.ga K "Row"
theorem cl_Row (c : Fx w K mg) : Cls K (C_Row K) := He.cls_ok (x := "Row") (c.d.fact 100 rfl)
theorem mk_Row (c : Fx w K mg) : Mk K (C_Row K) (He.ma K (C_Row K) "__init__") := He.mkr_ok (x := "Row") (c.d.fact 101 rfl)
theorem na_Row_size (c : Fx w K mg) : NoAttr K (C_Row K) "size" := He.noat_ok (x := "Row") (c.d.fact 102 rfl)
theorem na_Row_is_ring (c : Fx w K mg) : NoAttr K (C_Row K) "is_ring" := He.noat_ok (x := "Row") (c.d.fact 103 rfl)
theorem na_Row_piles (c : Fx w K mg) : NoAttr K (C_Row K) "piles" := He.noat_ok (x := "Row") (c.d.fact 104 rfl)
theorem na_Row_creases (c : Fx w K mg) : NoAttr K (C_Row K) "creases" := He.noat_ok (x := "Row") (c.d.fact 105 rfl)
abbrev C_Pile_mapfold (K : PySem.W.Frag) : Addr := He.ga K "Pile_mapfold"
theorem cl_Pile_mapfold (c : Fx w K mg) : Cls K (C_Pile_mapfold K) := He.cls_ok (x := "Pile_mapfold") (c.d.fact 106 rfl)
theorem mk_Pile_mapfold (c : Fx w K mg) : Mk K (C_Pile_mapfold K) (He.ma K (C_Pile_mapfold K) "__init__") := He.mkr_ok (x := "Pile_mapfold") (c.d.fact 107 rfl)
theorem na_Pile_mapfold_sheet (c : Fx w K mg) : NoAttr K (C_Pile_mapfold K) "sheet" := He.noat_ok (x := "Pile_mapfold") (c.d.fact 108 rfl)
theorem na_Pile_mapfold_cells (c : Fx w K mg) : NoAttr K (C_Pile_mapfold K) "cells" := He.noat_ok (x := "Pile_mapfold") (c.d.fact 109 rfl)
theorem na_Pile_mapfold_near (c : Fx w K mg) : NoAttr K (C_Pile_mapfold K) "near" := He.noat_ok (x := "Pile_mapfold") (c.d.fact 110 rfl)
theorem me_Map_place (c : Fx w K mg) : Meth K (C_Map K) "place" (He.ma K (C_Map K) "place") := He.meth_ok (x := "Map") (c.d.fact 111 rfl)
theorem me_Map_is_odd (c : Fx w K mg) : Meth K (C_Map K) "is_odd" (He.ma K (C_Map K) "is_odd") := He.meth_ok (x := "Map") (c.d.fact 112 rfl)
theorem me_Pile_piling_with_beside (c : Fx w K mg) : Meth K (C_Pile_piling K) "with_beside" (He.ma K (C_Pile_piling K) "with_beside") := He.meth_ok (x := "Pile_piling") (c.d.fact 113 rfl)
theorem me_Row_up (c : Fx w K mg) : Meth K (C_Row K) "_up" (He.ma K (C_Row K) "_up") := He.meth_ok (x := "Row") (c.d.fact 114 rfl)
theorem me_Row_crimp_any (c : Fx w K mg) : Meth K (C_Row K) "crimp_any" (He.ma K (C_Row K) "crimp_any") := He.meth_ok (x := "Row") (c.d.fact 115 rfl)
theorem me_Row_fold_end (c : Fx w K mg) : Meth K (C_Row K) "fold_end" (He.ma K (C_Row K) "fold_end") := He.meth_ok (x := "Row") (c.d.fact 116 rfl)
theorem me_Pile_mapfold_left (c : Fx w K mg) : Meth K (C_Pile_mapfold K) "left" (He.ma K (C_Pile_mapfold K) "left") := He.meth_ok (x := "Pile_mapfold") (c.d.fact 117 rfl)
theorem me_Pile_mapfold_is_crease (c : Fx w K mg) : Meth K (C_Pile_mapfold K) "is_crease" (He.ma K (C_Pile_mapfold K) "is_crease") := He.meth_ok (x := "Pile_mapfold") (c.d.fact 118 rfl)
theorem me_Pile_mapfold_goal (c : Fx w K mg) : Meth K (C_Pile_mapfold K) "_goal" (He.ma K (C_Pile_mapfold K) "_goal") := He.meth_ok (x := "Pile_mapfold") (c.d.fact 119 rfl)
theorem me_Pile_mapfold_is_under (c : Fx w K mg) : Meth K (C_Pile_mapfold K) "is_under" (He.ma K (C_Pile_mapfold K) "is_under") := He.meth_ok (x := "Pile_mapfold") (c.d.fact 120 rfl)
theorem me_Pile_mapfold_reason (c : Fx w K mg) : Meth K (C_Pile_mapfold K) "reason" (He.ma K (C_Pile_mapfold K) "reason") := He.meth_ok (x := "Pile_mapfold") (c.d.fact 121 rfl)
theorem me_Pile_mapfold_find (c : Fx w K mg) : Meth K (C_Pile_mapfold K) "find" (He.ma K (C_Pile_mapfold K) "find") := He.meth_ok (x := "Pile_mapfold") (c.d.fact 122 rfl)
theorem me_Pile_mapfold_every (c : Fx w K mg) : Meth K (C_Pile_mapfold K) "every" (He.ma K (C_Pile_mapfold K) "every") := He.meth_ok (x := "Pile_mapfold") (c.d.fact 123 rfl)
theorem fd_is_whole (c : Fx w K mg) : ∃ fd, F_is_whole K (He.ga K "is_whole") fd := c.d.def_ 0 (d := d_is_whole) rfl
theorem fd_Strip_init (c : Fx w K mg) : ∃ fd, F_Strip_init K (He.ma K (C_Strip K) "__init__") fd := c.d.def_ 1 (d := d_Strip_init) rfl
theorem fd_places (c : Fx w K mg) : ∃ fd, F_places K (He.ga K "places") fd := c.d.def_ 2 (d := d_places) rfl
theorem fd_ends (c : Fx w K mg) : ∃ fd, F_ends K (He.ga K "ends") fd := c.d.def_ 3 (d := d_ends) rfl
theorem fd_u_are_creases (c : Fx w K mg) : ∃ fd, F_u_are_creases K (He.ga K "_are_creases") fd := c.d.def_ 4 (d := d_u_are_creases) rfl
theorem fd_Map_init (c : Fx w K mg) : ∃ fd, F_Map_init K (He.ma K (C_Map K) "__init__") fd := c.d.def_ 5 (d := d_Map_init) rfl
theorem fd_Map_place (c : Fx w K mg) : ∃ fd, F_Map_place K (He.ma K (C_Map K) "place") fd := c.d.def_ 6 (d := d_Map_place) rfl
theorem fd_Map_is_odd (c : Fx w K mg) : ∃ fd, F_Map_is_odd K (He.ma K (C_Map K) "is_odd") fd := c.d.def_ 7 (d := d_Map_is_odd) rfl
theorem fd_creases (c : Fx w K mg) : ∃ fd, F_creases K (He.ga K "creases") fd := c.d.def_ 8 (d := d_creases) rfl
theorem fd_is_pile (c : Fx w K mg) : ∃ fd, F_is_pile K (He.ga K "is_pile") fd := c.d.def_ 9 (d := d_is_pile) rfl
theorem fd_check_pile (c : Fx w K mg) : ∃ fd, F_check_pile K (He.ga K "check_pile") fd := c.d.def_ 10 (d := d_check_pile) rfl
theorem fd_u_heights (c : Fx w K mg) : ∃ fd, F_u_heights K (He.ga K "_heights") fd := c.d.def_ 11 (d := d_u_heights) rfl
theorem fd_cross_piles (c : Fx w K mg) : ∃ fd, F_cross_piles K (He.ga K "cross_piles") fd := c.d.def_ 12 (d := d_cross_piles) rfl
theorem fd_map_fault (c : Fx w K mg) : ∃ fd, F_map_fault K (He.ga K "map_fault") fd := c.d.def_ 13 (d := d_map_fault) rfl
theorem fd_u_shown (c : Fx w K mg) : ∃ fd, F_u_shown K (He.ga K "_shown") fd := c.d.def_ 14 (d := d_u_shown) rfl
theorem fd_map_shown (c : Fx w K mg) : ∃ fd, F_map_shown K (He.ga K "map_shown") fd := c.d.def_ 15 (d := d_map_shown) rfl
theorem fd_map_keeps_fault (c : Fx w K mg) : ∃ fd, F_map_keeps_fault K (He.ga K "map_keeps_fault") fd := c.d.def_ 16 (d := d_map_keeps_fault) rfl
theorem fd_is_higher (c : Fx w K mg) : ∃ fd, F_is_higher K (He.ga K "is_higher") fd := c.d.def_ 17 (d := d_is_higher) rfl
theorem fd_Pile_piling_init (c : Fx w K mg) : ∃ fd, F_Pile_piling_init K (He.ma K (C_Pile_piling K) "__init__") fd := c.d.def_ 18 (d := d_Pile_piling_init) rfl
theorem fd_Pile_piling_with_beside (c : Fx w K mg) : ∃ fd, F_Pile_piling_with_beside K (He.ma K (C_Pile_piling K) "with_beside") fd := c.d.def_ 19 (d := d_Pile_piling_with_beside) rfl
theorem fd_Row_init (c : Fx w K mg) : ∃ fd, F_Row_init K (He.ma K (C_Row K) "__init__") fd := c.d.def_ 20 (d := d_Row_init) rfl
theorem fd_Row_up (c : Fx w K mg) : ∃ fd, F_Row_up K (He.ma K (C_Row K) "_up") fd := c.d.def_ 21 (d := d_Row_up) rfl
theorem fd_Row_crimp_any (c : Fx w K mg) : ∃ fd, F_Row_crimp_any K (He.ma K (C_Row K) "crimp_any") fd := c.d.def_ 22 (d := d_Row_crimp_any) rfl
theorem fd_Row_fold_end (c : Fx w K mg) : ∃ fd, F_Row_fold_end K (He.ma K (C_Row K) "fold_end") fd := c.d.def_ 23 (d := d_Row_fold_end) rfl
theorem fd_piled (c : Fx w K mg) : ∃ fd, F_piled K (He.ga K "piled") fd := c.d.def_ 24 (d := d_piled) rfl
theorem fd_u_is_end (c : Fx w K mg) : ∃ fd, F_u_is_end K (He.ga K "_is_end") fd := c.d.def_ 25 (d := d_u_is_end) rfl
theorem fd_is_step (c : Fx w K mg) : ∃ fd, F_is_step K (He.ga K "is_step") fd := c.d.def_ 26 (d := d_is_step) rfl
theorem fd_u_done (c : Fx w K mg) : ∃ fd, F_u_done K (He.ga K "_done") fd := c.d.def_ 27 (d := d_u_done) rfl
theorem fd_due_step (c : Fx w K mg) : ∃ fd, F_due_step K (He.ga K "due_step") fd := c.d.def_ 28 (d := d_due_step) rfl
theorem fd_reduced (c : Fx w K mg) : ∃ fd, F_reduced K (He.ga K "reduced") fd := c.d.def_ 29 (d := d_reduced) rfl
theorem fd_ways_of (c : Fx w K mg) : ∃ fd, F_ways_of K (He.ga K "ways_of") fd := c.d.def_ 30 (d := d_ways_of) rfl
theorem fd_count (c : Fx w K mg) : ∃ fd, F_count K (He.ga K "count") fd := c.d.def_ 31 (d := d_count) rfl
theorem fd_tellings (c : Fx w K mg) : ∃ fd, F_tellings K (He.ga K "tellings") fd := c.d.def_ 32 (d := d_tellings) rfl
theorem fd_u_told (c : Fx w K mg) : ∃ fd, F_u_told K (He.ga K "_told") fd := c.d.def_ 33 (d := d_u_told) rfl
theorem fd_telling (c : Fx w K mg) : ∃ fd, F_telling K (He.ga K "telling") fd := c.d.def_ 34 (d := d_telling) rfl
theorem fd_folds (c : Fx w K mg) : ∃ fd, F_folds K (He.ga K "folds") fd := c.d.def_ 35 (d := d_folds) rfl
theorem fd_folded_folding (c : Fx w K mg) : ∃ fd, F_folded_folding K (He.ga K "folded_folding") fd := c.d.def_ 36 (d := d_folded_folding) rfl
theorem fd_Pile_mapfold_init (c : Fx w K mg) : ∃ fd, F_Pile_mapfold_init K (He.ma K (C_Pile_mapfold K) "__init__") fd := c.d.def_ 37 (d := d_Pile_mapfold_init) rfl
theorem fd_Pile_mapfold_left (c : Fx w K mg) : ∃ fd, F_Pile_mapfold_left K (He.ma K (C_Pile_mapfold K) "left") fd := c.d.def_ 38 (d := d_Pile_mapfold_left) rfl
theorem fd_Pile_mapfold_is_crease (c : Fx w K mg) : ∃ fd, F_Pile_mapfold_is_crease K (He.ma K (C_Pile_mapfold K) "is_crease") fd := c.d.def_ 39 (d := d_Pile_mapfold_is_crease) rfl
theorem fd_Pile_mapfold_goal (c : Fx w K mg) : ∃ fd, F_Pile_mapfold_goal K (He.ma K (C_Pile_mapfold K) "_goal") fd := c.d.def_ 40 (d := d_Pile_mapfold_goal) rfl
theorem fd_Pile_mapfold_is_under (c : Fx w K mg) : ∃ fd, F_Pile_mapfold_is_under K (He.ma K (C_Pile_mapfold K) "is_under") fd := c.d.def_ 41 (d := d_Pile_mapfold_is_under) rfl
theorem fd_Pile_mapfold_reason (c : Fx w K mg) : ∃ fd, F_Pile_mapfold_reason K (He.ma K (C_Pile_mapfold K) "reason") fd := c.d.def_ 42 (d := d_Pile_mapfold_reason) rfl
theorem fd_Pile_mapfold_find (c : Fx w K mg) : ∃ fd, F_Pile_mapfold_find K (He.ma K (C_Pile_mapfold K) "find") fd := c.d.def_ 43 (d := d_Pile_mapfold_find) rfl
theorem fd_Pile_mapfold_every (c : Fx w K mg) : ∃ fd, F_Pile_mapfold_every K (He.ma K (C_Pile_mapfold K) "every") fd := c.d.def_ 44 (d := d_Pile_mapfold_every) rfl
theorem fd_folded_mapfold (c : Fx w K mg) : ∃ fd, F_folded_mapfold K (He.ga K "folded_mapfold") fd := c.d.def_ 45 (d := d_folded_mapfold) rfl
theorem fd_states_of (c : Fx w K mg) : ∃ fd, F_states_of K (He.ga K "states_of") fd := c.d.def_ 46 (d := d_states_of) rfl
theorem fd_folded_map (c : Fx w K mg) : ∃ fd, F_folded_map K (He.ga K "folded_map") fd := c.d.def_ 47 (d := d_folded_map) rfl
theorem fd_is_state (c : Fx w K mg) : ∃ fd, F_is_state K (He.ga K "is_state") fd := c.d.def_ 48 (d := d_is_state) rfl
theorem fd_check_state (c : Fx w K mg) : ∃ fd, F_check_state K (He.ga K "check_state") fd := c.d.def_ 49 (d := d_check_state) rfl
theorem fd_levels (c : Fx w K mg) : ∃ fd, F_levels K (He.ga K "levels") fd := c.d.def_ 50 (d := d_levels) rfl
theorem fd_u_cut (c : Fx w K mg) : ∃ fd, F_u_cut K (He.ga K "_cut") fd := c.d.def_ 51 (d := d_u_cut) rfl
theorem fd_cross_states (c : Fx w K mg) : ∃ fd, F_cross_states K (He.ga K "cross_states") fd := c.d.def_ 52 (d := d_cross_states) rfl
theorem fd_state_fault (c : Fx w K mg) : ∃ fd, F_state_fault K (He.ga K "state_fault") fd := c.d.def_ 53 (d := d_state_fault) rfl
theorem fd_u_showing (c : Fx w K mg) : ∃ fd, F_u_showing K (He.ga K "_showing") fd := c.d.def_ 54 (d := d_u_showing) rfl
theorem fd_shown (c : Fx w K mg) : ∃ fd, F_shown K (He.ga K "shown") fd := c.d.def_ 55 (d := d_shown) rfl
theorem fd_keeps_fault (c : Fx w K mg) : ∃ fd, F_keeps_fault K (He.ga K "keeps_fault") fd := c.d.def_ 56 (d := d_keeps_fault) rfl
theorem fd_u_law_draws (c : Fx w K mg) : ∃ fd, F_u_law_draws K (He.ga K "_law_draws") fd := c.d.def_ 57 (d := d_u_law_draws) rfl
theorem fd_u_law_places (c : Fx w K mg) : ∃ fd, F_u_law_places K (He.ga K "_law_places") fd := c.d.def_ 58 (d := d_u_law_places) rfl
theorem fd_u_law_order (c : Fx w K mg) : ∃ fd, F_u_law_order K (He.ga K "_law_order") fd := c.d.def_ 59 (d := d_u_law_order) rfl
theorem fd_u_law_within (c : Fx w K mg) : ∃ fd, F_u_law_within K (He.ga K "_law_within") fd := c.d.def_ 60 (d := d_u_law_within) rfl
theorem fd_u_law_fault (c : Fx w K mg) : ∃ fd, F_u_law_fault K (He.ga K "_law_fault") fd := c.d.def_ 61 (d := d_u_law_fault) rfl
theorem fd_u_law_shows (c : Fx w K mg) : ∃ fd, F_u_law_shows K (He.ga K "_law_shows") fd := c.d.def_ 62 (d := d_u_law_shows) rfl
theorem fd_u_law_states (c : Fx w K mg) : ∃ fd, F_u_law_states K (He.ga K "_law_states") fd := c.d.def_ 63 (d := d_u_law_states) rfl
theorem fd_law (c : Fx w K mg) : ∃ fd, F_law K (He.ga K "law") fd := c.d.def_ 64 (d := d_law) rfl
theorem to_is_whole {k : Nat} {sp : Sp} (c : Fx w K mg) (h : ∀ f fd, F_is_whole K f fd → FnOk P w K mg base CX0 k f fd p_is_whole sp) : Cl P w K mg base k "is_whole" sp := by
  obtain ⟨fd, F⟩ := fd_is_whole c
  exact ⟨_, fd, _, h _ fd F, g_is_whole c, F.kp, bi_is_whole F⟩
theorem to_Strip_init {k : Nat} {sp : Sp} (c : Fx w K mg) (h : ∀ f fd, F_Strip_init K f fd → FnOk P w K mg base CX0 k f fd p_Strip_init sp) : Mk' P w K mg base k "Strip" (C_Strip K) sp := by
  obtain ⟨fd, F⟩ := fd_Strip_init c
  exact ⟨_, fd, _, mk_Strip c, h _ fd F, g_Strip c, bi_Strip_init F⟩
theorem to_places {k : Nat} {sp : Sp} (c : Fx w K mg) (h : ∀ f fd, F_places K f fd → FnOk P w K mg base CX0 k f fd p_places sp) : Cl P w K mg base k "places" sp := by
  obtain ⟨fd, F⟩ := fd_places c
  exact ⟨_, fd, _, h _ fd F, g_places c, F.kp, bi_places F⟩
theorem to_ends {k : Nat} {sp : Sp} (c : Fx w K mg) (h : ∀ f fd, F_ends K f fd → FnOk P w K mg base CX0 k f fd p_ends sp) : Cl P w K mg base k "ends" sp := by
  obtain ⟨fd, F⟩ := fd_ends c
  exact ⟨_, fd, _, h _ fd F, g_ends c, F.kp, bi_ends F⟩
theorem to_u_are_creases {k : Nat} {sp : Sp} (c : Fx w K mg) (h : ∀ f fd, F_u_are_creases K f fd → FnOk P w K mg base CX0 k f fd p_u_are_creases sp) : Cl P w K mg base k "_are_creases" sp := by
  obtain ⟨fd, F⟩ := fd_u_are_creases c
  exact ⟨_, fd, _, h _ fd F, g_u_are_creases c, F.kp, bi_u_are_creases F⟩
theorem to_Map_init {k : Nat} {sp : Sp} (c : Fx w K mg) (h : ∀ f fd, F_Map_init K f fd → FnOk P w K mg base CX0 k f fd p_Map_init sp) : Mk' P w K mg base k "Map" (C_Map K) sp := by
  obtain ⟨fd, F⟩ := fd_Map_init c
  exact ⟨_, fd, _, mk_Map c, h _ fd F, g_Map c, bi_Map_init F⟩
theorem to_Map_place {k : Nat} {sp : Sp} (c : Fx w K mg) (h : ∀ f fd, F_Map_place K f fd → FnOk P w K mg base CX0 k f fd p_Map_place sp) : Mt P w K mg base k (C_Map K) "place" sp := by
  obtain ⟨fd, F⟩ := fd_Map_place c
  exact ⟨_, fd, _, cl_Map c, me_Map_place c, h _ fd F, bi_Map_place F⟩
theorem to_Map_is_odd {k : Nat} {sp : Sp} (c : Fx w K mg) (h : ∀ f fd, F_Map_is_odd K f fd → FnOk P w K mg base CX0 k f fd p_Map_is_odd sp) : Mt P w K mg base k (C_Map K) "is_odd" sp := by
  obtain ⟨fd, F⟩ := fd_Map_is_odd c
  exact ⟨_, fd, _, cl_Map c, me_Map_is_odd c, h _ fd F, bi_Map_is_odd F⟩
theorem to_creases {k : Nat} {sp : Sp} (c : Fx w K mg) (h : ∀ f fd, F_creases K f fd → FnOk P w K mg base CX0 k f fd p_creases sp) : Cl P w K mg base k "creases" sp := by
  obtain ⟨fd, F⟩ := fd_creases c
  exact ⟨_, fd, _, h _ fd F, g_creases c, F.kp, bi_creases F⟩
theorem to_is_pile {k : Nat} {sp : Sp} (c : Fx w K mg) (h : ∀ f fd, F_is_pile K f fd → FnOk P w K mg base CX0 k f fd p_is_pile sp) : Cl P w K mg base k "is_pile" sp := by
  obtain ⟨fd, F⟩ := fd_is_pile c
  exact ⟨_, fd, _, h _ fd F, g_is_pile c, F.kp, bi_is_pile F⟩
theorem to_check_pile {k : Nat} {sp : Sp} (c : Fx w K mg) (h : ∀ f fd, F_check_pile K f fd → FnOk P w K mg base CX0 k f fd p_check_pile sp) : Cl P w K mg base k "check_pile" sp := by
  obtain ⟨fd, F⟩ := fd_check_pile c
  exact ⟨_, fd, _, h _ fd F, g_check_pile c, F.kp, bi_check_pile F⟩
theorem to_u_heights {k : Nat} {sp : Sp} (c : Fx w K mg) (h : ∀ f fd, F_u_heights K f fd → FnOk P w K mg base CX0 k f fd p_u_heights sp) : Cl P w K mg base k "_heights" sp := by
  obtain ⟨fd, F⟩ := fd_u_heights c
  exact ⟨_, fd, _, h _ fd F, g_u_heights c, F.kp, bi_u_heights F⟩
theorem to_cross_piles {k : Nat} {sp : Sp} (c : Fx w K mg) (h : ∀ f fd, F_cross_piles K f fd → FnOk P w K mg base CX0 k f fd p_cross_piles sp) : Cl P w K mg base k "cross_piles" sp := by
  obtain ⟨fd, F⟩ := fd_cross_piles c
  exact ⟨_, fd, _, h _ fd F, g_cross_piles c, F.kp, bi_cross_piles F⟩
theorem to_map_fault {k : Nat} {sp : Sp} (c : Fx w K mg) (h : ∀ f fd, F_map_fault K f fd → FnOk P w K mg base CX0 k f fd p_map_fault sp) : Cl P w K mg base k "map_fault" sp := by
  obtain ⟨fd, F⟩ := fd_map_fault c
  exact ⟨_, fd, _, h _ fd F, g_map_fault c, F.kp, bi_map_fault F⟩
theorem to_u_shown {k : Nat} {sp : Sp} (c : Fx w K mg) (h : ∀ f fd, F_u_shown K f fd → FnOk P w K mg base CX0 k f fd p_u_shown sp) : Cl P w K mg base k "_shown" sp := by
  obtain ⟨fd, F⟩ := fd_u_shown c
  exact ⟨_, fd, _, h _ fd F, g_u_shown c, F.kp, bi_u_shown F⟩
theorem to_map_shown {k : Nat} {sp : Sp} (c : Fx w K mg) (h : ∀ f fd, F_map_shown K f fd → FnOk P w K mg base CX0 k f fd p_map_shown sp) : Cl P w K mg base k "map_shown" sp := by
  obtain ⟨fd, F⟩ := fd_map_shown c
  exact ⟨_, fd, _, h _ fd F, g_map_shown c, F.kp, bi_map_shown F⟩
theorem to_map_keeps_fault {k : Nat} {sp : Sp} (c : Fx w K mg) (h : ∀ f fd, F_map_keeps_fault K f fd → FnOk P w K mg base CX0 k f fd p_map_keeps_fault sp) : Cl P w K mg base k "map_keeps_fault" sp := by
  obtain ⟨fd, F⟩ := fd_map_keeps_fault c
  exact ⟨_, fd, _, h _ fd F, g_map_keeps_fault c, F.kp, bi_map_keeps_fault F⟩
theorem to_is_higher {k : Nat} {sp : Sp} (c : Fx w K mg) (h : ∀ f fd, F_is_higher K f fd → FnOk P w K mg base CX0 k f fd p_is_higher sp) : Cl P w K mg base k "is_higher" sp := by
  obtain ⟨fd, F⟩ := fd_is_higher c
  exact ⟨_, fd, _, h _ fd F, g_is_higher c, F.kp, bi_is_higher F⟩
theorem to_Pile_piling_init {k : Nat} {sp : Sp} (c : Fx w K mg) (h : ∀ f fd, F_Pile_piling_init K f fd → FnOk P w K mg base CX0 k f fd p_Pile_piling_init sp) : Mk' P w K mg base k "Pile_piling" (C_Pile_piling K) sp := by
  obtain ⟨fd, F⟩ := fd_Pile_piling_init c
  exact ⟨_, fd, _, mk_Pile_piling c, h _ fd F, g_Pile_piling c, bi_Pile_piling_init F⟩
theorem to_Pile_piling_with_beside {k : Nat} {sp : Sp} (c : Fx w K mg) (h : ∀ f fd, F_Pile_piling_with_beside K f fd → FnOk P w K mg base CX0 k f fd p_Pile_piling_with_beside sp) : Mt P w K mg base k (C_Pile_piling K) "with_beside" sp := by
  obtain ⟨fd, F⟩ := fd_Pile_piling_with_beside c
  exact ⟨_, fd, _, cl_Pile_piling c, me_Pile_piling_with_beside c, h _ fd F, bi_Pile_piling_with_beside F⟩
theorem to_Row_init {k : Nat} {sp : Sp} (c : Fx w K mg) (h : ∀ f fd, F_Row_init K f fd → FnOk P w K mg base CX0 k f fd p_Row_init sp) : Mk' P w K mg base k "Row" (C_Row K) sp := by
  obtain ⟨fd, F⟩ := fd_Row_init c
  exact ⟨_, fd, _, mk_Row c, h _ fd F, g_Row c, bi_Row_init F⟩
theorem to_Row_up {k : Nat} {sp : Sp} (c : Fx w K mg) (h : ∀ f fd, F_Row_up K f fd → FnOk P w K mg base CX0 k f fd p_Row_up sp) : Mt P w K mg base k (C_Row K) "_up" sp := by
  obtain ⟨fd, F⟩ := fd_Row_up c
  exact ⟨_, fd, _, cl_Row c, me_Row_up c, h _ fd F, bi_Row_up F⟩
theorem to_Row_crimp_any {k : Nat} {sp : Sp} (c : Fx w K mg) (h : ∀ f fd, F_Row_crimp_any K f fd → FnOk P w K mg base CX0 k f fd p_Row_crimp_any sp) : Mt P w K mg base k (C_Row K) "crimp_any" sp := by
  obtain ⟨fd, F⟩ := fd_Row_crimp_any c
  exact ⟨_, fd, _, cl_Row c, me_Row_crimp_any c, h _ fd F, bi_Row_crimp_any F⟩
theorem to_Row_fold_end {k : Nat} {sp : Sp} (c : Fx w K mg) (h : ∀ f fd, F_Row_fold_end K f fd → FnOk P w K mg base CX0 k f fd p_Row_fold_end sp) : Mt P w K mg base k (C_Row K) "fold_end" sp := by
  obtain ⟨fd, F⟩ := fd_Row_fold_end c
  exact ⟨_, fd, _, cl_Row c, me_Row_fold_end c, h _ fd F, bi_Row_fold_end F⟩
theorem to_piled {k : Nat} {sp : Sp} (c : Fx w K mg) (h : ∀ f fd, F_piled K f fd → FnOk P w K mg base CX0 k f fd p_piled sp) : Cl P w K mg base k "piled" sp := by
  obtain ⟨fd, F⟩ := fd_piled c
  exact ⟨_, fd, _, h _ fd F, g_piled c, F.kp, bi_piled F⟩
theorem to_u_is_end {k : Nat} {sp : Sp} (c : Fx w K mg) (h : ∀ f fd, F_u_is_end K f fd → FnOk P w K mg base CX0 k f fd p_u_is_end sp) : Cl P w K mg base k "_is_end" sp := by
  obtain ⟨fd, F⟩ := fd_u_is_end c
  exact ⟨_, fd, _, h _ fd F, g_u_is_end c, F.kp, bi_u_is_end F⟩
theorem to_is_step {k : Nat} {sp : Sp} (c : Fx w K mg) (h : ∀ f fd, F_is_step K f fd → FnOk P w K mg base CX0 k f fd p_is_step sp) : Cl P w K mg base k "is_step" sp := by
  obtain ⟨fd, F⟩ := fd_is_step c
  exact ⟨_, fd, _, h _ fd F, g_is_step c, F.kp, bi_is_step F⟩
theorem to_u_done {k : Nat} {sp : Sp} (c : Fx w K mg) (h : ∀ f fd, F_u_done K f fd → FnOk P w K mg base CX0 k f fd p_u_done sp) : Cl P w K mg base k "_done" sp := by
  obtain ⟨fd, F⟩ := fd_u_done c
  exact ⟨_, fd, _, h _ fd F, g_u_done c, F.kp, bi_u_done F⟩
theorem to_due_step {k : Nat} {sp : Sp} (c : Fx w K mg) (h : ∀ f fd, F_due_step K f fd → FnOk P w K mg base CX0 k f fd p_due_step sp) : Cl P w K mg base k "due_step" sp := by
  obtain ⟨fd, F⟩ := fd_due_step c
  exact ⟨_, fd, _, h _ fd F, g_due_step c, F.kp, bi_due_step F⟩
theorem to_reduced {k : Nat} {sp : Sp} (c : Fx w K mg) (h : ∀ f fd, F_reduced K f fd → FnOk P w K mg base CX0 k f fd p_reduced sp) : Cl P w K mg base k "reduced" sp := by
  obtain ⟨fd, F⟩ := fd_reduced c
  exact ⟨_, fd, _, h _ fd F, g_reduced c, F.kp, bi_reduced F⟩
theorem to_ways_of {k : Nat} {sp : Sp} (c : Fx w K mg) (h : ∀ f fd, F_ways_of K f fd → FnOk P w K mg base CX0 k f fd p_ways_of sp) : Cl P w K mg base k "ways_of" sp := by
  obtain ⟨fd, F⟩ := fd_ways_of c
  exact ⟨_, fd, _, h _ fd F, g_ways_of c, F.kp, bi_ways_of F⟩
theorem to_count {k : Nat} {sp : Sp} (c : Fx w K mg) (h : ∀ f fd, F_count K f fd → FnOk P w K mg base CX0 k f fd p_count sp) : Cl P w K mg base k "count" sp := by
  obtain ⟨fd, F⟩ := fd_count c
  exact ⟨_, fd, _, h _ fd F, g_count c, F.kp, bi_count F⟩
theorem to_tellings {k : Nat} {sp : Sp} (c : Fx w K mg) (h : ∀ f fd, F_tellings K f fd → FnOk P w K mg base CX0 k f fd p_tellings sp) : Cl P w K mg base k "tellings" sp := by
  obtain ⟨fd, F⟩ := fd_tellings c
  exact ⟨_, fd, _, h _ fd F, g_tellings c, F.kp, bi_tellings F⟩
theorem to_u_told {k : Nat} {sp : Sp} (c : Fx w K mg) (h : ∀ f fd, F_u_told K f fd → FnOk P w K mg base CX0 k f fd p_u_told sp) : Cl P w K mg base k "_told" sp := by
  obtain ⟨fd, F⟩ := fd_u_told c
  exact ⟨_, fd, _, h _ fd F, g_u_told c, F.kp, bi_u_told F⟩
theorem to_telling {k : Nat} {sp : Sp} (c : Fx w K mg) (h : ∀ f fd, F_telling K f fd → FnOk P w K mg base CX0 k f fd p_telling sp) : Cl P w K mg base k "telling" sp := by
  obtain ⟨fd, F⟩ := fd_telling c
  exact ⟨_, fd, _, h _ fd F, g_telling c, F.kp, bi_telling F⟩
theorem to_folds {k : Nat} {sp : Sp} (c : Fx w K mg) (h : ∀ f fd, F_folds K f fd → FnOk P w K mg base CX0 k f fd p_folds sp) : Cl P w K mg base k "folds" sp := by
  obtain ⟨fd, F⟩ := fd_folds c
  exact ⟨_, fd, _, h _ fd F, g_folds c, F.kp, bi_folds F⟩
theorem to_folded_folding {k : Nat} {sp : Sp} (c : Fx w K mg) (h : ∀ f fd, F_folded_folding K f fd → FnOk P w K mg base CX0 k f fd p_folded_folding sp) : Cl P w K mg base k "folded_folding" sp := by
  obtain ⟨fd, F⟩ := fd_folded_folding c
  exact ⟨_, fd, _, h _ fd F, g_folded_folding c, F.kp, bi_folded_folding F⟩
theorem to_Pile_mapfold_init {k : Nat} {sp : Sp} (c : Fx w K mg) (h : ∀ f fd, F_Pile_mapfold_init K f fd → FnOk P w K mg base CX0 k f fd p_Pile_mapfold_init sp) : Mk' P w K mg base k "Pile_mapfold" (C_Pile_mapfold K) sp := by
  obtain ⟨fd, F⟩ := fd_Pile_mapfold_init c
  exact ⟨_, fd, _, mk_Pile_mapfold c, h _ fd F, g_Pile_mapfold c, bi_Pile_mapfold_init F⟩
theorem to_Pile_mapfold_left {k : Nat} {sp : Sp} (c : Fx w K mg) (h : ∀ f fd, F_Pile_mapfold_left K f fd → FnOk P w K mg base CX0 k f fd p_Pile_mapfold_left sp) : Mt P w K mg base k (C_Pile_mapfold K) "left" sp := by
  obtain ⟨fd, F⟩ := fd_Pile_mapfold_left c
  exact ⟨_, fd, _, cl_Pile_mapfold c, me_Pile_mapfold_left c, h _ fd F, bi_Pile_mapfold_left F⟩
theorem to_Pile_mapfold_is_crease {k : Nat} {sp : Sp} (c : Fx w K mg) (h : ∀ f fd, F_Pile_mapfold_is_crease K f fd → FnOk P w K mg base CX0 k f fd p_Pile_mapfold_is_crease sp) : Mt P w K mg base k (C_Pile_mapfold K) "is_crease" sp := by
  obtain ⟨fd, F⟩ := fd_Pile_mapfold_is_crease c
  exact ⟨_, fd, _, cl_Pile_mapfold c, me_Pile_mapfold_is_crease c, h _ fd F, bi_Pile_mapfold_is_crease F⟩
theorem to_Pile_mapfold_goal {k : Nat} {sp : Sp} (c : Fx w K mg) (h : ∀ f fd, F_Pile_mapfold_goal K f fd → FnOk P w K mg base CX0 k f fd p_Pile_mapfold_goal sp) : Mt P w K mg base k (C_Pile_mapfold K) "_goal" sp := by
  obtain ⟨fd, F⟩ := fd_Pile_mapfold_goal c
  exact ⟨_, fd, _, cl_Pile_mapfold c, me_Pile_mapfold_goal c, h _ fd F, bi_Pile_mapfold_goal F⟩
theorem to_Pile_mapfold_is_under {k : Nat} {sp : Sp} (c : Fx w K mg) (h : ∀ f fd, F_Pile_mapfold_is_under K f fd → FnOk P w K mg base CX0 k f fd p_Pile_mapfold_is_under sp) : Mt P w K mg base k (C_Pile_mapfold K) "is_under" sp := by
  obtain ⟨fd, F⟩ := fd_Pile_mapfold_is_under c
  exact ⟨_, fd, _, cl_Pile_mapfold c, me_Pile_mapfold_is_under c, h _ fd F, bi_Pile_mapfold_is_under F⟩
theorem to_Pile_mapfold_reason {k : Nat} {sp : Sp} (c : Fx w K mg) (h : ∀ f fd, F_Pile_mapfold_reason K f fd → FnOk P w K mg base CX0 k f fd p_Pile_mapfold_reason sp) : Mt P w K mg base k (C_Pile_mapfold K) "reason" sp := by
  obtain ⟨fd, F⟩ := fd_Pile_mapfold_reason c
  exact ⟨_, fd, _, cl_Pile_mapfold c, me_Pile_mapfold_reason c, h _ fd F, bi_Pile_mapfold_reason F⟩
theorem to_Pile_mapfold_find {k : Nat} {sp : Sp} (c : Fx w K mg) (h : ∀ f fd, F_Pile_mapfold_find K f fd → FnOk P w K mg base CX0 k f fd p_Pile_mapfold_find sp) : Mt P w K mg base k (C_Pile_mapfold K) "find" sp := by
  obtain ⟨fd, F⟩ := fd_Pile_mapfold_find c
  exact ⟨_, fd, _, cl_Pile_mapfold c, me_Pile_mapfold_find c, h _ fd F, bi_Pile_mapfold_find F⟩
theorem to_Pile_mapfold_every {k : Nat} {sp : Sp} (c : Fx w K mg) (h : ∀ f fd, F_Pile_mapfold_every K f fd → FnOk P w K mg base CX0 k f fd p_Pile_mapfold_every sp) : Mt P w K mg base k (C_Pile_mapfold K) "every" sp := by
  obtain ⟨fd, F⟩ := fd_Pile_mapfold_every c
  exact ⟨_, fd, _, cl_Pile_mapfold c, me_Pile_mapfold_every c, h _ fd F, bi_Pile_mapfold_every F⟩
theorem to_folded_mapfold {k : Nat} {sp : Sp} (c : Fx w K mg) (h : ∀ f fd, F_folded_mapfold K f fd → FnOk P w K mg base CX0 k f fd p_folded_mapfold sp) : Cl P w K mg base k "folded_mapfold" sp := by
  obtain ⟨fd, F⟩ := fd_folded_mapfold c
  exact ⟨_, fd, _, h _ fd F, g_folded_mapfold c, F.kp, bi_folded_mapfold F⟩
theorem to_states_of {k : Nat} {sp : Sp} (c : Fx w K mg) (h : ∀ f fd, F_states_of K f fd → FnOk P w K mg base CX0 k f fd p_states_of sp) : Cl P w K mg base k "states_of" sp := by
  obtain ⟨fd, F⟩ := fd_states_of c
  exact ⟨_, fd, _, h _ fd F, g_states_of c, F.kp, bi_states_of F⟩
theorem to_folded_map {k : Nat} {sp : Sp} (c : Fx w K mg) (h : ∀ f fd, F_folded_map K f fd → FnOk P w K mg base CX0 k f fd p_folded_map sp) : Cl P w K mg base k "folded_map" sp := by
  obtain ⟨fd, F⟩ := fd_folded_map c
  exact ⟨_, fd, _, h _ fd F, g_folded_map c, F.kp, bi_folded_map F⟩
theorem to_is_state {k : Nat} {sp : Sp} (c : Fx w K mg) (h : ∀ f fd, F_is_state K f fd → FnOk P w K mg base CX0 k f fd p_is_state sp) : Cl P w K mg base k "is_state" sp := by
  obtain ⟨fd, F⟩ := fd_is_state c
  exact ⟨_, fd, _, h _ fd F, g_is_state c, F.kp, bi_is_state F⟩
theorem to_check_state {k : Nat} {sp : Sp} (c : Fx w K mg) (h : ∀ f fd, F_check_state K f fd → FnOk P w K mg base CX0 k f fd p_check_state sp) : Cl P w K mg base k "check_state" sp := by
  obtain ⟨fd, F⟩ := fd_check_state c
  exact ⟨_, fd, _, h _ fd F, g_check_state c, F.kp, bi_check_state F⟩
theorem to_levels {k : Nat} {sp : Sp} (c : Fx w K mg) (h : ∀ f fd, F_levels K f fd → FnOk P w K mg base CX0 k f fd p_levels sp) : Cl P w K mg base k "levels" sp := by
  obtain ⟨fd, F⟩ := fd_levels c
  exact ⟨_, fd, _, h _ fd F, g_levels c, F.kp, bi_levels F⟩
theorem to_u_cut {k : Nat} {sp : Sp} (c : Fx w K mg) (h : ∀ f fd, F_u_cut K f fd → FnOk P w K mg base CX0 k f fd p_u_cut sp) : Cl P w K mg base k "_cut" sp := by
  obtain ⟨fd, F⟩ := fd_u_cut c
  exact ⟨_, fd, _, h _ fd F, g_u_cut c, F.kp, bi_u_cut F⟩
theorem to_cross_states {k : Nat} {sp : Sp} (c : Fx w K mg) (h : ∀ f fd, F_cross_states K f fd → FnOk P w K mg base CX0 k f fd p_cross_states sp) : Cl P w K mg base k "cross_states" sp := by
  obtain ⟨fd, F⟩ := fd_cross_states c
  exact ⟨_, fd, _, h _ fd F, g_cross_states c, F.kp, bi_cross_states F⟩
theorem to_state_fault {k : Nat} {sp : Sp} (c : Fx w K mg) (h : ∀ f fd, F_state_fault K f fd → FnOk P w K mg base CX0 k f fd p_state_fault sp) : Cl P w K mg base k "state_fault" sp := by
  obtain ⟨fd, F⟩ := fd_state_fault c
  exact ⟨_, fd, _, h _ fd F, g_state_fault c, F.kp, bi_state_fault F⟩
theorem to_u_showing {k : Nat} {sp : Sp} (c : Fx w K mg) (h : ∀ f fd, F_u_showing K f fd → FnOk P w K mg base CX0 k f fd p_u_showing sp) : Cl P w K mg base k "_showing" sp := by
  obtain ⟨fd, F⟩ := fd_u_showing c
  exact ⟨_, fd, _, h _ fd F, g_u_showing c, F.kp, bi_u_showing F⟩
theorem to_shown {k : Nat} {sp : Sp} (c : Fx w K mg) (h : ∀ f fd, F_shown K f fd → FnOk P w K mg base CX0 k f fd p_shown sp) : Cl P w K mg base k "shown" sp := by
  obtain ⟨fd, F⟩ := fd_shown c
  exact ⟨_, fd, _, h _ fd F, g_shown c, F.kp, bi_shown F⟩
theorem to_keeps_fault {k : Nat} {sp : Sp} (c : Fx w K mg) (h : ∀ f fd, F_keeps_fault K f fd → FnOk P w K mg base CX0 k f fd p_keeps_fault sp) : Cl P w K mg base k "keeps_fault" sp := by
  obtain ⟨fd, F⟩ := fd_keeps_fault c
  exact ⟨_, fd, _, h _ fd F, g_keeps_fault c, F.kp, bi_keeps_fault F⟩
theorem to_u_law_draws {k : Nat} {sp : Sp} (c : Fx w K mg) (h : ∀ f fd, F_u_law_draws K f fd → FnOk P w K mg base CX0 k f fd p_u_law_draws sp) : Cl P w K mg base k "_law_draws" sp := by
  obtain ⟨fd, F⟩ := fd_u_law_draws c
  exact ⟨_, fd, _, h _ fd F, g_u_law_draws c, F.kp, bi_u_law_draws F⟩
theorem to_u_law_places {k : Nat} {sp : Sp} (c : Fx w K mg) (h : ∀ f fd, F_u_law_places K f fd → FnOk P w K mg base CX0 k f fd p_u_law_places sp) : Cl P w K mg base k "_law_places" sp := by
  obtain ⟨fd, F⟩ := fd_u_law_places c
  exact ⟨_, fd, _, h _ fd F, g_u_law_places c, F.kp, bi_u_law_places F⟩
theorem to_u_law_order {k : Nat} {sp : Sp} (c : Fx w K mg) (h : ∀ f fd, F_u_law_order K f fd → FnOk P w K mg base CX0 k f fd p_u_law_order sp) : Cl P w K mg base k "_law_order" sp := by
  obtain ⟨fd, F⟩ := fd_u_law_order c
  exact ⟨_, fd, _, h _ fd F, g_u_law_order c, F.kp, bi_u_law_order F⟩
theorem to_u_law_within {k : Nat} {sp : Sp} (c : Fx w K mg) (h : ∀ f fd, F_u_law_within K f fd → FnOk P w K mg base CX0 k f fd p_u_law_within sp) : Cl P w K mg base k "_law_within" sp := by
  obtain ⟨fd, F⟩ := fd_u_law_within c
  exact ⟨_, fd, _, h _ fd F, g_u_law_within c, F.kp, bi_u_law_within F⟩
theorem to_u_law_fault {k : Nat} {sp : Sp} (c : Fx w K mg) (h : ∀ f fd, F_u_law_fault K f fd → FnOk P w K mg base CX0 k f fd p_u_law_fault sp) : Cl P w K mg base k "_law_fault" sp := by
  obtain ⟨fd, F⟩ := fd_u_law_fault c
  exact ⟨_, fd, _, h _ fd F, g_u_law_fault c, F.kp, bi_u_law_fault F⟩
theorem to_u_law_shows {k : Nat} {sp : Sp} (c : Fx w K mg) (h : ∀ f fd, F_u_law_shows K f fd → FnOk P w K mg base CX0 k f fd p_u_law_shows sp) : Cl P w K mg base k "_law_shows" sp := by
  obtain ⟨fd, F⟩ := fd_u_law_shows c
  exact ⟨_, fd, _, h _ fd F, g_u_law_shows c, F.kp, bi_u_law_shows F⟩
theorem to_u_law_states {k : Nat} {sp : Sp} (c : Fx w K mg) (h : ∀ f fd, F_u_law_states K f fd → FnOk P w K mg base CX0 k f fd p_u_law_states sp) : Cl P w K mg base k "_law_states" sp := by
  obtain ⟨fd, F⟩ := fd_u_law_states c
  exact ⟨_, fd, _, h _ fd F, g_u_law_states c, F.kp, bi_u_law_states F⟩
theorem to_law {k : Nat} {sp : Sp} (c : Fx w K mg) (h : ∀ f fd, F_law K f fd → FnOk P w K mg base CX0 k f fd p_law sp) : Cl P w K mg base k "law" sp := by
  obtain ⟨fd, F⟩ := fd_law c
  exact ⟨_, fd, _, h _ fd F, g_law c, F.kp, bi_law F⟩
end
end K82
/-! ## part P -/
/-! More rules over data. -/
namespace K82
open PySem PySem.Spec PyProof.Rows L2
theorem k_int_int : kitB "int" "int" = some true := by decide +kernel
theorem k_int_bool : kitB "int" "bool" = some false := by decide +kernel
theorem k_tup_tup : kitB "tuple" "tuple" = some true := by decide +kernel
theorem k_str_str : kitB "str" "str" = some true := by decide +kernel
theorem b_int : bootBuiltins "int" = some (.type "int") := by decide +kernel
theorem b_bool : bootBuiltins "bool" = some (.type "bool") := by decide +kernel
theorem b_tuple : bootBuiltins "tuple" = some (.type "tuple") := by decide +kernel
theorem b_str : bootBuiltins "str" = some (.type "str") := by decide +kernel
section
variable {X : Cx} {ρ ρ1 ρ2 : Rho} {e a b c : Expr} {es : List Expr} {pos p pos' apos cpos : Pos} {d d1 d2 : Dt} {ds ds1 ds2 : List Dt} {x y m n : Str} {st : Stmt} {sts sts2 : List Stmt} {o : Out}
/-! ### conditional expressions with both answers -/
theorem x_if2 {k : Bool} (hc : XT X c ρ k) (ha : k = true → XE X a ρ d1) (hb : k = false → XE X b ρ d2) : XE X (.IfExp c a b pos) ρ (bif k then d1 else d2) := x_ifE hc (fun h => by subst h; exact ha rfl) (fun h => by subst h; exact hb rfl)
theorem x_ifI {k : Bool} {i j : Int} (hc : XT X c ρ k) (ha : k = true → XE X a ρ (.int i)) (hb : k = false → XE X b ρ (.int j)) : XE X (.IfExp c a b pos) ρ (.int (bif k then i else j)) := x_ifE hc (fun h => by subst h; exact ha rfl) (fun h => by subst h; exact hb rfl)
theorem x_ifS {k : Bool} {i j : Str} (hc : XT X c ρ k) (ha : k = true → XE X a ρ (.str i)) (hb : k = false → XE X b ρ (.str j)) : XE X (.IfExp c a b pos) ρ (.str (bif k then i else j)) := x_ifE hc (fun h => by subst h; exact ha rfl) (fun h => by subst h; exact hb rfl)
/-- -i -/
theorem x_neg {i : Int} (h : XE X a ρ (.int i)) : XE X (.UnaryOp .USub a pos) ρ (.int (-i)) := EvD.of (pe_un un_neg pe_wp) fun F0 H0 F H σ S Q q => h F0 H0 F H σ S _ fun v F2 H2 g dv => by
  simp only [Den] at dv
  exact ⟨i, dv, q _ F2 H2 g (by simp only [Den])⟩
/-! ### slots forgotten -/
def Fg : Rho → Rho → Prop
  | [], [] => True
  | a :: as, b :: bs => (b = none ∨ b = a) ∧ Fg as bs
  | _, _ => False
theorem Fg.refl : ∀ ρ : Rho, Fg ρ ρ
  | [] => trivial
  | _ :: r => ⟨.inr rfl, Fg.refl r⟩
theorem Fg.len : ∀ {ρ ρ' : Rho}, Fg ρ ρ' → ρ.length = ρ'.length
  | [], [], _ => rfl
  | _ :: _, _ :: _, h => by rw [List.length_cons, List.length_cons, Fg.len h.2]
  | [], _ :: _, h => h.elim
  | _ :: _, [], h => h.elim
theorem Fg.at : ∀ {ρ ρ' : Rho}, Fg ρ ρ' → ∀ (i : Nat) (s : Sv), ρ'[i]? = some (some s) → ρ[i]? = some (some s)
  | [], [], _, i, s, e => by simp at e
  | a :: as, b :: bs, h, 0, s, e => by
    have e' : b = some s := Option.some.inj e
    rcases h.1 with z | z
    · rw [z] at e'; cases e'
    · rw [z] at e'; rw [e']; rfl
  | a :: as, b :: bs, h, i + 1, s, e => Fg.at h.2 i s e
  | [], _ :: _, h, _, _, _ => h.elim
  | _ :: _, [], h, _, _, _ => h.elim
theorem Sta.fg {K : PySem.W.Frag} {F0 H0 F H : Hp} {σ : L2.St} (S : Sta K F0 H0 F H σ ρ) (h : Fg ρ ρ1) : Sta K F0 H0 F H σ ρ1 := S.weak (S.len.trans h.len) fun i s e => ⟨h.at i s e, rfl⟩
theorem b_fg {K : PySem.W.Frag} {t : TS} (h : BsD K t ρ (.nx ρ1)) (f : Fg ρ1 ρ2) : BsD K t ρ (.nx ρ2) := fun F0 H0 F H σ D S q => h F0 H0 F H σ D S fun F2 H2 σ2 S2 e2 => q F2 H2 σ2 (S2.fg f) e2
theorem b_fg0 {K : PySem.W.Frag} {t : TS} (f : Fg ρ ρ1) (h : BsD K t ρ1 o) : BsD K t ρ o := fun F0 H0 F H σ D S q => h F0 H0 F H σ D (S.fg f) q
theorem s_consF (h : XS X st ρ (.nx ρ1)) (f : Fg ρ1 ρ2) (t : XSs X sts ρ2 o) : XSs X (st :: sts) ρ o := s_cons (b_fg h f) t
theorem s_consK (h : XS X st ρ (.nx ρ)) (t : XSs X sts ρ o) : XSs X (st :: sts) ρ o := s_cons h t
/-- (a, b) = a list -/
theorem tg_unl {K : PySem.W.Frag} {vs : List Nat} {gs : TGs} {n : Nat} (hn : ds.length = n) (h : TgsD K gs vs ds ρ ρ1) : TgD K (gUnl K n gs) vs (.lst ds) ρ ρ1 := fun F0 H0 F H σ S v dv Q q => by
  simp only [Den] at dv
  obtain ⟨a, xs, rfl, h2, h3⟩ := dv
  exact ⟨a, xs, rfl, SqL.of (S.ex _ _ h2), h3.length.trans hn, h F0 H0 F H σ S xs h3 Q q⟩
/-! ### loops -/
theorem for_nat {K : PySem.W.Frag} {g : TG} {vs : List Nat} {tb : TS} (r : Nat → Rho) : ∀ (items : List Dt) (k : Nat), (∀ i d, items[i]? = some d → ∃ ρ1, TgD K g vs d (r (k + i)) ρ1 ∧ BsD K tb ρ1 (.nx (r (k + i + 1)))) → ForD K g vs tb items (r k) (.nx (r (k + items.length)))
  | [], k, _ => rfl
  | d :: ds, k, h => by
    obtain ⟨ρ1, h1, h2⟩ := h 0 d rfl
    have ih := for_nat (K := K) (g := g) (vs := vs) (tb := tb) r ds (k + 1) fun i d' e => by
      have := h (i + 1) d' e
      have e1 : k + 1 + i = k + (i + 1) := by omega
      rw [e1]; exact this
    have e2 : k + 1 + ds.length = k + (d :: ds).length := by rw [List.length_cons]; omega
    rw [e2] at ih
    exact for_cons h1 h2 ih
theorem for_at {K : PySem.W.Frag} {g : TG} {vs : List Nat} {tb : TS} {items : List Dt} (r : Nat → Rho) (n : Nat) (hn : items.length = n) (h0 : ρ = r 0) (h1 : ρ1 = r n) (h : ∀ i d, i < n → items[i]? = some d → ∃ ρ1, TgD K g vs d (r i) ρ1 ∧ BsD K tb ρ1 (.nx (r (i + 1)))) : ForD K g vs tb items ρ (.nx ρ1) := by
  have := for_nat (K := K) (g := g) (vs := vs) (tb := tb) r items 0 fun i d e => by
    have := h i d (by rw [← hn]; exact (List.getElem?_eq_some_iff.mp e).1) e
    rw [Nat.zero_add]; exact this
  rw [Nat.zero_add, hn] at this
  rw [h0, h1]; exact this
/-- the first item of which k holds ends it -/
theorem for_find {α : Type} {K : PySem.W.Frag} {g : TG} {vs : List Nat} {tb : TS} (enc : α → Dt) (k : α → Bool) (o : α → Out) (r : Rho) : ∀ xs : List α, (∀ x ∈ xs, ∃ ρ1, TgD K g vs (enc x) r ρ1 ∧ (k x = false → BsD K tb ρ1 (.nx r)) ∧ (k x = true → BsD K tb ρ1 (o x) ∧ (o x).ret = true)) →
    ForD K g vs tb (xs.map enc) r (match xs.find? k with | some x => o x | none => .nx r)
  | [], _ => rfl
  | x :: xs, h => by
    obtain ⟨ρ1, h1, h2, h3⟩ := h x List.mem_cons_self
    cases hk : k x with
    | true =>
      rw [List.find?_cons_of_pos hk]
      exact for_ret h1 (h3 hk).1 (h3 hk).2
    | false =>
      rw [List.find?_cons_of_neg (by rw [hk]; exact Bool.false_ne_true)]
      exact for_cons h1 (h2 hk) (for_find enc k o r xs fun y hy => h y (List.mem_cons_of_mem _ hy))
theorem for_all {K : PySem.W.Frag} {g : TG} {vs : List Nat} {tb : TS} (r : Rho) : ∀ items : List Dt, (∀ d ∈ items, ∃ ρ1, TgD K g vs d r ρ1 ∧ BsD K tb ρ1 (.nx r)) → ForD K g vs tb items r (.nx r)
  | [], _ => rfl
  | d :: ds, h => by
    obtain ⟨ρ1, h1, h2⟩ := h d List.mem_cons_self
    exact for_cons h1 h2 (for_all r ds fun y hy => h y (List.mem_cons_of_mem _ hy))
/-! ### enumerate, sorted, .. -/
/-- (0, d0), (1, d1), .. -/
def enD (ds : List Dt) : List Dt := ds.zipIdx.map fun p => .tup [.int (p.2 : Int), p.1]
theorem wk_enumT {K : PySem.W.Frag} {F2 : Hp} {t : Addr} {xs : List V} (h2 : SqT K F2 t xs) (h3 : DenL K F2 ds xs) : Wk K (K82M.IteT K t) F2 (enD ds) := fun F' H' e1 e2 => ⟨fun i d hd => by
  unfold enD at hd
  rw [List.getElem?_map, List.getElem?_zipIdx, Nat.zero_add] at hd
  cases w : ds[i]? with
  | none => rw [w] at hd; cases hd
  | some d0 =>
    rw [w] at hd
    have ed : Dt.tup [.int (i : Int), d0] = d := Option.some.inj hd
    subst ed
    obtain ⟨x, hx, dx⟩ := h3.get w
    have hl : SqT K H' t xs := ex_t e2 (ex_t e1 h2)
    refine ⟨⟨xs, x, hl, hx⟩, fun y H'' ⟨T, x', e, hT, eH, hy⟩ => ?_⟩
    have w2 := hy xs hl
    rw [hx] at w2
    cases w2
    subst e eH
    exact ⟨_, Gr.new e2 hT, den_tup st_new (DenL.cons (by simp only [Den]) (DenL.cons ((dx.mono e1).mono (Ex.new (e2.none hT))) DenL.nil))⟩, ⟨xs, ex_t e2 (ex_t e1 h2), by unfold enD; rw [List.length_map, List.length_zipIdx]; exact Nat.le_of_eq h3.length⟩⟩
theorem xi_enumT {elts : List Expr} {kk : Nat} {tpos : Pos} (hm : X.mg "enumerate" = none) (h : XE X e ρ (.tup ds)) (hg : Gl X "enumerate" := by rfl) (hs : starEach [e] X.env = (false, eval e X.env) :: starEach [] X.env := by rfl) :
    XIt X (.Tuple elts kk tpos) (.Call (.Name "enumerate" p) [e] [] pos) ρ (enD ds) := ⟨_, K82M.pi_enumT hg hm (pa_cons pe_wp pa_nil hs) hs, fun F0 H0 F H σ S R q => h F0 H0 F H σ S _ fun v F2 H2 g dv => by
  simp only [Den] at dv
  obtain ⟨t, xs, rfl, h2, h3⟩ := dv
  exact ⟨t, xs, rfl, ex_t g.s h2, q _ F2 H2 g (wk_enumT h2 h3)⟩⟩
theorem wk_enumZ {K : PySem.W.Frag} {F2 : Hp} {t u : Addr} {xs ys : List V} (h2 : SqT K F2 t xs) (h3 : DenL K F2 ds1 xs) (h4 : SqT K F2 u ys) (h5 : DenL K F2 ds2 ys) (hl : ds1.length = ds2.length) : Wk K (K82M.ItzE K t u) F2 ((ds1.zip ds2).zipIdx.map fun p => .tup [.int (p.2 : Int), .tup [p.1.1, p.1.2]]) := fun F' H' e1 e2 => ⟨fun i d hd => by
  rw [List.getElem?_map, List.getElem?_zipIdx, Nat.zero_add] at hd
  cases w : (ds1.zip ds2)[i]? with
  | none => rw [w] at hd; cases hd
  | some p0 =>
    rw [w] at hd
    obtain ⟨a0, b0⟩ := p0
    have ed : Dt.tup [.int (i : Int), .tup [a0, b0]] = d := Option.some.inj hd
    subst ed
    have wab := List.getElem?_zip_eq_some.mp w
    obtain ⟨x, hx, dx⟩ := h3.get wab.1
    obtain ⟨y, hy, dy⟩ := h5.get wab.2
    have la : SqT K H' t xs := ex_t e2 (ex_t e1 h2)
    have lb : SqT K H' u ys := ex_t e2 (ex_t e1 h4)
    refine ⟨⟨xs, ys, x, y, la, lb, hx, hy⟩, fun z H'' ⟨T1, T2, x', y', e, hT1, hT2, eH, k1, k2⟩ => ?_⟩
    have w1 := k1 xs la
    have w2 := k2 ys lb
    rw [hx] at w1
    rw [hy] at w2
    cases w1
    cases w2
    subst e eH
    have g1 : Gr F' H' (upd F' T1 (.tup [x, y])) (upd H' T1 (.tup [x, y])) := Gr.new e2 hT1
    have g2 := Gr.new (o := .tup [.int (i : Int), .ref T1]) g1.s hT2
    have n2 : upd F' T1 (.tup [x, y]) T2 = none := g1.s.none hT2
    exact ⟨_, g1.trans g2, den_tup st_new (DenL.cons (by simp only [Den]) (DenL.cons (Den.mono (Ex.new n2) _ (den_tup st_new (DenL.cons ((dx.mono e1).mono g1.f) (DenL.cons ((dy.mono e1).mono g1.f) DenL.nil)))) DenL.nil))⟩, ⟨xs, ex_t e2 (ex_t e1 h2), by rw [List.length_map, List.length_zipIdx, List.length_zip, h3.length]; omega⟩⟩
theorem xi_enumZip {elts : List Expr} {kk : Nat} {tpos : Pos} (hm : X.mg "enumerate" = none) (hm2 : X.mg "zip" = none) (h1 : XE X a ρ (.tup ds1)) (h2 : XE X b ρ (.tup ds2)) (hl : ds1.length = ds2.length) (hg : Gl X "enumerate" := by rfl) (hg2 : Gl X "zip" := by rfl)
    (hs : starEach [.Call (.Name "zip" p) [a, b] [] pos'] X.env = (false, eval (.Call (.Name "zip" p) [a, b] [] pos') X.env) :: starEach [] X.env := by rfl) (hs2 : starEach [a, b] X.env = (false, eval a X.env) :: starEach [b] X.env := by rfl) (hs3 : starEach [b] X.env = (false, eval b X.env) :: starEach [] X.env := by rfl) (hpl : (backTo pos' (starEach [b] X.env)).any (·.1) = false := by rfl) :
    XIt X (.Tuple elts kk tpos) (.Call (.Name "enumerate" cpos) [.Call (.Name "zip" p) [a, b] [] pos'] [] pos) ρ ((ds1.zip ds2).zipIdx.map fun p => .tup [.int (p.2 : Int), .tup [p.1.1, p.1.2]]) := ⟨_, K82M.pi_enumZ hg hm hg2 hm2 (pa_cons pe_wp (pa_cons pe_wp pa_nil hs3) hs2) hs2 hpl hs, fun F0 H0 F H σ S R q => h1 F0 H0 F H σ S _ fun v F2 H2 g dv => h2 F0 H0 F2 H2 σ (S.mono g) _ fun w F3 H3 g3 dw => by
  have dv := Den.mono g3.f _ dv
  simp only [Den] at dv dw
  obtain ⟨t, xs, rfl, k2, k3⟩ := dv
  obtain ⟨u, ys, rfl, k4, k5⟩ := dw
  exact ⟨t, u, xs, ys, rfl, ex_t g3.s k2, ex_t g3.s k4, q _ F3 H3 (g.trans g3) (wk_enumZ k2 k3 k4 k5 hl)⟩⟩
theorem made_den {K : PySem.W.Frag} : ∀ {k : Nat} {H H2 : Hp} {xs ys : List V}, K82M.EnumMade k H H2 xs ys → ∀ {F : Hp} {ds : List Dt}, Ex F H → DenL K F ds xs → ∃ F2, Gr F H F2 H2 ∧ DenL K F2 ((ds.zipIdx k).map fun p => .tup [.int (p.2 : Int), p.1]) ys
  | _, _, _, _, _, .nil, F, ds, e, h => by
    have e0 : ds = [] := List.length_eq_zero_iff.mp (by rw [← h.length]; rfl)
    subst e0
    exact ⟨F, Gr.refl e, DenL.nil⟩
  | k, H, H2, _, _, .cons (T := T) (x := x) hT t, F, [], e, h => by simp only [DenL] at h; cases h
  | k, H, H2, _, _, .cons (T := T) (x := x) hT t, F, d :: ds, e, h => by
    simp only [DenL] at h
    obtain ⟨x', r, e1, h2, h3⟩ := h
    cases e1
    have g : Gr F H (upd F T (.tup [.int (k : Int), x])) (upd H T (.tup [.int (k : Int), x])) := Gr.new e hT
    obtain ⟨F2, g2, h4⟩ := made_den t g.s (h3.mono g.f)
    refine ⟨F2, g.trans g2, ?_⟩
    rw [List.zipIdx_cons, List.map_cons]
    exact DenL.cons (Den.mono g2.f _ (den_tup st_new (DenL.cons (by simp only [Den]) (DenL.cons (h2.mono g.f) DenL.nil)))) h4
theorem xn_listEnum (hm : X.mg "list" = none) (hm2 : X.mg "enumerate" = none) (h : XE X e ρ (.tup ds)) (hz : ds.length ≤ 1000) (hc : X.calm = true := by rfl) (hg : Gl X "list" := by rfl) (hg2 : Gl X "enumerate" := by rfl) (hs : starEach [e] X.env = (false, eval e X.env) :: starEach [] X.env := by rfl)
    (na : starEach [.Call (.Name "enumerate" p) [e] [] pos'] X.env = (false, eval (.Call (.Name "enumerate" p) [e] [] pos') X.env) :: starEach [] X.env := by rfl) :
    XN X (.Call (.Name "list" cpos) [.Call (.Name "enumerate" p) [e] [] pos'] [] pos) ρ (enD ds) := EvN.of (K82M.pe_listEnum hc hg hm hg2 hm2 (pa_cons pe_wp pa_nil hs) hs na) fun F0 H0 F H σ S Q q => h F0 H0 F H σ S _ fun v F2 H2 g dv => by
  simp only [Den] at dv
  obtain ⟨t, xs, rfl, h2, h3⟩ := dv
  refine ⟨t, xs, rfl, ex_t g.s h2, by rw [h3.length]; exact hz, fun S' H3 ys hS hm hS3 => ?_⟩
  obtain ⟨F3, g3, h4⟩ := made_den hm g.s h3
  exact q S' ys F3 _ ((g.trans g3).trans (Gr.loose g3.s hS3)) (g.h.none hS) (g3.s.none hS3) upd_same h4
/-- the sorted ints -/
def srt (ns : List Int) : List Int := ns.mergeSort (fun a b => decide (a ≤ b))
theorem srt_of {ns ns' : List Int} (h : ns'.Perm ns) (s : ns'.Pairwise (· ≤ ·)) : ns' = srt ns := by
  have h2 : (srt ns).Perm ns := List.mergeSort_perm _ _
  have s2 : (srt ns).Pairwise (· ≤ ·) := by
    have := List.pairwise_mergeSort (le := fun (a b : Int) => decide (a ≤ b)) (fun a b c h1 h2 => by simp at *; omega) (fun a b => by simp; omega) ns
    exact this.imp fun h => by simpa using h
  exact List.Perm.eq_of_pairwise (fun a b _ _ h1 h2 => Int.le_antisymm h1 h2) s s2 (h.trans h2.symm)
theorem srt2 (a b : Int) : srt [a, b] = if b < a then [b, a] else [a, b] := by
  refine (srt_of ?_ ?_).symm
  · split
    · exact List.Perm.swap ..
    · exact List.Perm.refl _
  · split
    · rename_i h; exact List.pairwise_cons.mpr ⟨fun x hx => by rw [List.mem_singleton] at hx; subst hx; omega, List.pairwise_singleton ..⟩
    · rename_i h; exact List.pairwise_cons.mpr ⟨fun x hx => by rw [List.mem_singleton] at hx; subst hx; omega, List.pairwise_singleton ..⟩
theorem xn_sortedL {ns : List Int} (hm : X.mg "sorted" = none) (h : XE X e ρ (.lst (ns.map .int))) (hl : ns.length < 64) (hg : Gl X "sorted" := by rfl) (hs : starEach [e] X.env = (false, eval e X.env) :: starEach [] X.env := by rfl) (hpl : (backTo pos (starEach [] X.env)).any (·.1) = false := by rfl) :
    XN X (.Call (.Name "sorted" p) [e] [] pos) ρ ((srt ns).map .int) :=
  xn_callB cr_sorted hm (by decide +kernel) (xa_one h hs) (fun F H vs e k Q q => by
    simp only [DenL, Den] at k
    obtain ⟨v, r, rfl, ⟨a, xs, rfl, k2, k3⟩, rfl⟩ := k
    have ex := k3.ints
    subst ex
    refine ⟨a, ns, rfl, SqL.of (e _ _ k2), hl, fun ns' p h1 h2 hp => ?_⟩
    have e2 := srt_of h1 h2
    subst e2
    exact q p _ F _ (Gr.loose e hp) hp (e.none hp) upd_same (DenL.of_ints _)) hg (by decide) (by decide) hs hpl
theorem each_ints {ns : List Int} : ∀ {ys : List V}, PySem.W.EachIs (fun (x : V) (b : Int) => x = .int b) ys ns → ys = ns.map V.int := by
  induction ns with
  | nil => intro ys h; cases h; rfl
  | cons n ns ih => intro ys h; cases h with | cons h1 h2 => rw [h1, ih h2]; rfl
theorem each_of_ints : ∀ ns : List Int, PySem.W.EachIs (fun (x : V) (b : Int) => x = .int b) (ns.map V.int) ns
  | [] => .nil
  | n :: ns => .cons rfl (each_of_ints ns)
theorem xn_sortedT {ns : List Int} (hm : X.mg "sorted" = none) (hu : X.A.units + 64 < cLine) (h : XE X e ρ (.tup (ns.map .int))) (hl : ns.length < 64) (hg : Gl X "sorted" := by rfl) (hs : starEach [e] X.env = (false, eval e X.env) :: starEach [] X.env := by rfl) (hpl : (backTo pos (starEach [] X.env)).any (·.1) = false := by rfl) :
    XN X (.Call (.Name "sorted" p) [e] [] pos) ρ ((srt ns).map .int) :=
  xn_callB (K82M.cr_sortD (P := fun (x : V) (b : Int) => x = .int b) (enc := PyData.int) hu) hm (by decide +kernel) (xa_one h hs) (fun F H vs e k Q q => by
    simp only [DenL, Den] at k
    obtain ⟨v, r, rfl, ⟨a, xs, rfl, k2, k3⟩, rfl⟩ := k
    have ex := k3.ints
    subst ex
    refine ⟨a, _, ns, rfl, .inr (ex_t e k2), each_of_ints ns, fun x b hx => by subst hx; exact .int b, ?_, .inr ?_, by omega, fun b _ => by simp [PyData.depth], fun ys p hy hp => ?_⟩
    · intro d hd d' hd'
      obtain ⟨x, _, rfl⟩ := List.mem_map.mp hd
      obtain ⟨y, _, rfl⟩ := List.mem_map.mp hd'
      simp [PySem.W.alike]
    · intro d hd
      obtain ⟨x, _, rfl⟩ := List.mem_map.mp hd
      exact ⟨fun z => (nomatch z), fun _ z => (nomatch z)⟩
    · have e2 : ns.mergeSort (PySem.W.dataLe false PyData.int) = srt ns := by
        unfold srt
        rw [show PySem.W.dataLe false PyData.int = fun a b => decide (a ≤ b) from PySem.W.dataLe_int (fun b => b)]
      rw [e2] at hy
      have e3 := each_ints hy
      subst e3
      exact q p _ F _ (Gr.loose e hp) hp (e.none hp) upd_same (DenL.of_ints _)) hg (by decide) (by decide) hs hpl
theorem x_minT {i j : Int} (hm : X.mg "min" = none) (hu : X.A.units + 64 < cLine) (h : XE X e ρ (.tup [.int i, .int j])) (hc : X.calm = true := by rfl) (hg : Gl X "min" := by rfl) (hs : starEach [e] X.env = (false, eval e X.env) :: starEach [] X.env := by rfl) (hpl : (backTo pos (starEach [] X.env)).any (·.1) = false := by rfl) :
    XE X (.Call (.Name "min" p) [e] [] pos) ρ (.int (if j < i then j else i)) :=
  x_callB (K82M.cr_minT hc hu) hm (by decide +kernel) (xa_one h hs) (fun F H vs e k Q q => by
    simp only [DenL, Den] at k
    obtain ⟨v, r, rfl, ⟨a, xs, rfl, k2, x1, r1, rfl, rfl, x2, r2, rfl, rfl, rfl⟩, rfl⟩ := k
    exact ⟨a, i, j, rfl, ex_t e k2, q _ F H (Gr.refl e) (by simp only [Den])⟩) hg (by decide) (by decide) hs hpl
theorem x_maxT {i j : Int} (hm : X.mg "max" = none) (hu : X.A.units + 64 < cLine) (h : XE X e ρ (.tup [.int i, .int j])) (hc : X.calm = true := by rfl) (hg : Gl X "max" := by rfl) (hs : starEach [e] X.env = (false, eval e X.env) :: starEach [] X.env := by rfl) (hpl : (backTo pos (starEach [] X.env)).any (·.1) = false := by rfl) :
    XE X (.Call (.Name "max" p) [e] [] pos) ρ (.int (if j > i then j else i)) :=
  x_callB (K82M.cr_maxT hc hu) hm (by decide +kernel) (xa_one h hs) (fun F H vs e k Q q => by
    simp only [DenL, Den] at k
    obtain ⟨v, r, rfl, ⟨a, xs, rfl, k2, x1, r1, rfl, rfl, x2, r2, rfl, rfl, rfl⟩, rfl⟩ := k
    exact ⟨a, i, j, rfl, ex_t e k2, q _ F H (Gr.refl e) (by simp only [Den])⟩) hg (by decide) (by decide) hs hpl
theorem x_sumT {i j : Int} (hm : X.mg "sum" = none) (h : XE X e ρ (.tup [.int i, .int j])) (hc : X.calm = true := by rfl) (hg : Gl X "sum" := by rfl) (hs : starEach [e] X.env = (false, eval e X.env) :: starEach [] X.env := by rfl) (hpl : (backTo pos (starEach [] X.env)).any (·.1) = false := by rfl) :
    XE X (.Call (.Name "sum" p) [e] [] pos) ρ (.int (i + j)) :=
  x_callB (K82M.cr_sumT hc) hm (by decide +kernel) (xa_one h hs) (fun F H vs e k Q q => by
    simp only [DenL, Den] at k
    obtain ⟨v, r, rfl, ⟨a, xs, rfl, k2, x1, r1, rfl, rfl, x2, r2, rfl, rfl, rfl⟩, rfl⟩ := k
    exact ⟨a, i, j, rfl, ex_t e k2, q _ F H (Gr.refl e) (by simp only [Den])⟩) hg (by decide) (by decide) hs hpl
end
theorem x_allM {X : Cx} {ρ : Rho} {e : Expr} {pos p : Pos} {α : Type} {xs : List α} {q : α → Bool} (hm : X.mg "all" = none) (h : XR X e ρ (xs.map fun x => .bl (q x))) (hc : X.calm = true := by rfl) (hg : Gl X "all" := by rfl) (hs : starEach [e] X.env = (false, eval e X.env) :: starEach [] X.env := by rfl) (hpl : (backTo pos (starEach [] X.env)).any (·.1) = false := by rfl) : XE X (.Call (.Name "all" p) [e] [] pos) ρ (.bl (xs.all q)) := by
  have e1 : (xs.map fun x => Dt.bl (q x)) = (xs.map q).map Dt.bl := by rw [List.map_map]; rfl
  rw [e1] at h
  have e2 : xs.all q = (xs.map q).all id := by rw [List.all_map]; rfl
  rw [e2]
  exact x_all hm h hc hg hs hpl
theorem not_t {P : Prop} {k : Bool} (h : k = false) (q : k = true) : P := by rw [h] at q; cases q
theorem not_f {P : Prop} {k : Bool} (h : k = true) (q : k = false) : P := by rw [h] at q; cases q
/-- the branch that is taken -/
theorem s_ifF {X : Cx} {ρ : Rho} {c : Expr} {sts sts2 : List Stmt} {o : Out} {pos : Pos} {k : Bool} (hc : XT X c ρ k) (hk : k = false) (h : XSs X sts2 ρ o) : XS X (.If c sts sts2 pos) ρ o := s_if hc (fun q => not_t hk q) fun _ => h
theorem s_ifT {X : Cx} {ρ : Rho} {c : Expr} {sts sts2 : List Stmt} {o : Out} {pos : Pos} {k : Bool} (hc : XT X c ρ k) (hk : k = true) (h : XSs X sts ρ o) : XS X (.If c sts sts2 pos) ρ o := s_if hc (fun _ => h) fun q => not_f hk q
/-- if c: return ..; the rest -/
theorem s_ifR {X : Cx} {ρ : Rho} {c : Expr} {sts rest : List Stmt} {o : Out} {pos : Pos} {k : Bool} (hc : XT X c ρ k) (h1 : k = true → XSs X sts ρ o) (r : o.ret = true) (h2 : k = false → XSs X rest ρ o) : XSs X (.If c sts [] pos :: rest) ρ o := by
  cases k with
  | true => exact s_end (s_ifT hc rfl (h1 rfl)) r
  | false => exact s_cons (s_ifF hc rfl s_nil) (h2 rfl)
/-- it returns what q tells, or goes on -/
def outF {β : Type} (v : β → Dt) (q : Option β) (r : Rho) : Out := match q with
  | some x => .rt (v x)
  | none => .nx r
theorem b_fgF {β : Type} {K : PySem.W.Frag} {t : TS} {ρ ρ1 ρ2 : Rho} {v : β → Dt} {q : Option β} (h : BsD K t ρ (outF v q ρ1)) (f : Fg ρ1 ρ2) : BsD K t ρ (outF v q ρ2) := by
  cases q with
  | none => exact b_fg h f
  | some x => exact h
/-- if c: return e -/
theorem s_ifO {β : Type} {X : Cx} {ρ : Rho} {c e : Expr} {pos p2 : Pos} {k : Bool} {v : β → Dt} {x : β} (hc : XT X c ρ k) (he : k = true → XE X e ρ (v x)) : XSs X [.If c [.Return (some e) p2] [] pos] ρ (outF v (if k then some x else none) ρ) := by
  cases k with
  | true => exact s_one (s_ifT hc rfl (s_one (s_ret (he rfl))))
  | false => exact s_one (s_ifF hc rfl s_nil)
theorem s_ifN {β : Type} {X : Cx} {ρ : Rho} {c e : Expr} {pos p2 : Pos} {k : Bool} {v : β → Dt} {x : β} (hc : XT X c ρ (!k)) (he : k = false → XE X e ρ (v x)) : XSs X [.If c [.Return (some e) p2] [] pos] ρ (outF v (if k then none else some x) ρ) := by
  cases k with
  | true => exact s_one (s_ifF hc rfl s_nil)
  | false => exact s_one (s_ifT hc rfl (s_one (s_ret (he rfl))))
/-- a loop: the first item that q tells of ends it -/
theorem for_first {α β : Type} {K : PySem.W.Frag} {g : TG} {vs : List Nat} {tb : TS} (enc : α → Dt) (v : β → Dt) (q : α → Option β) (r : Rho) : ∀ xs : List α, (∀ x ∈ xs, ∃ ρ1, TgD K g vs (enc x) r ρ1 ∧ BsD K tb ρ1 (outF v (q x) r)) →
    ForD K g vs tb (xs.map enc) r (outF v (xs.findSome? q) r)
  | [], _ => rfl
  | x :: xs, h => by
    obtain ⟨ρ1, h1, h2⟩ := h x List.mem_cons_self
    rw [List.findSome?_cons]
    cases hk : q x with
    | some y =>
      rw [hk] at h2
      exact for_ret h1 h2 rfl
    | none =>
      rw [hk] at h2
      exact for_cons h1 h2 (for_first enc v q r xs fun y hy => h y (List.mem_cons_of_mem _ hy))
theorem for_firstN {β : Type} {K : PySem.W.Frag} {g : TG} {vs : List Nat} {tb : TS} (v : β → Dt) (q : Nat → Option β) (r : Rho) (xs : List Nat) (h : ∀ x ∈ xs, ∃ ρ1, TgD K g vs (.int (x : Int)) r ρ1 ∧ BsD K tb ρ1 (outF v (q x) r)) :
    ForD K g vs tb (xs.map fun (n : Nat) => Dt.int (n : Int)) r (outF v (xs.findSome? q) r) := for_first _ v q r xs h
theorem s_forQ {β : Type} {X : Cx} {ρ ρ1 : Rho} {tg iter : Expr} {sts rest : List Stmt} {o : Out} {pos : Pos} {g : TG} {vs : List Nat} {ds : List Dt} {q : Option β} {v : β → Dt} (hi : XIt X tg iter ρ ds) (hg : PG X tg g)
    (hf : ForD X.K g vs (wpSs X sts) ds ρ (outF v q ρ1)) (hn : q = none → XSs X rest ρ1 o) (hs : ∀ x, q = some x → o = .rt (v x)) (hp : PassesOwn (model X.prog X.w) X.A X.env X.xe := by exact PassesOwn.never) (hc : X.calm = true := by rfl)
    (hst : ∀ x, foldedSetIterable iter X.env x = pure x := by intro _; rfl) : XSs X (.For tg iter sts [] pos :: rest) ρ o := by
  cases q with
  | none => exact s_cons (s_for hi hg hf hp hc hst) (hn rfl)
  | some x => rw [hs x rfl]; exact s_end (s_for hi hg hf hp hc hst) rfl
/-! ### data in short -/
def ltr (t : Nat) : Str := if t = 0 then "M" else if t = 1 then "V" else "?"
def nt (ns : List Nat) : List Dt := ns.map fun (n : Nat) => Dt.int (n : Int)
theorem nt_len (ns : List Nat) : (nt ns).length = ns.length := List.length_map ..
theorem nt_map (ns : List Nat) : nt ns = (ns.map fun (n : Nat) => (n : Int)).map Dt.int := by unfold nt; rw [List.map_map]; rfl
theorem nt_get {ns : List Nat} {i : Nat} {v : Nat} (h : ns[i]? = some v) : (nt ns)[i]? = some (.int v) := by unfold nt; rw [List.getElem?_map, h]; rfl
theorem at_nat {ds : List Dt} {i : Nat} {d : Dt} (h : ds[i]? = some d) : atI ds (i : Int) = some d := atI_nat h
theorem at_nt {ns : List Nat} {i : Nat} {v : Nat} (h : ns[i]? = some v) : atI (nt ns) (i : Int) = some (.int v) := atI_nat (nt_get h)
theorem at_nt1 {ns : List Nat} {i : Nat} {v : Nat} (h : ns[i + 1]? = some v) : atI (nt ns) ((i : Int) + 1) = some (.int v) := at_nt (i := i + 1) h
def ls (told : List Nat) : List Dt := told.map fun t => .str (ltr t)
theorem ls_len (ns : List Nat) : (ls ns).length = ns.length := List.length_map ..
theorem ls_get {ns : List Nat} {i : Nat} {v : Nat} (h : ns[i]? = some v) : (ls ns)[i]? = some (.str (ltr v)) := by unfold ls; rw [List.getElem?_map, h]; rfl
/-- a strip of n segments of length 1 -/
def strD (K : PySem.W.Frag) (n : Nat) (told : List Nat) : Dt := .ins (C_Strip K) [("lengths", .tup (nt (List.replicate n 1))), ("creases", .tup (ls told)), ("size", .int n)]
def rowsD (t : List (List Nat)) : List Dt := t.map fun t => .tup (ls t)
def acr (ax : Bool) (n : Nat) (told : List Nat) : List (List Nat) := if ax then [told] else List.replicate n []
def dwn (ax : Bool) (told : List Nat) : List (List Nat) := if ax then [] else told.map fun t => [t]
/-- a map with one row (ax = true), with one column -/
def mapD (K : PySem.W.Frag) (ax : Bool) (n : Nat) (told : List Nat) : Dt := .ins (C_Map K) [("rows", .int (if ax then 1 else n)), ("columns", .int (if ax then n else 1)), ("across", .tup (rowsD (acr ax n told))), ("down", .tup (rowsD (dwn ax told))), ("cells", .int n)]
/-! ### data that == takes as a whole -/
def okS (s : Str) : Bool := s.cps.all (· < 0x110000)
mutual
def Dt.sh : Nat → Dt → Bool
  | _, .non => true
  | _, .bl _ => true
  | _, .int _ => true
  | _, .str s => okS s
  | 0, _ => false
  | k + 1, .lst ds => Dt.shL k ds
  | k + 1, .tup ds => Dt.shL k ds
  | _ + 1, _ => false
def Dt.shL : Nat → List Dt → Bool
  | _, [] => true
  | k, d :: ds => d.sh k && Dt.shL k ds
end
mutual
theorem sh_ok : ∀ (k : Nat) (d : Dt), d.sh k = true → d.pure = true ∧ d.py.canLay0 = true ∧ d.py.depth ≤ k
  | _, .non, _ => ⟨by simp [Dt.pure], by simp [Dt.py, PyData.canLay0], by simp [Dt.py, PyData.depth]⟩
  | _, .bl _, _ => ⟨by simp [Dt.pure], by simp [Dt.py, PyData.canLay0], by simp [Dt.py, PyData.depth]⟩
  | _, .int _, _ => ⟨by simp [Dt.pure], by simp [Dt.py, PyData.canLay0], by simp [Dt.py, PyData.depth]⟩
  | _, .str s, h => ⟨by simp [Dt.pure], by simp only [Dt.sh] at h; simp only [Dt.py, PyData.canLay0]; exact h, by simp [Dt.py, PyData.depth]⟩
  | 0, .lst _, h => by simp [Dt.sh] at h
  | 0, .tup _, h => by simp [Dt.sh] at h
  | k + 1, .lst ds, h => by
    simp only [Dt.sh] at h
    obtain ⟨h1, h2, h3⟩ := shL_ok k ds h
    exact ⟨by simp only [Dt.pure]; exact h1, by simp only [Dt.py, PyData.canLay0]; exact h2, by simp only [Dt.py, PyData.depth]; omega⟩
  | k + 1, .tup ds, h => by
    simp only [Dt.sh] at h
    obtain ⟨h1, h2, h3⟩ := shL_ok k ds h
    exact ⟨by simp only [Dt.pure]; exact h1, by simp only [Dt.py, PyData.canLay0]; exact h2, by simp only [Dt.py, PyData.depth]; omega⟩
  | 0, .ins _ _, h => by simp [Dt.sh] at h
  | 0, .ref _, h => by simp [Dt.sh] at h
  | 0, .nn, h => by simp [Dt.sh] at h
  | 0, .scr _, h => by simp [Dt.sh] at h
  | 0, .etup _, h => by simp [Dt.sh] at h
  | _ + 1, .ins _ _, h => by simp [Dt.sh] at h
  | _ + 1, .ref _, h => by simp [Dt.sh] at h
  | _ + 1, .nn, h => by simp [Dt.sh] at h
  | _ + 1, .scr _, h => by simp [Dt.sh] at h
  | _ + 1, .etup _, h => by simp [Dt.sh] at h
theorem shL_ok : ∀ (k : Nat) (ds : List Dt), Dt.shL k ds = true → Dt.pureL ds = true ∧ PyData.canLayAll0 (Dt.pyL ds) = true ∧ PyData.depthAll (Dt.pyL ds) ≤ k
  | _, [], _ => ⟨by simp [Dt.pureL], by simp [Dt.pyL, PyData.canLayAll0], by simp [Dt.pyL, PyData.depthAll]⟩
  | k, d :: ds, h => by
    simp only [Dt.shL, Bool.and_eq_true] at h
    obtain ⟨h1, h2, h3⟩ := sh_ok k d h.1
    obtain ⟨k1, k2, k3⟩ := shL_ok k ds h.2
    exact ⟨by simp only [Dt.pureL, h1, k1]; rfl, by simp only [Dt.pyL, PyData.canLayAll0, h2, k2]; rfl, by simp only [Dt.pyL, PyData.depthAll]; omega⟩
end
theorem sh_shaped {d : Dt} (h : d.sh 64 = true) : SeqAt.shaped d.py = true := by
  obtain ⟨_, h2, h3⟩ := sh_ok 64 d h
  unfold SeqAt.shaped
  rw [h2, decide_eq_true h3]; rfl
theorem sh_refl {d : Dt} (h : d.sh 64 = true) : PyData.eqv d.py d.py = true := SeqAt.eqv_refl _ (sh_ok 64 d h).2.1
theorem shL_map {α : Type} (enc : α → Dt) (k : Nat) : ∀ xs : List α, (∀ x ∈ xs, (enc x).sh k = true) → Dt.shL k (xs.map enc) = true
  | [], _ => by simp [Dt.shL]
  | x :: xs, h => by
    simp only [List.map, Dt.shL, h x List.mem_cons_self, shL_map enc k xs fun y hy => h y (List.mem_cons_of_mem _ hy)]; rfl
theorem shL_ints (k : Nat) (ns : List Int) : Dt.shL k (ns.map Dt.int) = true := shL_map _ _ _ fun _ _ => by simp only [Dt.sh]
theorem shL_nt (k : Nat) (ns : List Nat) : Dt.shL k (nt ns) = true := shL_map _ _ _ fun _ _ => by simp only [Dt.sh]
theorem okS_ltr (t : Nat) : okS (ltr t) = true := by
  unfold ltr
  split
  · decide +kernel
  · split
    · decide +kernel
    · decide +kernel
theorem shL_ls (k : Nat) (ns : List Nat) : Dt.shL k (ls ns) = true := shL_map _ _ _ fun t _ => by simp only [Dt.sh]; exact okS_ltr t
/-- two data that are one -/
theorem rd_eqR {K : PySem.W.Frag} {d1 d2 : Dt} (h : d1 = d2) (s : d1.sh 64 = true) : RD K (rEqD K) d1 d2 (.bl true) := by
  subst h
  have := rd_eqD (K := K) (sh_ok 64 d1 s).1 (sh_ok 64 d1 s).1 (sh_shaped s) (sh_shaped s)
  rw [sh_refl s] at this
  exact this
theorem rd_neR {K : PySem.W.Frag} {d1 d2 : Dt} (h : d1 = d2) (s : d1.sh 64 = true) : RD K (rNeD K) d1 d2 (.bl false) := by
  subst h
  have := rd_neD (K := K) (sh_ok 64 d1 s).1 (sh_ok 64 d1 s).1 (sh_shaped s) (sh_shaped s)
  rw [sh_refl s] at this
  exact this
theorem rgD_ints (lo : Int) (n : Nat) : rgD lo n = ((List.range n).map fun (i : Nat) => lo + (i : Int)).map Dt.int := by unfold rgD; rw [List.map_map]; rfl
theorem rgD_nt (n : Nat) : rgD 0 n = nt (List.range n) := by unfold rgD nt; simp
end K82
/-! ## part Q -/
/-! Objects that change: methods that change their own instance; islands (an instance with lists that no one else has). -/
namespace K82
open PySem PySem.Spec PyProof.Rows L2
/-! ### what is a slot's own is handed out, and comes back changed -/
theorem tabS_off {H H' : Hp} {P : Addr} {q : Str} (t : LamX.TabS H P q) (h : ∀ b o, H b = some o → (∀ xs, o ≠ .lst xs) → (∀ C dx fv, o ≠ .ins C dx fv) → H' b = some o) : LamX.TabS H' P q := by
  obtain ⟨ps, h1, h2, h3⟩ := t
  refine ⟨ps, h _ _ h1 (fun _ z => nomatch z) (fun _ _ _ z => nomatch z), h2, fun pos cv hc => ?_⟩
  obtain ⟨c, e1, e2⟩ := h3 pos cv hc
  exact ⟨c, e1, h _ _ e2 (fun xs z => by unfold LamX.CodeO at z; cases z) (fun _ _ _ z => by unfold LamX.CodeO at z; cases z)⟩
/-- H without what slot i has for its own, in part -/
structure Off (H H' : Hp) (own : Addr → Prop) : Prop where
  at_ : ∀ b, H' b = H b ∨ (H' b = none ∧ own b)
theorem Sta.offT {K : PySem.W.Frag} {F0 H0 F H H' : Hp} {σ : L2.St} {ρ : Rho} (S : Sta K F0 H0 F H σ ρ) {i : Nat} {t : Sv} (e : ρ[i]? = some (some t)) (o : Off H H' (Own σ i t)) : ExT H0 H' := by
  have key : ∀ b u, H b = some u → (∀ xs, u ≠ .lst xs) → (∀ C dx fv, u ≠ .ins C dx fv) → H' b = some u := fun b u h n1 n2 => by
    rcases o.at_ b with z | ⟨z, w⟩
    · rw [z]; exact h
    · rcases (S.there e w).1 with ⟨xs, k⟩ | ⟨C, dx, fv, k⟩
      · rw [k] at h; cases h; exact (n1 _ rfl).elim
      · rw [k] at h; cases h; exact (n2 _ _ _ rfl).elim
  refine ⟨fun a u h n => ?_, fun a ps h => ?_, fun P h => tabS_off (S.g.h.tabs P h) key⟩
  · rcases o.at_ a with z | ⟨z, w⟩
    · rw [z]; exact S.g.h.get a u h n
    · rw [(S.there e w).2.2] at h; cases h
  · obtain ⟨ps', h'⟩ := S.g.h.tab a ps h
    exact ⟨ps', key a _ h' (fun _ z => nomatch z) (fun _ _ _ z => nomatch z)⟩
theorem Sta.call {K : PySem.W.Frag} {F0 H0 F H H' F2 H2 : Hp} {σ : L2.St} {ρ : Rho} (S : Sta K F0 H0 F H σ ρ) {i : Nat} {s t : Sv} {v : V} (e : ρ[i]? = some (some t)) (o : Off H H' (Own σ i t)) (g : Gr F H' F2 H2) (hv : σ[i]? = some (some v)) (hs : SvOk K H0 F2 H2 s v) (hsub : ∀ b, Own σ i s b → Own σ i t b) :
    Sta K F0 H0 F2 H2 σ (ρ.set i (some s)) := by
  have hi : i < ρ.length := (List.getElem?_eq_some_iff.mp e).1
  have gg : Gr F0 H0 F2 H2 := ⟨(S.offT e o).trans g.h, S.g.f.trans g.f, g.s, fun b u w => by
    rcases g.n b u w with z | z
    · exact S.g.n b u z
    · rcases o.at_ b with y | ⟨y, k⟩
      · exact .inr (S.g.h.none (y.symm.trans z))
      · exact .inr (S.there e k).2.2⟩
  refine ⟨gg, by rw [List.length_set, S.len], fun j s' e' => ?_, fun j k s' t' b hjk e1 e2 q1 q2 => ?_⟩
  · by_cases z : i = j
    · subst z
      rw [List.getElem?_set_self hi] at e'
      cases e'
      exact ⟨_, hv, hs⟩
    · rw [List.getElem?_set_ne z] at e'
      obtain ⟨u, k1, k2⟩ := S.ok j s' e'
      have same : ∀ b, Own σ j s' b → H' b = H b := fun b w => by
        rcases o.at_ b with y | ⟨_, k⟩
        · exact y
        · exact (S.dis i j t s' b z e e' k w).elim
      have k3 : SvOk K H0 F H' s' u := by
        cases s' with
        | im d => exact k2
        | mu ds =>
          obtain ⟨l, xs, g1, g2, g3, g4, g5⟩ := k2
          subst g1
          exact ⟨l, xs, rfl, g2, g3, by rw [same l (own_mut rfl k1)]; exact g4, g5⟩
        | mi tg C fs =>
          obtain ⟨l, dx, xs, g1, g2, g3, g4, g5, g6⟩ := k2
          subst g1
          exact ⟨l, dx, xs, rfl, g2, g3, by rw [same l (own_mut rfl k1)]; exact g4, g5, g6⟩
        | isl p dx C fv fs os =>
          obtain ⟨g1, g2, g3, g4, g5, g6, g7⟩ := k2
          subst g1
          refine ⟨rfl, g2, g3, by rw [same p (own_mut rfl k1)]; exact g4, g5, fun c ds hc => ?_, g7⟩
          obtain ⟨m1, m2, xs, m3, m4⟩ := g6 c ds hc
          exact ⟨m1, m2, xs, by rw [same c (.inr (List.mem_map_of_mem (f := (·.1)) hc))]; exact m3, m4⟩
      exact ⟨u, k1, k3.mono g⟩
  · have key : ∀ (j : Nat) (s' : Sv), (ρ.set i (some s))[j]? = some (some s') → Own σ j s' b → ∃ s2, ρ[j]? = some (some s2) ∧ Own σ j s2 b := fun j s' e' m' => by
      by_cases z : i = j
      · subst z
        rw [List.getElem?_set_self hi] at e'
        cases e'
        exact ⟨t, e, hsub b m'⟩
      · rw [List.getElem?_set_ne z] at e'; exact ⟨s', e', m'⟩
    obtain ⟨s2, f1, f2⟩ := key j s' e1 q1
    obtain ⟨t2, f3, f4⟩ := key k t' e2 q2
    exact S.dis j k s2 t2 b hjk f1 f3 f2 f4
theorem off_rm {H : Hp} {p : Addr} {own : Addr → Prop} (h : own p) : Off H (rm H p) own := ⟨fun b => by
  by_cases z : b = p
  · subst z; exact .inr ⟨rm_same, h⟩
  · exact .inl (rm_ne z)⟩
/-! ### expressions that change slots -/
def EvDm (K : PySem.W.Frag) (te : TE) (ρ : Rho) (d : Dt) (ρ' : Rho) : Prop := ∀ F0 H0 F H σ, Sta K F0 H0 F H σ ρ → ∀ Q : VK, (∀ v F2 H2, Sta K F0 H0 F2 H2 σ ρ' → Ex F F2 → Den K F2 d v → Q v H2) → te σ H Q
abbrev XEm (X : Cx) (e : Expr) (ρ : Rho) (d : Dt) (ρ' : Rho) : Prop := EvDm X.K (wpE X e) ρ d ρ'
section
variable {X : Cx} {ρ ρ1 ρ2 : Rho} {e a b c : Expr} {es : List Expr} {pos p pos' apos cpos : Pos} {d d1 d2 : Dt} {ds ds1 ds2 : List Dt} {x y m n : Str} {st : Stmt} {sts sts2 : List Stmt} {o : Out}
theorem xm_val {k : Bool} (h : XEm X e ρ (.bl k) ρ1) (he : ∀ whole, isTrue e X.env whole = (do let v ← whole; standAt e.pos; holding [v] (truthy v)) := by intro _; rfl) : XTm X e ρ k ρ1 :=
  fun F0 H0 F H σ S Q q => wpT_of (pt_val pe_wp he) (h F0 H0 F H σ S _ fun v F2 H2 S2 e2 dv => by simp only [Den] at dv; exact ⟨k, dv, q F2 H2 S2 e2⟩)
theorem s_setm {i : Nat} (nd : X.N.Nodup) (h : XEm X e ρ d ρ1) (hi : X.N[i]? = some x := by rfl) (hl : i < ρ1.length := by exact Nat.le_of_ble_eq_true rfl) (hx : Loc X.env.scope x := by first | exact Or.inl rfl | exact Or.inr rfl) (hs : swapsWith e (some (.Name x pos')) pos.line X.env = pure false := by rfl)
    (hf : X.fn x = true ∨ X.env.scope.names.lookup x = some .local := by first | exact .inl rfl | exact .inr rfl) : XS X (.Assign [.Name x pos'] e pos) ρ (.nx (ρ1.set i (some (.im d)))) :=
  BsD.of (ps_set nd hi hx pe_wp hs hf) fun F0 H0 F H σ D S q => h F0 H0 F H σ S _ fun v F2 H2 S2 e2 dv => q F2 H2 _ (S2.set hl dv) e2
theorem s_exprm (h : XEm X e ρ d ρ1) (hs : swapsWith e none pos.line X.env = pure false := by rfl) : XS X (.Expr e pos) ρ (.nx ρ1) :=
  BsD.of (ps_expr pe_wp hs) fun F0 H0 F H σ D S q => h F0 H0 F H σ S _ fun v F2 H2 S2 e2 _ => q F2 H2 σ S2 e2
theorem s_ifm {k : Bool} (hc : XTm X c ρ k ρ1) (h1 : k = true → XSs X sts ρ1 o) (h2 : k = false → XSs X sts2 ρ1 o) : XS X (.If c sts sts2 pos) ρ o :=
  BsD.of (ps_if pt_wp pss_wp pss_wp) fun F0 H0 F H σ D S q => hc F0 H0 F H σ S _ fun F2 H2 S2 e2 => by
    cases k with
    | true => exact iteT (h1 rfl F0 H0 F2 H2 σ D S2 (q.mono e2))
    | false => exact iteF (h2 rfl F0 H0 F2 H2 σ D S2 (q.mono e2))
theorem wh_from {K : PySem.W.Frag} {tc : TT} {tb : TS} (r : Nat → Rho) (n : Nat) (h1 : ∀ j, j < n → EvTm K tc (r j) true (r (j + 1))) (h0 : EvTm K tc (r n) false (r n)) (hb : ∀ j, BsD K tb (r j) (.nx (r j))) : ∀ (m j : Nat), j + m = n → WhD K tc tb m (r j) (.nx (r n))
  | 0, j, e => by
    have e : j = n := by omega
    subst e
    exact ⟨_, h0, rfl⟩
  | m + 1, j, e => ⟨_, h1 j (by omega), .inl ⟨_, hb (j + 1), wh_from r n h1 h0 hb m (j + 1) (by omega)⟩⟩
theorem wh_go {K : PySem.W.Frag} {tc : TT} {tb : TS} (r : Nat → Rho) (n : Nat) (h1 : ∀ j, j < n → EvTm K tc (r j) true (r (j + 1))) (h0 : EvTm K tc (r n) false (r n)) (hb : ∀ j, BsD K tb (r j) (.nx (r j))) : WhD K tc tb n (r 0) (.nx (r n)) := wh_from r n h1 h0 hb n 0 (by omega)
theorem wh_upF {K : PySem.W.Frag} {tc : TT} {tb : TS} (r : Nat → Rho) (n : Nat) (h1 : ∀ j, j < n → EvTm K tc (r j) true (r j)) (h0 : EvTm K tc (r n) false (r n)) (hb : ∀ j, j < n → BsD K tb (r j) (.nx (r (j + 1)))) : ∀ (m j : Nat), j + m = n → WhD K tc tb m (r j) (.nx (r n))
  | 0, j, e => by
    have e : j = n := by omega
    subst e
    exact ⟨_, h0, rfl⟩
  | m + 1, j, e => ⟨_, h1 j (by omega), .inl ⟨_, hb j (by omega), wh_upF r n h1 h0 hb m (j + 1) (by omega)⟩⟩
theorem wh_up {K : PySem.W.Frag} {tc : TT} {tb : TS} {ρ ρ1 : Rho} (r : Nat → Rho) (n : Nat) (e0 : ρ = r 0) (e1 : ρ1 = r n) (h1 : ∀ j, j < n → EvTm K tc (r j) true (r j)) (h0 : EvTm K tc (r n) false (r n)) (hb : ∀ j, j < n → BsD K tb (r j) (.nx (r (j + 1)))) : WhD K tc tb n ρ (.nx ρ1) := by
  rw [e0, e1]
  exact wh_upF r n h1 h0 hb n 0 (by omega)
/-! ### methods that change their own instance -/
def spM (K : PySem.W.Frag) (C : Addr) (fs fs' : List (Str × Dt)) (ds : List Dt) (r : Dt) : Sp := fun vs H Q _ => ∃ F p dx fv rest, vs = .ref p :: rest ∧ Ex F H ∧ F p = none ∧ H p = some (.ins C dx fv) ∧ DenF K F fs fv ∧ DenL K F ds rest ∧
  ∀ v fv' F2 H2, Gr F (rm H p) F2 H2 → F2 p = none → H2 p = some (.ins C dx fv') → DenF K F2 fs' fv' → Den K F2 r v → Q v H2
theorem xm_meth0 {i k j : Nat} {C : Addr} {fs fs' : List (Str × Dt)} (mt : Mt X.prog X.w X.K X.mg X.base k C m (spM X.K C fs fs' [] d)) (hr : Room j X.A) (he : ρ[i]? = some (some (.mi none C fs))) (hno : fs.lookup m = none) (hk : k ≤ j := by decide)
    (hN : X.N[i]? = some x := by rfl) (hv : Vis X.env.scope x := by first | exact Or.inl rfl | exact Or.inr (Or.inl rfl) | exact Or.inr (Or.inr rfl)) (hd : (x == ("__debug__" : Str)) = false := by decide)
    (hcd : (x == ("__classdict__" : Str)) = false := by decide) {pl : Sem Bool}
    (ht : eval (.Call (.Attribute (.Name x p) m apos) [] [] pos) X.env = (do
      let ov ← eval (.Name x p) X.env
      standAt apos.atName
      let (f, first) ← holding [ov] (getMethod ov m pl)
      callWith pos f first (backTo pos (starEach [] X.env)) (backToKw pos (keywordEach [] X.env))) := by rfl) : XEm X (.Call (.Attribute (.Name x p) m apos) [] [] pos) ρ d (ρ.set i (some (.mi none C fs'))) := fun F0 H0 F H σ S Q q => by
  obtain ⟨f, fd, ps, h0, h1, h2, h4⟩ := mt.ex
  obtain ⟨v, h5, l, dx, fv, rfl, k1, k2, k3, k4, _⟩ := S.ok i _ he
  refine wpE_of (pe_meth0 (pe_var hN hv hd hcd) h0 h1 h2 (hr.mono hk) h4 .nil pass0 ht) ?_
  refine ⟨_, h5, l, dx, fv, rfl, k3, k4.no hno, ?_⟩
  exact ⟨F, l, dx, fv, [], rfl, S.ex, k2, k3, k4, DenL.nil, fun v fv' F2 H2 g w1 w2 w3 w4 => q v F2 H2 (S.call he (off_rm (own_mut rfl h5)) g h5 ⟨l, dx, fv', rfl, k1, w1, w2, w3, fun _ z => nomatch z⟩ fun b w => by
    rcases w with ⟨_, w⟩ | w
    · exact own_mut rfl w
    · cases w) g.f w4⟩
theorem XI.toD {C : Addr} {fs : List (Str × Dt)} (h : XI X e ρ C fs) : XE X e ρ (.ins C fs) := EvI.d h
/-! ### data that say nothing of the heap -/
def Dt.lite : Dt → Bool
  | .non | .bl _ | .int _ | .str _ | .nn => true
  | _ => false
theorem Den.lite {K : PySem.W.Frag} {F F' : Hp} {d : Dt} {v : V} (h : Den K F d v) (l : d.lite = true) : Den K F' d v := by
  cases d <;> first | exact h | cases l
theorem Gr.back {F Fc H F2 H2 : Hp} (e : Ex F Fc) (g : Gr Fc H F2 H2) : Gr F H F H2 := ⟨g.h, Ex.refl _, (e.trans g.f).trans g.s, fun _ _ w => .inl w⟩
theorem den_nn {K : PySem.W.Frag} {F : Hp} {ds : List Dt} {v : V} (h : Den K F (.tup ds) v) : Den K F .nn v := by
  simp only [Den] at h ⊢
  obtain ⟨a, _, e, _⟩ := h
  exact ⟨a, e⟩
theorem x_nn (h : XE X e ρ (.tup ds)) : XE X e ρ .nn := fun F0 H0 F H σ S Q q => h F0 H0 F H σ S Q fun v F2 H2 g dv => q v F2 H2 g (den_nn dv)
/-- a method that only reads, of an instance that still changes -/
theorem x_methL {i k j : Nat} {C : Addr} {t : Option (Addr × Addr)} {fs : List (Str × Dt)} (mt : Mt X.prog X.w X.K X.mg X.base k C m (spD X.K (.ins C fs :: ds) d)) (hr : Room j X.A) (he : ρ[i]? = some (some (.mi t C fs))) (ha : XA X (e :: es) ρ ds) (hl : d.lite = true) (hno : fs.lookup m = none) (hk : k ≤ j := by decide)
    (hN : X.N[i]? = some x := by rfl) (hv : Vis X.env.scope x := by first | exact Or.inl rfl | exact Or.inr (Or.inl rfl) | exact Or.inr (Or.inr rfl)) (hd : (x == ("__debug__" : Str)) = false := by decide) (hcd : (x == ("__classdict__" : Str)) = false := by decide)
    (hst : starEach (e :: es) X.env = (false, eval e X.env) :: starEach es X.env := by rfl) (hpl : (backTo pos (starEach es X.env)).any (·.1) = false := by rfl) {pl : Sem Bool}
    (ht : eval (.Call (.Attribute (.Name x p) m apos) (e :: es) [] pos) X.env = (do
      let ov ← eval (.Name x p) X.env
      standAt apos.atName
      let (f, first) ← holding [ov] (getMethod ov m pl)
      callWith pos f first (backTo pos (starEach (e :: es) X.env)) (backToKw pos (keywordEach [] X.env))) := by rfl) : XE X (.Call (.Attribute (.Name x p) m apos) (e :: es) [] pos) ρ d := fun F0 H0 F H σ S Q q => by
  obtain ⟨f, fd, ps, h0, h1, h2, h4⟩ := mt.ex
  obtain ⟨v, h5, l, dx, fv, rfl, k1, k2, k3, k4, _⟩ := S.ok i _ he
  refine wpE_of (pe_meth (pe_var hN hv hd hcd) h0 h1 h2 (hr.mono hk) h4 .nil pass0 pa_wp hst hpl ht) ?_
  refine ⟨_, h5, l, dx, fv, rfl, k3, k4.no hno, ha F0 H0 F H σ S _ fun vs F3 H3 g3 dvs => ?_⟩
  rw [List.append_nil]
  have k5 : F3 l = none := g3.free k2 k3
  have eF : Ex F3 (upd F3 l (.ins C dx fv)) := Ex.new k5
  refine ⟨upd F3 l (.ins C dx fv), fun b o w => ?_, DenL.cons (by simp only [Den]; exact ⟨l, dx, fv, rfl, upd_same, (k4.mono g3.f).mono eF⟩) (dvs.mono eF), fun v F4 H4 g4 d4 => q v F3 H4 (g3.trans (Gr.back eF g4)) (d4.lite hl)⟩
  by_cases z : b = l
  · subst z; rw [upd_same] at w; cases w; exact g3.h.ins k3
  · rw [upd_ne z] at w; exact g3.s _ _ w
end
section
variable {P : Program} {w : World} {K : PySem.W.Frag} {mg : Str → Option Value} {base : Heap} {qual nm : Str} {params : Arguments} {body : List Stmt} {scope : Scope} {f : Addr} {fd : FuncData} {N ps : List Str} {k : Nat} {ds : List Dt} {r : Dt}
theorem def_okM {C : Addr} {fs fs' : List (Str × Dt)} (D : FunD K nm qual params body scope [] [] f fd) (S : FnScope N ps scope) (hl : ds.length + 1 = ps.length) (h : ∀ (p dx : Addr) (cdv : Value) (A : Around) (outer : List Env) (s : Shared) (H : Hp) (E : XK), Room k (A.deeper (envOfC qual scope s.heap.objs.size f cdv)) →
    ∃ ρ, XSs (cxD P w K mg base N qual scope f cdv A outer s H E) body (rhoS N (.mi (some (p, dx)) C fs) ds) (.rk ρ r) ∧ ρ[0]? = some (some (.mi (some (p, dx)) C fs'))) : FnOk P w K mg base CX0 (k + 1) f fd ps (spM K C fs fs' ds r) := by
  refine D.ok S (fun vs H Q E h => ?_) (fun cdv A outer s H vs Q E hr hq => ?_)
  · obtain ⟨F, p, dx, fv, rest, rfl, _, _, _, _, h1, _⟩ := h
    rw [List.length_cons, h1.length, hl]
  · obtain ⟨F, p, dx, fv, rest, rfl, e, hp, hh, hf, h1, q⟩ := hq
    obtain ⟨ρ, hb, h0⟩ := h p dx cdv A outer s H E hr
    refine ⟨_, PSs.nox pss_wp, hb F (rm H p) F H _ _ (staS (gr_rm e hp) ⟨p, dx, fv, rfl, rm_same, hp, hh, hf, fun _ z => (Option.some.inj z).symm⟩ h1) ?_⟩
    intro v F2 H2 σ S2 dv
    obtain ⟨_, _, l, dx', fv', rfl, k1, k2, k3, k4, k5⟩ := S2.ok 0 _ h0
    have k6 := k5 _ rfl
    cases k6
    exact q v fv' F2 H2 S2.g k2 k3 k4 dv
end
end K82
/-! ## part I -/
/-! Islands: an instance that still changes, with a list that no one else has. -/
namespace K82
open PySem PySem.Spec PyProof.Rows L2
/-- the attributes as they are while the list at c is ds and stays so -/
def vwD (c : Addr) (ds : List Dt) : Dt → Dt
  | .ref b => if b = c then .lst ds else .ref b
  | d => d
def vwF (c : Addr) (ds : List Dt) : List (Str × Dt) → List (Str × Dt)
  | [] => []
  | (f, d) :: fs => (f, vwD c ds d) :: vwF c ds fs
theorem den_vw {K : PySem.W.Frag} {F Fc : Hp} {c : Addr} {ds : List Dt} {xs : List V} (e : Ex F Fc) (hc : Fc c = some (.lst xs)) (hd : DenL K Fc ds xs) {d : Dt} {v : V} (h : Den K F d v) : Den K Fc (vwD c ds d) v := by
  cases d with
  | ref b =>
    show Den K Fc (if b = c then .lst ds else .ref b) v
    by_cases z : b = c
    · subst z
      rw [if_pos rfl]
      simp only [Den] at h
      rw [h]
      exact den_lst hc hd
    · rw [if_neg z]
      simp only [Den] at h ⊢
      exact h
  | _ => exact h.mono e
theorem denF_vw {K : PySem.W.Frag} {F Fc : Hp} {c : Addr} {ds : List Dt} {xs : List V} (e : Ex F Fc) (hc : Fc c = some (.lst xs)) (hd : DenL K Fc ds xs) : ∀ {fs : List (Str × Dt)} {fv : List (Str × V)}, DenF K F fs fv → DenF K Fc (vwF c ds fs) fv
  | [], _, h => by simp only [DenF] at h; subst h; simp only [vwF, DenF]
  | (f, d) :: fs, _, h => by
    simp only [DenF] at h
    obtain ⟨x, r, rfl, h1, h2⟩ := h
    simp only [vwF, DenF]
    exact ⟨x, r, rfl, den_vw e hc hd h1, denF_vw e hc hd h2⟩
theorem lk_vw (c : Addr) (ds : List Dt) (m : Str) : ∀ fs : List (Str × Dt), fs.lookup m = none → (vwF c ds fs).lookup m = none
  | [], _ => rfl
  | (f, d) :: fs, h => by
    rw [List.lookup_cons] at h
    unfold vwF
    rw [List.lookup_cons]
    cases hb : m == f with
    | true => rw [hb] at h; cases h
    | false => rw [hb] at h; exact lk_vw c ds m fs h
section
variable {X : Cx} {ρ ρ1 ρ2 : Rho} {e a b : Expr} {es : List Expr} {pos px pos' apos cpos : Pos} {d d1 d2 : Dt} {ds ds1 ds2 : List Dt} {x y m n f : Str} {st : Stmt} {sts sts2 : List Stmt} {o : Out}
  {i : Nat} {p dx C c : Addr} {fv : List (Str × V)} {fs : List (Str × Dt)} {os : List (Addr × List Dt)}
theorem x_fldS (cl : Cls X.K C) (n : NoAttr X.K C f) (he : ρ[i]? = some (some (.isl p dx C fv fs os))) (hl : fs.lookup f = some d) (hN : X.N[i]? = some x := by rfl) (hv : Vis X.env.scope x := by first | exact Or.inl rfl | exact Or.inr (Or.inl rfl) | exact Or.inr (Or.inr rfl)) (hd : (x == ("__debug__" : Str)) = false := by decide)
    (hcd : (x == ("__classdict__" : Str)) = false := by decide) (hb : attributeBase (.Name x px) f X.env (eval (.Name x px) X.env) = eval (.Name x px) X.env := by rfl) : XE X (.Attribute (.Name x px) f pos) ρ d :=
  EvD.of (pe_fld (pe_var hN hv hd hcd) hb) fun F0 H0 F H σ S Q q => by
    obtain ⟨v, h1, rfl, h3, h4, h5, h6, _⟩ := S.ok i _ he
    obtain ⟨w, k3, k4⟩ := h6.look hl
    exact ⟨_, h1, p, C, dx, fv, w, rfl, h5, cl, n, k3, q w F H (Gr.refl S.ex) k4⟩
/-- self.f, its own list, may be read -/
theorem xr_fldS (cl : Cls X.K C) (n : NoAttr X.K C f) (he : ρ[i]? = some (some (.isl p dx C fv fs os))) (hl : fs.lookup f = some (.ref c)) (ho : (c, ds) ∈ os) (hN : X.N[i]? = some x := by rfl) (hv : Vis X.env.scope x := by first | exact Or.inl rfl | exact Or.inr (Or.inl rfl) | exact Or.inr (Or.inr rfl)) (hd : (x == ("__debug__" : Str)) = false := by decide)
    (hcd : (x == ("__classdict__" : Str)) = false := by decide) (hb : attributeBase (.Name x px) f X.env (eval (.Name x px) X.env) = eval (.Name x px) X.env := by rfl) : XR X (.Attribute (.Name x px) f pos) ρ ds := fun F0 H0 F H σ S Q q => by
  refine wpE_of (pe_fld (pe_var hN hv hd hcd) hb) ?_
  obtain ⟨v, h1, rfl, h3, h4, h5, h6, h7, _⟩ := S.ok i _ he
  obtain ⟨w, k3, k4⟩ := h6.look hl
  simp only [Den] at k4
  subst k4
  obtain ⟨_, _, xs, k5, k6⟩ := h7 c ds ho
  exact ⟨_, h1, p, C, dx, fv, _, rfl, h5, cl, n, k3, q _ F H (Gr.refl S.ex) ⟨c, xs, rfl, k5, k6⟩⟩
/-- all of the island is known, while a method only reads -/
theorem Sta.vw {K : PySem.W.Frag} {F0 H0 F H : Hp} {σ : L2.St} (S : Sta K F0 H0 F H σ ρ) (he : ρ[i]? = some (some (.isl p dx C fv fs [(c, ds)]))) : ∃ Fc, Ex F Fc ∧ Ex Fc H ∧ Den K Fc (.ins C (vwF c ds fs)) (.ref p) ∧ H p = some (.ins C dx fv) ∧ DenF K F fs fv ∧ σ[i]? = some (some (.ref p)) := by
  obtain ⟨v, h1, rfl, h3, h4, h5, h6, h7, _⟩ := S.ok i _ he
  obtain ⟨_, k4, xs, k5, k6⟩ := h7 c ds List.mem_cons_self
  have hne : c ≠ p := fun z => by subst z; rw [k5] at h5; cases h5
  have e1 : Ex F (upd F c (.lst xs)) := Ex.new k4
  have n2 : upd F c (.lst xs) p = none := by rw [upd_ne (Ne.symm hne)]; exact h4
  have e2 : Ex (upd F c (.lst xs)) (upd (upd F c (.lst xs)) p (.ins C dx fv)) := Ex.new n2
  refine ⟨_, e1.trans e2, fun b u w => ?_, by simp only [Den]; exact ⟨p, dx, fv, rfl, upd_same, denF_vw (e1.trans e2) (e2 _ _ upd_same) (k6.mono (e1.trans e2)) h6⟩, h5, h6, h1⟩
  by_cases z : b = p
  · subst z; rw [upd_same] at w; cases w; exact h5
  · rw [upd_ne z] at w
    by_cases z2 : b = c
    · subst z2; rw [upd_same] at w; cases w; exact k5
    · rw [upd_ne z2] at w; exact S.ex _ _ w
/-- Sta over a heap that is known further -/
theorem x_methS {k j : Nat} (mt : Mt X.prog X.w X.K X.mg X.base k C m (spD X.K (.ins C (vwF c ds1 fs) :: ds) d)) (hr : Room j X.A) (he : ρ[i]? = some (some (.isl p dx C fv fs [(c, ds1)]))) (ha : XA X (e :: es) ρ ds) (hl : d.lite = true) (hno : fs.lookup m = none) (hk : k ≤ j := by decide)
    (hN : X.N[i]? = some x := by rfl) (hv : Vis X.env.scope x := by first | exact Or.inl rfl | exact Or.inr (Or.inl rfl) | exact Or.inr (Or.inr rfl)) (hd : (x == ("__debug__" : Str)) = false := by decide) (hcd : (x == ("__classdict__" : Str)) = false := by decide)
    (hst : starEach (e :: es) X.env = (false, eval e X.env) :: starEach es X.env := by rfl) (hpl : (backTo pos (starEach es X.env)).any (·.1) = false := by rfl) {pl : Sem Bool}
    (ht : eval (.Call (.Attribute (.Name x px) m apos) (e :: es) [] pos) X.env = (do
      let ov ← eval (.Name x px) X.env
      standAt apos.atName
      let (f, first) ← holding [ov] (getMethod ov m pl)
      callWith pos f first (backTo pos (starEach (e :: es) X.env)) (backToKw pos (keywordEach [] X.env))) := by rfl) : XE X (.Call (.Attribute (.Name x px) m apos) (e :: es) [] pos) ρ d := fun F0 H0 F H σ S Q q => by
  obtain ⟨f, fd, ps, h0, h1, h2, h4⟩ := mt.ex
  obtain ⟨_, _, _, _, h5, h6, h7⟩ := S.vw he
  refine wpE_of (pe_meth (pe_var hN hv hd hcd) h0 h1 h2 (hr.mono hk) h4 .nil pass0 pa_wp hst hpl ht) ?_
  refine ⟨_, h7, p, dx, fv, rfl, h5, h6.no hno, ha F0 H0 F H σ S _ fun vs F3 H3 g3 dvs => ?_⟩
  rw [List.append_nil]
  obtain ⟨Fc, e1, e2, k1, _, _, _⟩ := (S.mono g3).vw he
  exact ⟨Fc, e2, DenL.cons k1 (dvs.mono e1), fun v F4 H4 g4 d4 => q v F3 H4 (g3.trans (Gr.back e1 g4)) (d4.lite hl)⟩
theorem xn_methS0 {k j : Nat} {ns : List Nat} (mt : Mt X.prog X.w X.K X.mg X.base k C m (spN X.K [.ins C (vwF c ds1 fs)] (nt ns))) (hr : Room j X.A) (he : ρ[i]? = some (some (.isl p dx C fv fs [(c, ds1)]))) (hno : fs.lookup m = none) (hk : k ≤ j := by decide)
    (hN : X.N[i]? = some x := by rfl) (hv : Vis X.env.scope x := by first | exact Or.inl rfl | exact Or.inr (Or.inl rfl) | exact Or.inr (Or.inr rfl)) (hd : (x == ("__debug__" : Str)) = false := by decide) (hcd : (x == ("__classdict__" : Str)) = false := by decide) {pl : Sem Bool}
    (ht : eval (.Call (.Attribute (.Name x px) m apos) [] [] pos) X.env = (do
      let ov ← eval (.Name x px) X.env
      standAt apos.atName
      let (f, first) ← holding [ov] (getMethod ov m pl)
      callWith pos f first (backTo pos (starEach [] X.env)) (backToKw pos (keywordEach [] X.env))) := by rfl) : XN X (.Call (.Attribute (.Name x px) m apos) [] [] pos) ρ (nt ns) := fun F0 H0 F H σ S Q q => by
  obtain ⟨f, fd, ps, h0, h1, h2, h4⟩ := mt.ex
  obtain ⟨Fc, e1, e2, k1, h5, h6, h7⟩ := S.vw he
  refine wpE_of (pe_meth0 (pe_var hN hv hd hcd) h0 h1 h2 (hr.mono hk) h4 .nil pass0 ht) ?_
  refine ⟨_, h7, p, dx, fv, rfl, h5, h6.no hno, ?_⟩
  exact ⟨Fc, e2, DenL.cons k1 DenL.nil, fun l xs F4 H4 g4 n1 n2 n3 n4 => q l xs F H4 (Gr.back e1 g4) n1 ((e1.trans g4.f).none n2) n3 (by
    rw [nt_map] at n4 ⊢
    rw [n4.ints]
    exact DenL.of_ints _)⟩
/-- self.f.append(e) -/
theorem s_appS (cl : Cls X.K C) (na : NoAttr X.K C f) (he : ρ[i]? = some (some (.isl p dx C fv fs [(c, ds)]))) (hl : fs.lookup f = some (.ref c)) (h : XE X e ρ d) (hz : ds.length ≤ 100000) (hN : X.N[i]? = some x := by rfl) (hv : Vis X.env.scope x := by first | exact Or.inl rfl | exact Or.inr (Or.inl rfl) | exact Or.inr (Or.inr rfl)) (hd : (x == ("__debug__" : Str)) = false := by decide)
    (hcd : (x == ("__classdict__" : Str)) = false := by decide) (hb : attributeBase (.Name x px) f X.env (eval (.Name x px) X.env) = eval (.Name x px) X.env := by rfl) (hbase : attributeBase (.Attribute (.Name x px) f pos') "append" X.env (eval (.Attribute (.Name x px) f pos') X.env) = eval (.Attribute (.Name x px) f pos') X.env := by rfl)
    (hfew : ((backTo cpos (starEach [e] X.env)).all (fun x => !x.1) && (backToKw cpos (keywordEach [] X.env)).all (fun x => x.1.isSome)
      && decide ([e].length + ([] : List Keyword).length + (if ([] : List Keyword).isEmpty then 0 else 1) < 30)) = true := by rfl)
    (hline : (apos.endLine == cpos.line) = true := by rfl) (hs : starEach [e] X.env = (false, eval e X.env) :: starEach [] X.env := by rfl) (hplain : (backTo cpos (starEach [] X.env)).any (·.1) = false := by rfl)
    (hsw : swapsWith (.Call (.Attribute (.Attribute (.Name x px) f pos') "append" apos) [e] [] cpos) none pos.line X.env = pure false := by rfl) :
    XS X (.Expr (.Call (.Attribute (.Attribute (.Name x px) f pos') "append" apos) [e] [] cpos) pos) ρ (.nx (ρ.set i (some (.isl p dx C fv fs [(c, ds ++ [d])])))) :=
  BsD.of (ps_expr (pe_bm PySem.F.plainAttrs_list PySem.F.slot_list_append PySem.F.type_list_append mt_append (pe_fld (pe_var hN hv hd hcd) hb) (pa_cons pe_wp pa_nil hs) hbase hfew hline hs hplain) hsw) fun F0 H0 F H σ D S q => by
    obtain ⟨v, h1, rfl, h3, h4, h5, h6, h7, h8⟩ := S.ok i _ he
    obtain ⟨w, k3, k4⟩ := h6.look hl
    simp only [Den] at k4
    subst k4
    obtain ⟨m1, m2, xs, m3, m4⟩ := h7 c ds List.mem_cons_self
    refine ⟨_, h1, p, C, dx, fv, _, rfl, h5, cl, na, k3, .inl ⟨rfl, _, SqL.of m3⟩, h F0 H0 F H σ S _ fun v F2 H2 g dv => ?_⟩
    refine ⟨c, xs, v, rfl, rfl, g.h.lst m3, Nat.lt_of_le_of_lt (by rw [m4.length]; exact hz) (by decide), q F2 _ σ ((S.mono g).writeO he (a := c) (.inr List.mem_cons_self) h1 ?_ ?_) g.f⟩
    · have hne : p ≠ c := fun z => by subst z; rw [m3] at h5; cases h5
      refine ⟨rfl, h3, g.free h4 h5, by rw [upd_ne hne]; exact g.h.ins h5, h6.mono g.f, fun c' ds' hm => ?_, by simp⟩
      cases hm with
      | head => exact ⟨m1, g.free m2 m3, _, upd_same, (m4.mono g.f).append (DenL.cons dv DenL.nil)⟩
      | tail _ hm => cases hm
    · intro b w
      rcases w with w | w
      · exact .inl w
      · exact .inr w
/-- self.f.pop() -/
theorem s_popS (cl : Cls X.K C) (na : NoAttr X.K C f) (he : ρ[i]? = some (some (.isl p dx C fv fs [(c, ds ++ [d])]))) (hl : fs.lookup f = some (.ref c)) (hN : X.N[i]? = some x := by rfl) (hv : Vis X.env.scope x := by first | exact Or.inl rfl | exact Or.inr (Or.inl rfl) | exact Or.inr (Or.inr rfl)) (hd : (x == ("__debug__" : Str)) = false := by decide)
    (hcd : (x == ("__classdict__" : Str)) = false := by decide) (hb : attributeBase (.Name x px) f X.env (eval (.Name x px) X.env) = eval (.Name x px) X.env := by rfl) (hbase : attributeBase (.Attribute (.Name x px) f pos') "pop" X.env (eval (.Attribute (.Name x px) f pos') X.env) = eval (.Attribute (.Name x px) f pos') X.env := by rfl)
    (hline : (apos.endLine == cpos.line) = true := by rfl)
    (hsw : swapsWith (.Call (.Attribute (.Attribute (.Name x px) f pos') "pop" apos) [] [] cpos) none pos.line X.env = pure false := by rfl) :
    XS X (.Expr (.Call (.Attribute (.Attribute (.Name x px) f pos') "pop" apos) [] [] cpos) pos) ρ (.nx (ρ.set i (some (.isl p dx C fv fs [(c, ds)])))) :=
  BsD.of (ps_expr (pe_bm0 PySem.F.plainAttrs_list PySem.F.slot_list_pop PySem.F.type_list_pop mt_pop (pe_fld (pe_var hN hv hd hcd) hb) hbase hline) hsw) fun F0 H0 F H σ D S q => by
    obtain ⟨v, h1, rfl, h3, h4, h5, h6, h7, h8⟩ := S.ok i _ he
    obtain ⟨w, k3, k4⟩ := h6.look hl
    simp only [Den] at k4
    subst k4
    obtain ⟨m1, m2, xs, m3, m4⟩ := h7 c _ List.mem_cons_self
    have hlen := m4.length
    rw [List.length_append, List.length_singleton] at hlen
    have hlast : ∃ y, xs[xs.length - 1]? = some y := ⟨_, List.getElem?_eq_getElem (by omega)⟩
    obtain ⟨y, hy⟩ := hlast
    refine ⟨_, h1, p, C, dx, fv, _, rfl, h5, cl, na, k3, .inl ⟨rfl, _, SqL.of m3⟩, c, xs, y, rfl, rfl, m3, hy, q F _ σ (S.writeO he (a := c) (.inr List.mem_cons_self) h1 ?_ ?_) (Ex.refl _)⟩
    · have hne : p ≠ c := fun z => by subst z; rw [m3] at h5; cases h5
      refine ⟨rfl, h3, h4, by rw [upd_ne hne]; exact h5, h6, fun c' ds' hm => ?_, by simp⟩
      cases hm with
      | head =>
        refine ⟨m1, m2, _, upd_same, ?_⟩
        have := m4.dropLast
        rw [List.dropLast_concat] at this
        exact this
      | tail _ hm => cases hm
    · intro b w
      rcases w with w | w
      · exact .inl w
      · exact .inr w
/-! ### methods of islands -/
/-- every: the list is as it was -/
def spE (K : PySem.W.Frag) (C : Addr) (fsOf : Addr → List (Str × Dt)) (ns : List Nat) (rs : List Dt) : Sp := fun vs H Q _ => ∃ F p dx c fv, vs = [.ref p] ∧ Ex F H ∧ F p = none ∧ F c = none ∧ H p = some (.ins C dx fv) ∧ H c = some (.lst (ns.map fun (n : Nat) => V.int (n : Int))) ∧ DenF K F (fsOf c) fv ∧
  ∀ l xs F2 H2, Gr F H F2 H2 → H l = none → F2 l = none → H2 l = some (.lst xs) → DenL K F2 rs xs → Q (.ref l) H2
/-- find: the list becomes ns' -/
def spF (K : PySem.W.Frag) (C : Addr) (fsOf : Addr → List (Str × Dt)) (ns ns' : List Nat) (r : Dt) : Sp := fun vs H Q _ => ∃ F p dx c fv, vs = [.ref p] ∧ Ex F H ∧ F p = none ∧ F c = none ∧ H p = some (.ins C dx fv) ∧ H c = some (.lst (ns.map fun (n : Nat) => V.int (n : Int))) ∧ DenF K F (fsOf c) fv ∧
  ∀ v F2 H2, Gr F (rm H c) F2 H2 → F2 c = none → H2 c = some (.lst (ns'.map fun (n : Nat) => V.int (n : Int))) → Den K F2 r v → Q v H2
theorem nt_den {K : PySem.W.Frag} {F : Hp} {ns : List Nat} {xs : List V} (h : DenL K F (nt ns) xs) : xs = ns.map fun (n : Nat) => V.int (n : Int) := by
  rw [nt_map] at h
  rw [h.ints, List.map_map]; rfl
theorem den_nt {K : PySem.W.Frag} {F : Hp} (ns : List Nat) : DenL K F (nt ns) (ns.map fun (n : Nat) => V.int (n : Int)) := by
  have := DenL.of_ints (K := K) (F := F) (ns.map fun (n : Nat) => (n : Int))
  rw [← nt_map, List.map_map] at this
  exact this
theorem xn_every {k j : Nat} {ns : List Nat} {rs : List Dt} {fsOf : Addr → List (Str × Dt)} (mt : Mt X.prog X.w X.K X.mg X.base k C m (spE X.K C fsOf ns rs)) (hr : Room j X.A) (he : ρ[i]? = some (some (.isl p dx C fv (fsOf c) [(c, nt ns)]))) (hno : (fsOf c).lookup m = none) (hk : k ≤ j := by decide)
    (hN : X.N[i]? = some x := by rfl) (hv : Vis X.env.scope x := by first | exact Or.inl rfl | exact Or.inr (Or.inl rfl) | exact Or.inr (Or.inr rfl)) (hd : (x == ("__debug__" : Str)) = false := by decide) (hcd : (x == ("__classdict__" : Str)) = false := by decide) {pl : Sem Bool}
    (ht : eval (.Call (.Attribute (.Name x px) m apos) [] [] pos) X.env = (do
      let ov ← eval (.Name x px) X.env
      standAt apos.atName
      let (f, first) ← holding [ov] (getMethod ov m pl)
      callWith pos f first (backTo pos (starEach [] X.env)) (backToKw pos (keywordEach [] X.env))) := by rfl) : XN X (.Call (.Attribute (.Name x px) m apos) [] [] pos) ρ rs := fun F0 H0 F H σ S Q q => by
  obtain ⟨f, fd, ps, h0, h1, h2, h4⟩ := mt.ex
  obtain ⟨v, k1, rfl, k3, k4, k5, k6, k7, _⟩ := S.ok i _ he
  obtain ⟨m1, m2, xs, m3, m4⟩ := k7 c _ List.mem_cons_self
  rw [nt_den m4] at m3
  refine wpE_of (pe_meth0 (pe_var hN hv hd hcd) h0 h1 h2 (hr.mono hk) h4 .nil pass0 ht) ?_
  refine ⟨_, k1, p, dx, fv, rfl, k5, k6.no hno, ?_⟩
  exact ⟨F, p, dx, c, fv, rfl, S.ex, k4, m2, k5, m3, k6, fun l xs F2 H2 g n1 n2 n3 n4 => q l xs F2 H2 g n1 n2 n3 n4⟩
theorem xm_find {k j : Nat} {ns ns' : List Nat} {fsOf : Addr → List (Str × Dt)} (mt : Mt X.prog X.w X.K X.mg X.base k C m (spF X.K C fsOf ns ns' d)) (hr : Room j X.A) (he : ρ[i]? = some (some (.isl p dx C fv (fsOf c) [(c, nt ns)]))) (hno : (fsOf c).lookup m = none) (hk : k ≤ j := by decide)
    (hN : X.N[i]? = some x := by rfl) (hv : Vis X.env.scope x := by first | exact Or.inl rfl | exact Or.inr (Or.inl rfl) | exact Or.inr (Or.inr rfl)) (hd : (x == ("__debug__" : Str)) = false := by decide) (hcd : (x == ("__classdict__" : Str)) = false := by decide) {pl : Sem Bool}
    (ht : eval (.Call (.Attribute (.Name x px) m apos) [] [] pos) X.env = (do
      let ov ← eval (.Name x px) X.env
      standAt apos.atName
      let (f, first) ← holding [ov] (getMethod ov m pl)
      callWith pos f first (backTo pos (starEach [] X.env)) (backToKw pos (keywordEach [] X.env))) := by rfl) : XEm X (.Call (.Attribute (.Name x px) m apos) [] [] pos) ρ d (ρ.set i (some (.isl p dx C fv (fsOf c) [(c, nt ns')]))) := fun F0 H0 F H σ S Q q => by
  obtain ⟨f, fd, ps, h0, h1, h2, h4⟩ := mt.ex
  obtain ⟨v, k1, rfl, k3, k4, k5, k6, k7, _⟩ := S.ok i _ he
  obtain ⟨m1, m2, xs, m3, m4⟩ := k7 c _ List.mem_cons_self
  have m3' := m3
  rw [nt_den m4] at m3'
  have hne : p ≠ c := fun z => by subst z; rw [m3] at k5; cases k5
  refine wpE_of (pe_meth0 (pe_var hN hv hd hcd) h0 h1 h2 (hr.mono hk) h4 .nil pass0 ht) ?_
  refine ⟨_, k1, p, dx, fv, rfl, k5, k6.no hno, ?_⟩
  refine ⟨F, p, dx, c, fv, rfl, S.ex, k4, m2, k5, m3', k6, fun v F2 H2 g n1 n2 n3 => q v F2 H2 (S.call he (off_rm (.inr List.mem_cons_self)) g k1 ⟨rfl, k3, ?_, ?_, k6.mono g.f, fun c' ds' hm => ?_, by simp⟩ fun b w => ?_) g.f n3⟩
  · exact g.free k4 (by rw [rm_ne hne]; exact k5)
  · exact g.h.ins (by rw [rm_ne hne]; exact k5)
  · cases hm with
    | head => exact ⟨m1, n1, _, n2, den_nt ns'⟩
    | tail _ hm => cases hm
  · rcases w with w | w
    · exact .inl w
    · exact .inr w
end
section
variable {P : Program} {w : World} {K : PySem.W.Frag} {mg : Str → Option Value} {base : Heap} {qual nm : Str} {params : Arguments} {body : List Stmt} {scope : Scope} {f : Addr} {fd : FuncData} {N : List Str} {k : Nat} {r : Dt}
theorem Off.tabs {H H' : Hp} {own : Addr → Prop} (o : Off H H' own) (h : ∀ b, own b → (∃ xs, H b = some (.lst xs)) ∨ ∃ C dx fv, H b = some (.ins C dx fv)) {P : Addr} {q : Str} (t : LamX.TabS H P q) : LamX.TabS H' P q := tabS_off t fun b u e n1 n2 => by
  rcases o.at_ b with z | ⟨z, w⟩
  · rw [z]; exact e
  · rcases h b w with ⟨xs, k⟩ | ⟨C, dx, fv, k⟩
    · rw [k] at e; cases e; exact (n1 _ rfl).elim
    · rw [k] at e; cases e; exact (n2 _ _ _ rfl).elim
theorem gr_rm2 {F H : Hp} {p c : Addr} (e : Ex F H) (hp : F p = none) (hc : F c = none) : Gr F (rm (rm H p) c) F H := ⟨(Ex.trans rm_ex rm_ex).t, Ex.refl _, e, fun _ _ w => .inl w⟩
theorem rm2_ne {H : Hp} {p c b : Addr} (h1 : b ≠ p) (h2 : b ≠ c) : rm (rm H p) c b = H b := by rw [rm_ne h2, rm_ne h1]
/-- p and c are as they were -/
theorem Gr.back2 {F H F2 H2 : Hp} {p c C dx : Addr} {fv : List (Str × V)} {xs : List V} (g : Gr F (rm (rm H p) c) F2 H2) (h1 : H p = some (.ins C dx fv)) (h2 : H c = some (.lst xs)) (k1 : H2 p = some (.ins C dx fv)) (k2 : H2 c = some (.lst xs)) (n1 : F2 p = none) (n2 : F2 c = none) : Gr F H F2 H2 := by
  have t : ∀ b u, H b = some u → (∀ xs, u ≠ .lst xs) → (∀ C dx fv, u ≠ .ins C dx fv) → rm (rm H p) c b = some u := fun b u e m1 m2 => by
    rw [rm2_ne (fun z => by subst z; rw [h1] at e; cases e; exact (m2 _ _ _ rfl).elim) (fun z => by subst z; rw [h2] at e; cases e; exact (m1 _ rfl).elim)]
    exact e
  refine ⟨⟨fun b u e n => ?_, fun b ps e => g.h.tab b ps (t b _ e (fun _ z => nomatch z) (fun _ _ _ z => nomatch z)), fun P e => g.h.tabs P (tabS_off e t)⟩, g.f, g.s, fun b u e => ?_⟩
  · by_cases z : b = p
    · subst z; rw [h1] at e; cases e; exact k1
    · by_cases y : b = c
      · subst y; rw [h2] at e; cases e; exact k2
      · exact g.h.get b u (by rw [rm2_ne z y]; exact e) n
  · rcases g.n b u e with z | z
    · exact .inl z
    · refine .inr ?_
      have z1 : b ≠ p := fun z => by subst z; rw [n1] at e; cases e
      have z2 : b ≠ c := fun z => by subst z; rw [n2] at e; cases e
      rw [rm2_ne z1 z2] at z
      exact z
theorem def_okE {C : Addr} {ns : List Nat} {rs : List Dt} {fsOf : Addr → List (Str × Dt)} {self : Str} (D : FunD K nm qual params body scope [] [] f fd) (S : FnScope N [self] scope) (h : ∀ (p dx c : Addr) (fv : List (Str × V)) (cdv : Value) (A : Around) (outer : List Env) (s : Shared) (H : Hp) (E : XK), Room k (A.deeper (envOfC qual scope s.heap.objs.size f cdv)) →
    ∃ ρ, XSs (cxD P w K mg base N qual scope f cdv A outer s H E) body (rhoS N (.isl p dx C fv (fsOf c) [(c, nt ns)]) []) (.rkn ρ rs) ∧ ρ[0]? = some (some (.isl p dx C fv (fsOf c) [(c, nt ns)]))) : FnOk P w K mg base CX0 (k + 1) f fd [self] (spE K C fsOf ns rs) := by
  refine D.ok S (fun vs H Q E h => ?_) (fun cdv A outer s H vs Q E hr hq => ?_)
  · obtain ⟨F, p, dx, c, fv, rfl, _⟩ := h
    rfl
  · obtain ⟨F, p, dx, c, fv, rfl, e, hp, hc, hh, hx, hf, q⟩ := hq
    obtain ⟨ρ, hb, h0⟩ := h p dx c fv cdv A outer s H E hr
    have hne : p ≠ c := fun z => by subst z; rw [hx] at hh; cases hh
    refine ⟨_, PSs.nox pss_wp, hb F (rm (rm H p) c) F H _ _ (staS (gr_rm2 e hp hc) ⟨rfl, by rw [rm_ne hne]; exact rm_same, hp, hh, hf, fun c' ds' hm => ?_, by simp⟩ DenL.nil) ?_⟩
    · cases hm with
      | head => exact ⟨rm_same, hc, _, hx, den_nt ns⟩
      | tail _ hm => cases hm
    · intro l xs F2 H2 σ S2 n0 n1 n2 n3 n4
      obtain ⟨_, _, _, k1, k2, k3, k4, k5, _⟩ := S2.ok 0 _ h0
      obtain ⟨_, m2, xs2, m3, m4⟩ := k5 c _ List.mem_cons_self
      rw [nt_den m4] at m3
      refine q l xs F2 H2 (S2.g.back2 hh hx k3 m3 k2 m2) ?_ n2 n3 n4
      have z1 : l ≠ p := fun z => by subst z; rw [k3] at n3; cases n3
      cases hl : H l with
      | none => rfl
      | some u =>
        by_cases z2 : l = c
        · subst z2
          exact (n0 0 _ h0 (.inr List.mem_cons_self)).elim
        · rw [rm2_ne z1 z2, hl] at n1; cases n1
theorem def_okF {C : Addr} {ns ns' : List Nat} {fsOf : Addr → List (Str × Dt)} {self : Str} (D : FunD K nm qual params body scope [] [] f fd) (S : FnScope N [self] scope) (h : ∀ (p dx c : Addr) (fv : List (Str × V)) (cdv : Value) (A : Around) (outer : List Env) (s : Shared) (H : Hp) (E : XK), Room k (A.deeper (envOfC qual scope s.heap.objs.size f cdv)) →
    ∃ ρ, XSs (cxD P w K mg base N qual scope f cdv A outer s H E) body (rhoS N (.isl p dx C fv (fsOf c) [(c, nt ns)]) []) (.rk ρ r) ∧ ρ[0]? = some (some (.isl p dx C fv (fsOf c) [(c, nt ns')]))) : FnOk P w K mg base CX0 (k + 1) f fd [self] (spF K C fsOf ns ns' r) := by
  refine D.ok S (fun vs H Q E h => ?_) (fun cdv A outer s H vs Q E hr hq => ?_)
  · obtain ⟨F, p, dx, c, fv, rfl, _⟩ := h
    rfl
  · obtain ⟨F, p, dx, c, fv, rfl, e, hp, hc, hh, hx, hf, q⟩ := hq
    obtain ⟨ρ, hb, h0⟩ := h p dx c fv cdv A outer s H E hr
    have hne : p ≠ c := fun z => by subst z; rw [hx] at hh; cases hh
    refine ⟨_, PSs.nox pss_wp, hb F (rm (rm H p) c) F H _ _ (staS (gr_rm2 e hp hc) ⟨rfl, by rw [rm_ne hne]; exact rm_same, hp, hh, hf, fun c' ds' hm => ?_, by simp⟩ DenL.nil) ?_⟩
    · cases hm with
      | head => exact ⟨rm_same, hc, _, hx, den_nt ns⟩
      | tail _ hm => cases hm
    · intro v F2 H2 σ S2 dv
      obtain ⟨_, _, _, k1, k2, k3, k4, k5, _⟩ := S2.ok 0 _ h0
      obtain ⟨_, m2, xs2, m3, m4⟩ := k5 c _ List.mem_cons_self
      rw [nt_den m4] at m3
      refine q v F2 H2 ?_ m2 m3 dv
      have g := S2.g
      have t : ∀ b u, rm H c b = some u → (∀ xs, u ≠ .lst xs) → (∀ C dx fv, u ≠ .ins C dx fv) → rm (rm H p) c b = some u := fun b u e m1 m2 => by
        have z : b ≠ c := fun z => by subst z; rw [rm_same] at e; cases e
        rw [rm_ne z] at e ⊢
        rw [rm_ne fun z => by subst z; rw [hh] at e; cases e; exact (m2 _ _ _ rfl).elim]
        exact e
      refine ⟨⟨fun b u e n => ?_, fun b ps e => g.h.tab b ps (t b _ e (fun _ z => nomatch z) (fun _ _ _ z => nomatch z)), fun P e => g.h.tabs P (tabS_off e t)⟩, g.f, g.s, fun b u e => ?_⟩
      · have z : b ≠ c := fun z => by subst z; rw [rm_same] at e; cases e
        by_cases y : b = p
        · subst y; rw [rm_ne z, hh] at e; cases e; exact k3
        · exact g.h.get b u (by rw [rm2_ne y z]; rw [rm_ne z] at e; exact e) n
      · rcases g.n b u e with z | z
        · exact .inl z
        · refine .inr ?_
          by_cases y : b = c
          · subst y; exact rm_same
          · have z1 : b ≠ p := fun z => by subst z; rw [k2] at e; cases e
            rw [rm2_ne z1 y] at z
            rw [rm_ne y]; exact z
end
end K82
/-! ## part X -/
/-! Exact tuples: it is known that the object has no dict. -/
namespace K82
open PySem PySem.Spec PyProof.Rows L2
def tupObj (its : List Value) : Obj := { cls := .type "tuple", data := .seq its.toArray }
section
variable {X : Cx}
/-- t + u, exact -/
def rCatE (K : PySem.W.Frag) : R2 := fun x y H Q => ∃ a b xs ys, x = .ref a ∧ y = .ref b ∧ SqT K H a xs ∧ SqT K H b ys ∧ xs ≠ [] ∧ xs.length + ys.length ≤ sizeLine ∧
  (ys = [] → Q (.ref a) H) ∧ (ys ≠ [] → ∀ p o, o.dict = none → H p = none → Q (.ref p) (upd H p (.frz o (.tup (xs ++ ys)))))
theorem op_catE : OpR X (binaryOp .Add) (rCatE X.K) := by
  intro pins s σ H x y v u Q I rx ry h
  obtain ⟨a, b, xs, ys, rfl, rfl, ha, hb, hx, hz, q1, q2⟩ := h
  cases rx
  cases ry
  obtain ⟨its, r1, p1, _⟩ := I.tuple ha
  obtain ⟨its2, r2, p2, _⟩ := I.tuple hb
  refine HT.cat_tup p1 p2 (fun z => hx (r1.nil_iff.mp z)) (fun z => ⟨.ref a, H, I, rfl, q1 (r2.nil_iff.mp z)⟩) (fun z => ?_) (by rw [← r1.length, ← r2.length]; exact hz)
  refine ⟨.ref s.heap.objs.size, _, I.laid (t' := s.toks) (o := .frz (tupObj (its ++ its2)) (.tup (xs ++ ys))) (fun b ob q => Heap.get?_push_of_some _ q) (Nat.le_refl _) ?_, rfl, q2 (fun w => z (r2.nil_iff.mpr w)) _ _ rfl (I.hok.fresh (Nat.le_refl _))⟩
  exact ⟨Heap.get?_push_size _ rfl, by rw [List.length_append]; exact hz, _, r1.append r2, IsTup.new _ _⟩
/-- tuple(a list), exact -/
theorem call_tuple_ofE : CallR X (.type "tuple") (fun xs H Q => ∃ p ys, xs = [.ref p] ∧ SqL X.K H p ys ∧ ∀ l o, o.dict = none → H l = none → Q (.ref l) (upd H l (.frz o (.tup ys)))) := by
  intro pins s σ H xs us Q I r h
  obtain ⟨p, ys, rfl, hq, q⟩ := h
  obtain ⟨u, rfl, rx⟩ := vals1 r
  cases rx
  obtain ⟨its, r', pl, hz⟩ := I.list hq
  have hlen := r'.length
  refine call_tuple_list pl.isList (fun h' kp => ?_) (by simp only [List.size_toArray] <;> omega)
  have I1 : Inv X pins σ H { s with heap := h' } := I.kept (t' := s.toks) kp
  have I2 := I1.laid (t' := s.toks) (a := h'.objs.size) (o := .frz (tupObj its) (.tup ys)) (h' := h'.push (tupObj its)) (fun b o e => Heap.get?_push_of_some _ e) (Nat.le_refl _) ⟨Heap.get?_push_size _ rfl, hz, its, r', IsTup.new _ _⟩
  exact ⟨.ref h'.objs.size, _, I2, rfl, q _ _ rfl (I1.hok.fresh (Nat.le_refl _))⟩
/-- (e, ..), exact -/
theorem pe_tupE {es : List Expr} {t : TA} {x1 : Nat} {pos : Pos} (h : PA X es t) : PE X (.Tuple es x1 pos) (fun σ H Q => t σ H fun xs H1 => xs.length ≤ sizeLine ∧ ∀ p o, o.dict = none → H1 p = none → Q (.ref p) (upd H1 p (.frz o (.tup xs)))) := by
  refine ⟨fun pins s σ H Q I hq => ?_⟩
  refine wpAny_Tuple_spliced (thn (h.run pos pins s σ H _ I hq) fun us s1 ⟨xs, H1, I1, r, z, q⟩ => ⟨by rw [← r.length]; exact z, ?_⟩)
  have hf : H1 s1.heap.objs.size = none := I1.hok.fresh (Nat.le_refl _)
  refine ⟨.ref s1.heap.objs.size, _, I1.laid (t' := s1.toks) (o := .frz (tupObj us) (.tup xs)) (fun b u e => Heap.get?_push_of_some _ e) (Nat.le_refl _) ?_, rfl, q _ _ rfl hf⟩
  exact ⟨Heap.get?_push_size _ rfl, z, us, r, ⟨_, Heap.get?_push_size _ rfl, rfl, _, rfl⟩⟩
/-- t.index(e), t an exact tuple of ints -/
theorem pe_tupIndex {o e : Expr} {to : TE} {t : TA} {apos cpos : Pos} (ho : PE X o to) (ha : PA X [e] t) (hbase : attributeBase o "index" X.env (eval o X.env) = eval o X.env := by rfl)
    (hfew : ((backTo cpos (starEach [e] X.env)).all (fun x => !x.1) && (backToKw cpos (keywordEach [] X.env)).all (fun x => x.1.isSome)
      && decide ([e].length + ([] : List Keyword).length + (if ([] : List Keyword).isEmpty then 0 else 1) < 30)) = true := by rfl)
    (hline : (apos.endLine == cpos.line) = true := by rfl) (hs : starEach [e] X.env = (false, eval e X.env) :: starEach [] X.env := by rfl) (hplain : (backTo cpos (starEach [] X.env)).any (·.1) = false := by rfl) :
    PE X (.Call (.Attribute o "index" apos) [e] [] cpos) (fun σ H Q => to σ H fun x H1 => ∃ (a : Addr) (ob : Obj) (ns : List Int), x = .ref a ∧ H1 a = some (.frz ob (.tup (ns.map V.int))) ∧ ob.dict = none ∧ t σ H1 fun ys H2 => ∃ (k : Int), ys = [.int k] ∧ k ∈ ns ∧ SqT X.K H2 a (ns.map V.int) ∧ Q (.int ((ns.idxOf k : Nat) : Int)) H2) := by
  refine ⟨fun pins s σ H Q I h => ?_⟩
  refine wpAny_Call_method_late hbase hfew hline rfl (thn (ho.run pins s σ H _ I h) fun v s1 ⟨x, H1, I1, r1, q1⟩ => ?_)
  obtain ⟨a, ob, ns, rfl, f1, f2, q2⟩ := q1
  cases r1
  obtain ⟨g1, _⟩ := I1.hok a _ f1
  obtain ⟨its0, _, pl0, _⟩ := I1.tuple (xs := ns.map V.int) (.inl (.inr ⟨ob, f1⟩))
  refine ⟨"tuple", _, PySem.F.plainAttrs_tuple, PySem.F.slot_tuple_index, PySem.F.type_tuple_index, pl0.typeIs, fun b e => by cases e; exact ⟨ob, g1, f2⟩, ?_⟩
  have hA := ha.run cpos pins s1 σ H1 _ I1 q2
  rw [hs] at hA ⊢
  refine Calls.callWith_builtin (by show (false || (backTo cpos (starEach [] X.env)).any (·.1)) = false; rw [hplain] <;> rfl) (Calls.evalArgs_plain ?_)
  refine thn hA fun us s2 ⟨vs, H2, I2, r2, k, e2, hk, sq, q3⟩ => ?_
  subst e2
  obtain ⟨u, rfl, tk, rfl⟩ := Vals.one r2
  obtain ⟨its, r3, pl, _⟩ := I2.tuple sq
  exact PySem.SeqAt.tuple_index_ints pl r3.ints hk ⟨.int _, H2, I2.kept (fun _ _ q => q), ⟨_, rfl⟩, q3⟩
end
section
variable {X : Cx} {ρ : Rho} {e a b : Expr} {es : List Expr} {pos p apos cpos : Pos} {d : Dt} {ds ds1 ds2 : List Dt}
theorem x_et (h : XE X e ρ (.etup ds)) : XE X e ρ (.tup ds) := fun F0 H0 F H σ S Q q => h F0 H0 F H σ S Q fun v F2 H2 g dv => q v F2 H2 g (den_et dv)
theorem den_etNew {K : PySem.W.Frag} {F : Hp} {p : Addr} {o : Obj} {xs : List V} (hp : F p = none) (ho : o.dict = none) (h : DenL K F ds xs) : Den K (upd F p (.frz o (.tup xs))) (.etup ds) (.ref p) := by
  simp only [Den]
  exact ⟨p, o, xs, rfl, upd_same, ho, h.mono (Ex.new hp)⟩
/-- tuple(a list), exact -/
theorem x_etupOf (hm : X.mg "tuple" = none) (h : XR X e ρ ds) (hg : Gl X "tuple" := by rfl) (hs : starEach [e] X.env = (false, eval e X.env) :: starEach [] X.env := by rfl) (hpl : (backTo pos (starEach [] X.env)).any (·.1) = false := by rfl) : XE X (.Call (.Name "tuple" p) [e] [] pos) ρ (.etup ds) :=
  x_callTyR call_tuple_ofE hm boot_tuple h (fun F H a xs e k1 k2 Q q => ⟨a, xs, rfl, SqL.of k1, fun l o ho hl => q _ _ _ (Gr.new e hl) (den_etNew (e.none hl) ho k2)⟩) hg (by decide) (by decide) hs hpl
/-- (e, ..), exact -/
theorem x_etup {x1 : Nat} (h : XA X es ρ ds) (hl : ds.length ≤ 1000 := by exact Nat.le_of_ble_eq_true rfl) : XE X (.Tuple es x1 pos) ρ (.etup ds) := EvD.of (pe_tupE pa_wp) fun F0 H0 F H σ S Q q =>
  h F0 H0 F H σ S _ fun xs F2 H2 g dxs => ⟨by rw [dxs.length]; exact Nat.le_of_lt (small1000 hl), fun p o ho hp => q _ _ _ (g.trans (Gr.new g.s hp)) (den_etNew (g.s.none hp) ho dxs)⟩
/-- t + u, t not empty and exact -/
theorem x_catE (ha : XE X a ρ (.etup ds1)) (hb : XE X b ρ (.tup ds2)) (hne : ds1 ≠ []) (hl : ds1.length + ds2.length ≤ 1000) : XE X (.BinOp a .Add b pos) ρ (.etup (ds1 ++ ds2)) := EvD.of (pe_op op_catE pe_wp pe_wp) fun F0 H0 F H σ S Q q =>
  ha F0 H0 F H σ S _ fun x F2 H2 g1 k1 => hb F0 H0 F2 H2 σ (S.mono g1) _ fun y F3 H3 g2 k2 => by
    have k1' := Den.mono g2.f _ k1
    simp only [Den] at k1' k2
    obtain ⟨t, o, xs, rfl, f1, f2, f3⟩ := k1'
    obtain ⟨u, ys, rfl, f4, f5⟩ := k2
    have hx : xs ≠ [] := fun z => hne (List.length_eq_zero_iff.mp (by rw [← f3.length, z]; rfl))
    refine ⟨t, u, xs, ys, rfl, rfl, .inl (.inr ⟨o, g2.s _ _ f1⟩), ex_t g2.s f4, hx, by rw [f3.length, f5.length]; exact Nat.le_of_lt (small1000 hl), fun z => ?_, fun z p o' ho hp => ?_⟩
    · have e2 : ds2 = [] := List.length_eq_zero_iff.mp (by rw [← f5.length, z]; rfl)
      rw [e2, List.append_nil] at q
      exact q _ F3 H3 (g1.trans g2) (by simp only [Den]; exact ⟨t, o, xs, rfl, f1, f2, f3⟩)
    · exact q _ _ _ ((g1.trans g2).trans (Gr.new g2.s hp)) (den_etNew (g2.s.none hp) ho (f3.append f5))
theorem idxOf_cast : ∀ (ns : List Nat) (x : Nat), (ns.map fun (n : Nat) => (n : Int)).idxOf (x : Int) = ns.idxOf x
  | [], _ => rfl
  | n :: ns, x => by
    rw [List.map_cons, List.idxOf_cons, List.idxOf_cons, idxOf_cast ns x]
    have : ((n : Int) == (x : Int)) = (n == x) := by
      by_cases h : n = x
      · subst h; simp
      · rw [beq_eq_false_iff_ne.mpr h, beq_eq_false_iff_ne.mpr (by omega)]
    rw [this]
/-- t.index(e) -/
theorem x_indexE {ns : List Nat} {x : Nat} (ha : XE X a ρ (.etup (nt ns))) (hb : XE X b ρ (.int (x : Int))) (hx : x ∈ ns) (hbase : attributeBase a "index" X.env (eval a X.env) = eval a X.env := by rfl)
    (hfew : ((backTo cpos (starEach [b] X.env)).all (fun x => !x.1) && (backToKw cpos (keywordEach [] X.env)).all (fun x => x.1.isSome)
      && decide ([b].length + ([] : List Keyword).length + (if ([] : List Keyword).isEmpty then 0 else 1) < 30)) = true := by rfl)
    (hline : (apos.endLine == cpos.line) = true := by rfl) (hs : starEach [b] X.env = (false, eval b X.env) :: starEach [] X.env := by rfl) (hplain : (backTo cpos (starEach [] X.env)).any (·.1) = false := by rfl) :
    XE X (.Call (.Attribute a "index" apos) [b] [] cpos) ρ (.int ((ns.idxOf x : Nat) : Int)) :=
  EvD.of (pe_tupIndex pe_wp (pa_cons pe_wp pa_nil hs) hbase hfew hline hs hplain) fun F0 H0 F H σ S Q q => ha F0 H0 F H σ S _ fun v F2 H2 g dv => by
    simp only [Den] at dv
    obtain ⟨l, o, xs, rfl, k1, k2, k3⟩ := dv
    rw [nt_map] at k3
    have ex := k3.ints
    subst ex
    refine ⟨l, o, _, rfl, g.s _ _ k1, k2, hb F0 H0 F2 H2 σ (S.mono g) _ fun w F3 H3 g2 dw => ?_⟩
    simp only [Den] at dw
    subst dw
    refine ⟨(x : Int), rfl, List.mem_map_of_mem (f := fun (n : Nat) => (n : Int)) hx, .inl (.inr ⟨o, g2.s _ _ (g2.f _ _ k1)⟩), q _ F3 H3 (g.trans g2) ?_⟩
    rw [idxOf_cast ns x]
    simp only [Den]
end
end K82
/-! ## part W1 -/
/-! Walks: strips and their states. -/
namespace K82
open PySem PySem.Spec PyProof.Rows L2
/-! ### what they compute -/
def par (n : Nat) : List Nat := (List.range n).map (· % 2)
theorem par_get {n i : Nat} (h : i < n) : (par n)[i]? = some (i % 2) := by unfold par; rw [List.getElem?_map, List.getElem?_range h]; rfl
theorem par_succ (n : Nat) : par (n + 1) = par n ++ [n % 2] := by unfold par; rw [List.range_succ, List.map_append]; rfl
def levS (f : List Nat) (s : List Nat) (k : Nat) : List Nat := (s.zipIdx k).foldl (fun f p => f.set p.1 p.2) f
def lev (s : List Nat) : List Nat := levS (List.replicate s.length 0) s 0
def crossS (lv : List Nat) (f g : Nat) : Bool :=
  if (f + 1) % 2 ≠ (g + 1) % 2 then false else
    let a := lv.getD f 0
    let b := lv.getD (f + 1) 0
    let lo := min a b
    let hi := max a b
    let c := lv.getD g 0
    let d := lv.getD (g + 1) 0
    (decide (lo < c) && decide (c < hi)) != (decide (lo < d) && decide (d < hi))
/-- the first pair of creases that cross -/
def faultS (lv : List Nat) (n : Nat) : Option (Nat × Nat) := (List.range (n - 1)).findSome? fun f => (List.range (n - 1 - (f + 1))).findSome? fun i => if crossS lv f (f + 1 + i) then some (f, f + 1 + i) else none
def pairD (p : Nat × Nat) : Dt := .tup [.str "crossing", .int (p.1 : Int), .int (p.2 : Int)]
def optD {β : Type} (v : β → Dt) : Option β → Dt
  | some x => v x
  | none => .non
/-- V if the odd one of k, k + 1 lies higher -/
def showS (lv : List Nat) (k : Nat) : Nat := if (if k % 2 = 1 then decide (lv.getD (k + 1) 0 < lv.getD k 0) else decide (lv.getD k 0 < lv.getD (k + 1) 0)) then 1 else 0
def shownS (lv : List Nat) (n : Nat) : List Nat := (List.range (n - 1)).map (showS lv)
/-- the first crease that is shown otherwise than told -/
def badS (told sh : List Nat) : Option Nat := (told.zip sh).zipIdx.findSome? fun p => if (p.1.1 == 2 || p.1.1 == p.1.2) then none else some p.2
def bendD (k : Nat) : Dt := .tup [.str "crease", .int (k : Int)]
def keepS (told lv : List Nat) (n : Nat) : Dt := match faultS lv n with
  | some q => pairD q
  | none => optD bendD (badS told (shownS lv n))
theorem lev_len : ∀ (s f : List Nat) (k : Nat), (levS f s k).length = f.length
  | [], _, _ => rfl
  | a :: s, f, k => by
    show (levS (f.set a k) s (k + 1)).length = _
    rw [lev_len s, List.length_set]
theorem lev_length (s : List Nat) : (lev s).length = s.length := by unfold lev; rw [lev_len, List.length_replicate]
theorem getD_get {l : List Nat} {i : Nat} (h : i < l.length) : l[i]? = some (l.getD i 0) := by
  rw [List.getD_eq_getElem?_getD, List.getElem?_eq_getElem h]; rfl
/-- a state of n cells -/
structure Pm (n : Nat) (s : List Nat) : Prop where
  pos : 1 ≤ n
  le : n ≤ 6
  perm : s.Perm (List.range n)
theorem Pm.len {n : Nat} {s : List Nat} (h : Pm n s) : s.length = n := by rw [h.perm.length_eq, List.length_range]
theorem Pm.lt {n : Nat} {s : List Nat} (h : Pm n s) {x : Nat} (hx : x ∈ s) : x < n := List.mem_range.mp (h.perm.mem_iff.mp hx)
theorem Pm.srt {n : Nat} {s : List Nat} (h : Pm n s) : srt (s.map fun (i : Nat) => (i : Int)) = (List.range n).map fun (i : Nat) => (i : Int) := by
  refine (srt_of ((h.perm.map _).symm) ?_).symm
  rw [List.pairwise_map]
  exact (List.pairwise_lt_range).imp fun h => by omega
/-- told creases of n cells -/
structure Td (n : Nat) (told : List Nat) : Prop where
  pos : 1 ≤ n
  le : n ≤ 6
  len : told.length = n - 1
  lt : ∀ t ∈ told, t < 3
section
variable {P : Program} {w : World} {K : PySem.W.Frag} {mg : Str → Option Value} {base : Heap}
theorem c_is_whole (c : Fx w K mg) (v lo hi : Int) : Cl P w K mg base 1 "is_whole" (spD K [.int v, .int lo, .int hi] (.bl (decide (lo ≤ v) && decide (v ≤ hi)))) := by
  refine to_is_whole c fun f fd F => def_ok F sc_is_whole rfl fun cdv A outer s H E hr => ⟨_, s_one (s_ret (x_and (x_isi (z_isinstance c) (z_int c) b_int (x_var (i := 0) rfl) rfl k_int_int) fun _ =>
    x_and (x_not (x_isi (z_isinstance c) (z_bool c) b_bool (x_var (i := 0) rfl) rfl k_int_bool)) fun _ => x_one (x_chain op_le op_le (x_var (i := 1) rfl) (x_var (i := 0) rfl) rd_B0 (fun _ => x_var (i := 2) rfl) fun _ => rd_B0))), .inl rfl⟩
theorem c_places (c : Fx w K mg) (n : Nat) (told : List Nat) (hn : n ≤ 20) : Cl P w K mg base 1 "places" (spD K [strD K n told] (.tup (nt (par (n + 1))))) := by
  refine to_places c fun f fd F => def_ok F sc_places rfl fun cdv A outer s H E hr => ⟨_, s_cons (s_setN (i := 1) sc_places.nd (xn_lst (xa_cons x_int xa_nil))) (s_cons (ρ1 := [some (.im (strD K n told)), some (.mu (nt (par (n + 1)))), none, none])
    (s_for (xi_enumT (z_enumerate c) (x_fld (cl_Strip c) (na_Strip_lengths c) (x_var (i := 0) rfl) rfl)) (pg_tup rfl (pgs_cons (pg_name (i := 2) sc_places.nd rfl (Or.inl rfl)) (pgs_cons (pg_name (i := 3) sc_places.nd rfl (Or.inl rfl)) pgs_nil))) (vs := [2, 3]) ?l)
      (s_one (s_ret (x_tupOf (z_tuple c) (xr_mu (i := 1) rfl))))), .inl rfl⟩
  case l =>
    refine for_at (fun i => [some (.im (strD K n told)), some (.mu (nt (par (i + 1)))), none, none]) n (by unfold enD; simp [nt_len]) rfl rfl fun i d hi hd => ?_
    · have e : d = .tup [.int (i : Int), .int 1] := by
        unfold enD nt at hd
        rw [List.getElem?_map, List.getElem?_zipIdx, List.getElem?_map, List.getElem?_replicate, if_pos hi] at hd
        simpa using hd.symm
      subst e
      refine ⟨_, tg_tup rfl (tgs_cons tg_name (tgs_cons tg_name tgs_nil)), ?_⟩
      refine b_fg (s_one (s_app (i := 1) rfl ((x_bin op_add (x_ixR (i := -1) (d := .int ((i % 2 : Nat) : Int)) (xr_mu (i := 1) rfl) (x_neg x_int) ?_) (x_ifI (xt_cmp op_eq (nomark _) (x_bin op_mod (x_var (i := 2) rfl) x_int (rd_I (by decide))) x_int (rd_eq rfl rfl rfl)) (fun h => (x_var (i := 3) rfl)) (fun h => (x_bin op_sub x_int (x_var (i := 3) rfl) rd_I0))) rd_I0).is (d2 := .int (((i + 1) % 2 : Nat) : Int)) ?_) ?_)) ?_
      · rw [par_succ]; unfold nt; rw [List.map_append]; exact atI_last _ _
      · congr 1
        have h0 : (i : Int) % 2 = 0 ∨ (i : Int) % 2 = 1 := by omega
        rcases h0 with h0 | h0
        · have e1 : decide (Dt.v (.int ((i : Int) % 2)) = Dt.v (.int 0)) = true := by rw [h0]; decide
          simp only [e1, cond_true]
          omega
        · have e1 : decide (Dt.v (.int ((i : Int) % 2)) = Dt.v (.int 0)) = false := by rw [h0]; decide
          simp only [e1, cond_false]
          omega
      · rw [nt_len]; unfold par; rw [List.length_map, List.length_range]; omega
      · refine ⟨.inr rfl, .inr ?_, .inl rfl, .inl rfl, trivial⟩
        rw [par_succ (i + 1)]
        unfold nt
        rw [List.map_append]
        rfl
theorem c_ends (c : Fx w K mg) (n : Nat) (told : List Nat) (k : Nat) (hn : n ≤ 20) (hk : k < n) : Cl P w K mg base 2 "ends" (spD K [strD K n told, .int k] (.tup [.int 0, .int 1])) := by
  have a1 : atI (nt (par (n + 1))) (k : Int) = some (.int ((k % 2 : Nat) : Int)) := at_nt (par_get (by omega))
  have a2 : atI (nt (par (n + 1))) ((k : Int) + 1) = some (.int (((k + 1) % 2 : Nat) : Int)) := at_nt1 (par_get (by omega))
  refine to_ends c fun f fd F => def_ok F sc_ends rfl fun cdv A outer s H E hr => ⟨_, s_cons (s_set (i := 2) sc_ends.nd (x_call (c_places c n told hn) hr (xa_cons (x_var (i := 0) rfl) xa_nil)))
    (s_one (s_ret ((x_tup (xa_cons (x_min2 (z_min c) (xa_cons (x_ixT (x_var (i := 2) rfl) (x_var (i := 1) rfl) a1) (xa_cons (x_ixT (x_var (i := 2) rfl) (x_bin op_add (x_var (i := 1) rfl) x_int rd_I0) a2) xa_nil)))
      (xa_cons (x_max2 (z_max c) (xa_cons (x_ixT (x_var (i := 2) rfl) (x_var (i := 1) rfl) a1) (xa_cons (x_ixT (x_var (i := 2) rfl) (x_bin op_add (x_var (i := 1) rfl) x_int rd_I0) a2) xa_nil))) xa_nil))).is ?_))), .inl rfl⟩
  have h0 : k % 2 = 0 ∨ k % 2 = 1 := by omega
  rcases h0 with h0 | h0
  · have h1 : (k + 1) % 2 = 1 := by omega
    rw [h0, h1]; rfl
  · have h1 : (k + 1) % 2 = 0 := by omega
    rw [h0, h1]; rfl
theorem c_is_state (c : Fx w K mg) {n : Nat} {s : List Nat} (h : Pm n s) : Cl P w K mg base 2 "is_state" (spD K [.tup (nt s), .int n] (.bl true)) := by
  have hn : n ≤ 6 := h.le
  have hl := h.len
  refine to_is_state c fun f fd F => def_ok F sc_is_state rfl fun cdv A outer s' H E hr => ⟨_, s_cons (s_ifF (xt_w (xw_or (xt_not (xt_val (x_isi (z_isinstance c) (z_tuple c) b_tuple (x_var (i := 0) rfl) rfl k_tup_tup))) fun _ => xw_or (xt_cmp op_ne (nomark _) (x_lenT (z_len c) (x_var (i := 0) rfl)) (x_var (i := 1) rfl) (rd_ne rfl rfl rfl)) fun _ =>
    xw_or1 (xt_not (xt_val (x_allM (xs := s) (q := fun x => decide ((0 : Int) ≤ (x : Int)) && decide ((x : Int) ≤ (n : Int) - 1)) (z_all c) (XN.toR (xn_lc (own := [("one", 2)]) sc_is_state.nd (xi_tup (x_var (i := 0) rfl)) ?l1 (blkOk_by (N := N_is_state) (sc := defScope s_is_state) (by decide +kernel)) (fun _ _ _ _ _ => pg_name (i := 2) sc_is_state.nd rfl (Or.inl rfl)) ?lc))))))) ?hk s_nil)
    (s_one (s_ret (x_cmp (op_eqD hr.units) (nomark _) (XN.toD (xn_sortedT (ns := s.map fun (i : Nat) => (i : Int)) (z_sorted c) hr.units ((x_var (i := 0) rfl).is ?hs) ?l2)) (XN.toD (xn_listRg1 (z_list c) (z_range c) (x_var (i := 1) rfl) ?h0 ?h1)) (rd_eqR ?e1 ?e2)))), .inl rfl⟩
  case lc => exact lc_map (fun x : Nat => .int x) (fun x : Nat => .bl (decide ((0 : Int) ≤ (x : Int)) && decide ((x : Int) ≤ (n : Int) - 1))) (fun x : Nat => (wipeR (rho0 N_is_state [.tup (nt s), .int n]) [2]).set 2 (some (.im (.int x)))) s fun x hx => ⟨tg_name, tsB_nil, eB fun _ _ _ _ _ => x_call (c_is_whole c _ _ _) hr (xa_cons (x_var (i := 2) rfl) (xa_cons x_int (xa_cons (x_bin op_sub (x_var (i := 1) rfl) x_int rd_I0) xa_nil)))⟩
  case l1 => rw [nt_len]; omega
  case hk =>
    have e1 : s.all (fun x => decide ((0 : Int) ≤ (x : Int)) && decide ((x : Int) ≤ (n : Int) - 1)) = true := by
      rw [List.all_eq_true]
      intro x hx
      have := h.lt hx
      simp; omega
    rw [e1, nt_len, hl]
    simp [Dt.v]
  case hs => rw [nt_map]
  case l2 => rw [List.length_map]; omega
  case h0 => omega
  case h1 => omega
  case e1 =>
    congr 1
    rw [h.srt, rgD_nt, nt_map]
    rfl
  case e2 =>
    simp only [Dt.sh]
    exact shL_ints _ _
theorem c_check_state (c : Fx w K mg) {n : Nat} {s : List Nat} (h : Pm n s) : Cl P w K mg base 3 "check_state" (spD K [.tup (nt s), .int n] .non) := by
  refine to_check_state c fun f fd F => def_ok F sc_check_state rfl fun cdv A outer s' H E hr => ⟨_, s_one (s_ifF (xt_not (xt_val (x_call (c_is_state c h) hr (xa_cons (x_var (i := 0) rfl) (xa_cons (x_var (i := 1) rfl) xa_nil))))) rfl s_nil), .inr ⟨rfl, _, rfl⟩⟩
/-- found[number] = level, for each in turn -/
theorem lev_for {X : Cx} {g : TG} {vs : List Nat} {sts : List Stmt} (r : List Nat → Rho) (hb : ∀ (a k : Nat) (f : List Nat), a < f.length → ∃ ρ1, TgD X.K g vs (.tup [.int (k : Int), .int (a : Int)]) (r f) ρ1 ∧ BsD X.K (wpSs X sts) ρ1 (.nx (r (f.set a k)))) :
    ∀ (s f : List Nat) (k : Nat), (∀ a ∈ s, a < f.length) → ForD X.K g vs (wpSs X sts) ((s.zipIdx k).map fun p => .tup [.int (p.2 : Int), .int (p.1 : Int)]) (r f) (.nx (r (levS f s k)))
  | [], _, _, _ => rfl
  | a :: s, f, k, h => by
    obtain ⟨ρ1, h1, h2⟩ := hb a k f (h a List.mem_cons_self)
    exact for_cons h1 h2 (lev_for r hb s (f.set a k) (k + 1) fun b hb' => by rw [List.length_set]; exact h b (List.mem_cons_of_mem _ hb'))
theorem enD_nt (s : List Nat) : enD (nt s) = (s.zipIdx 0).map fun p => .tup [.int (p.2 : Int), .int (p.1 : Int)] := by
  unfold enD nt
  rw [List.zipIdx_map, List.map_map]
  rfl
theorem rep_nt (n : Nat) : (List.replicate ((n : Int)).toNat [Dt.int 0]).flatten = nt (List.replicate n 0) := by
  rw [Int.toNat_natCast]
  unfold nt
  induction n with
  | zero => rfl
  | succ n ih => rw [List.replicate_succ, List.flatten_cons, ih, List.replicate_succ, List.map_cons]; rfl
theorem nt_set (l : List Nat) (a k : Nat) : (nt l).set a (.int (k : Int)) = nt (l.set a k) := by unfold nt; rw [List.map_set]
theorem ixN_nat {n j : Nat} (hj : j < n) : ixN n (j : Int) = some j := by
  unfold ixN
  rw [if_pos (by omega), if_pos (by omega)]
  simp
theorem c_levels (c : Fx w K mg) {n : Nat} {s : List Nat} (h : Pm n s) : Cl P w K mg base 1 "levels" (spN K [.tup (nt s)] (nt (lev s))) := by
  have hn : n ≤ 6 := h.le
  have hl := h.len
  refine to_levels c fun f fd F => def_okN F sc_levels rfl fun cdv A outer s' H E hr => s_cons (s_setN (i := 1) sc_levels.nd ((xn_repL (XN.toD (xn_lst (xa_cons x_int xa_nil))) (x_lenT (z_len c) (x_var (i := 0) rfl)) ?a1 ?a2 (by decide)).is (ds2 := nt (List.replicate s.length 0)) ?a3)) (s_cons (ρ1 := [some (.im (.tup (nt s))), some (.mu (nt (lev s))), none, none])
    (s_for (xi_enumT (z_enumerate c) (x_var (i := 0) rfl)) (pg_tup rfl (pgs_cons (pg_name (i := 2) sc_levels.nd rfl (Or.inl rfl)) (pgs_cons (pg_name (i := 3) sc_levels.nd rfl (Or.inl rfl)) pgs_nil))) (vs := [2, 3]) ?l)
      (s_one (s_retM (i := 1) rfl)))
  case a3 => rw [nt_len]; exact rep_nt _
  case a1 => omega
  case a2 => rw [nt_len]; omega
  case l =>
    rw [enD_nt]
    refine lev_for (fun f => [some (.im (.tup (nt s))), some (.mu (nt f)), none, none]) ?_ s (List.replicate s.length 0) 0 fun a ha => by rw [List.length_replicate, hl]; exact h.lt ha
    exact fun a k f hf => ⟨_, tg_tup rfl (tgs_cons tg_name (tgs_cons tg_name tgs_nil)),
      b_fg (s_one (s_item (i := 1) rfl (x_var (i := 2) rfl) (x_var (i := 3) rfl) (ixN_nat (by rw [nt_len]; exact hf)))) ⟨.inr rfl, .inr (by rw [← nt_set]), .inl rfl, .inl rfl, trivial⟩⟩
theorem c_u_cut (c : Fx w K mg) {n : Nat} {told lv : List Nat} (k : Nat) (hn : n ≤ 6) (hl : lv.length = n) (hk : k + 1 < n) : Cl P w K mg base 3 "_cut" (spD K [strD K n told, .lst (nt lv), .int k] .non) := by
  have g1 : lv[k]? = some (lv.getD k 0) := getD_get (by omega)
  have g2 : lv[k + 1]? = some (lv.getD (k + 1) 0) := getD_get (by omega)
  refine to_u_cut c fun f fd F => def_ok F sc_u_cut rfl fun cdv A outer s' H E hr => ⟨_, s_cons (s_set (i := 3) sc_u_cut.nd (x_ixT (x_call (c_places c n told (by omega)) hr (xa_cons (x_var (i := 0) rfl) xa_nil)) (x_bin op_add (x_var (i := 2) rfl) x_int rd_I0) (at_nt1 (par_get (by omega)))))
    (s_cons (s_set (i := 4) sc_u_cut.nd (x_min2 (z_min c) (xa_cons (x_ixR (XE.toR (x_var (i := 1) rfl)) (x_var (i := 2) rfl) (at_nt g1)) (xa_cons (x_ixR (XE.toR (x_var (i := 1) rfl)) (x_bin op_add (x_var (i := 2) rfl) x_int rd_I0) (at_nt1 g2)) xa_nil))))
    (s_cons (s_set (i := 5) sc_u_cut.nd (x_max2 (z_max c) (xa_cons (x_ixR (XE.toR (x_var (i := 1) rfl)) (x_var (i := 2) rfl) (at_nt g1)) (xa_cons (x_ixR (XE.toR (x_var (i := 1) rfl)) (x_bin op_add (x_var (i := 2) rfl) x_int rd_I0) (at_nt1 g2)) xa_nil))))
    (s_consK (s_for (xi_range1 (z_range c) (x_fld (cl_Strip c) (na_Strip_size c) (x_var (i := 0) rfl) rfl) ?r1 ?r2) (pg_name (i := 6) sc_u_cut.nd rfl (Or.inl rfl)) (vs := [6]) ?l)
      (s_one (s_ret x_non))))), .inl rfl⟩
  case r1 => omega
  case r2 => omega
  case l =>
    refine for_all _ _ fun d hd => ?_
    rw [rgD_nt, Int.toNat_natCast] at hd
    unfold nt at hd
    obtain ⟨j, hj, rfl⟩ := List.mem_map.mp hd
    have hj : j < n := List.mem_range.mp hj
    refine ⟨_, tg_name, b_fg (s_cons (s_asg (vs := [7, 8]) (x_call (c_ends c n told j (by omega) hj) hr (xa_cons (x_var (i := 0) rfl) (xa_cons (x_var (i := 6) rfl) xa_nil))) (pg_tup rfl (pgs_cons (pg_name (i := 7) sc_u_cut.nd rfl (Or.inl rfl)) (pgs_cons (pg_name (i := 8) sc_u_cut.nd rfl (Or.inl rfl)) pgs_nil))) (tg_tup rfl (tgs_cons tg_name (tgs_cons tg_name tgs_nil))))
      (s_one (s_ifF (xt_w (xw_and (xt_chain op_lt op_lt (x_var (i := 4) rfl) (x_ixR (XE.toR (x_var (i := 1) rfl)) (x_var (i := 6) rfl) (at_nt (getD_get (by omega)))) rd_B0 (fun _ => (x_var (i := 5) rfl)) fun _ => rd_B0) fun _ => xw_and1 (xt_chain op_lt op_lt (x_var (i := 7) rfl) (x_var (i := 3) rfl) rd_B0 (fun _ => (x_var (i := 8) rfl)) fun _ => rd_B0))) ?hk s_nil)))
      ⟨.inr rfl, .inr rfl, .inr rfl, .inr rfl, .inr rfl, .inr rfl, .inl rfl, .inl rfl, .inl rfl, trivial⟩⟩
    have e1 : (decide ((0 : Int) < ((k + 1) % 2 : Nat)) && decide ((((k + 1) % 2 : Nat) : Int) < 1)) = false := by
      rw [Bool.and_eq_false_iff]
      rcases (by omega : (k + 1) % 2 = 0 ∨ (k + 1) % 2 = 1) with z | z <;> rw [z] <;> decide
    rw [e1, Bool.and_false]
theorem c_cross_states (c : Fx w K mg) {n : Nat} {told lv : List Nat} (k g : Nat) (hn : n ≤ 6) (hl : lv.length = n) (hk : k + 1 < n) (hg : g + 1 < n) : Cl P w K mg base 2 "cross_states" (spD K [strD K n told, .lst (nt lv), .int k, .int g] (.bl (crossS lv k g))) := by
  have g1 : lv[k]? = some (lv.getD k 0) := getD_get (by omega)
  have g2 : lv[k + 1]? = some (lv.getD (k + 1) 0) := getD_get (by omega)
  have g3 : lv[g]? = some (lv.getD g 0) := getD_get (by omega)
  have g4 : lv[g + 1]? = some (lv.getD (g + 1) 0) := getD_get (by omega)
  have e0 : decide (Dt.v (.int (((k + 1) % 2 : Nat) : Int)) = Dt.v (.int (((g + 1) % 2 : Nat) : Int))) = decide ((k + 1) % 2 = (g + 1) % 2) := decide_eq_decide.mpr ⟨fun q => by have q' : (((k + 1) % 2 : Nat) : Int) = (((g + 1) % 2 : Nat) : Int) := V.int.inj q; omega, fun q => by rw [q]⟩
  have e1 : decide (Dt.v (.int (((k : Int) - (g : Int)) % 2)) = Dt.v (.int 0)) = decide ((k + 1) % 2 = (g + 1) % 2) := decide_eq_decide.mpr ⟨fun q => by have q' : ((k : Int) - (g : Int)) % 2 = 0 := V.int.inj q; omega, fun q => congrArg V.int (show ((k : Int) - (g : Int)) % 2 = 0 by omega)⟩
  refine to_cross_states c fun f fd F => def_ok F sc_cross_states rfl fun cdv A outer s' H E hr => ⟨_, s_cons (s_set (i := 4) sc_cross_states.nd (x_call (c_places c n told (by omega)) hr (xa_cons (x_var (i := 0) rfl) xa_nil)))
    (s_ifR (o := .rt (.bl (crossS lv k g))) (xt_w (xw_or (xt_cmp op_ne (nomark _) (x_ixT (x_var (i := 4) rfl) (x_bin op_add (x_var (i := 2) rfl) x_int rd_I0) (at_nt1 (par_get (by omega)))) (x_ixT (x_var (i := 4) rfl) (x_bin op_add (x_var (i := 3) rfl) x_int rd_I0) (at_nt1 (par_get (by omega)))) (rd_ne rfl rfl rfl)) fun _ => xw_or1 (xt_cmp op_ne (nomark _) (x_bin op_mod (x_bin op_sub (x_var (i := 2) rfl) (x_var (i := 3) rfl) rd_I0) x_int (rd_I (by decide))) x_int (rd_ne rfl rfl rfl))))
      (fun h => s_one (s_ret (x_bl.is ?b1))) rfl
      (fun h => s_cons (s_asg (vs := [5, 6]) (XN.toD ((xn_sortedL (ns := [(lv.getD k 0 : Int), (lv.getD (k + 1) 0 : Int)]) (z_sorted c) (XN.toD (xn_lst (xa_cons (x_ixR (XE.toR (x_var (i := 1) rfl)) (x_var (i := 2) rfl) (at_nt g1)) (xa_cons (x_ixR (XE.toR (x_var (i := 1) rfl)) (x_bin op_add (x_var (i := 2) rfl) x_int rd_I0) (at_nt1 g2)) xa_nil)))) (by exact Nat.le_of_ble_eq_true rfl)).is (ds2 := [.int ((min (lv.getD k 0) (lv.getD (k + 1) 0) : Nat) : Int), .int ((max (lv.getD k 0) (lv.getD (k + 1) 0) : Nat) : Int)]) ?b2)) (pg_unl rfl (pgs_cons (pg_name (i := 5) sc_cross_states.nd rfl (Or.inl rfl)) (pgs_cons (pg_name (i := 6) sc_cross_states.nd rfl (Or.inl rfl)) pgs_nil))) (tg_unl rfl (tgs_cons tg_name (tgs_cons tg_name tgs_nil))))
        (s_one (s_ret ((x_cmp op_ne (nomark _) (x_chain op_lt op_lt (x_var (i := 5) rfl) (x_ixR (XE.toR (x_var (i := 1) rfl)) (x_var (i := 3) rfl) (at_nt g3)) rd_B0 (fun _ => (x_var (i := 6) rfl)) fun _ => rd_B0) (x_chain op_lt op_lt (x_var (i := 5) rfl) (x_ixR (XE.toR (x_var (i := 1) rfl)) (x_bin op_add (x_var (i := 3) rfl) x_int rd_I0) (at_nt1 g4)) rd_B0 (fun _ => (x_var (i := 6) rfl)) fun _ => rd_B0) (rd_ne rfl rfl rfl)).is ?b3))))), .inl rfl⟩
  case b1 =>
    rw [e0, e1] at h
    have hp : ¬ (k + 1) % 2 = (g + 1) % 2 := by simpa using h
    unfold crossS
    rw [if_pos hp]
  case b2 =>
    rw [srt2]
    split
    · rename_i q
      rw [Nat.min_eq_right (by omega), Nat.max_eq_left (by omega)]; rfl
    · rename_i q
      rw [Nat.min_eq_left (by omega), Nat.max_eq_right (by omega)]; rfl
  case b3 =>
    rw [e0, e1] at h
    have hp : (k + 1) % 2 = (g + 1) % 2 := by simpa using h
    unfold crossS
    rw [if_neg (by simpa using hp)]
    have ci : ∀ a b : Nat, decide ((a : Int) < (b : Int)) = decide (a < b) := fun a b => decide_eq_decide.mpr (by omega)
    simp only [ci, Dt.v]
    congr 1
    have cb : ∀ x y : Bool, (!decide (V.bl x = V.bl y)) = (x != y) := by decide
    exact cb _ _
end
end K82
/-! ## part W2 -/
/-! Walks: strips and their states, further. -/
namespace K82
open PySem PySem.Spec PyProof.Rows L2
section
variable {P : Program} {w : World} {K : PySem.W.Frag} {mg : Str → Option Value} {base : Heap}
theorem c_state_fault (c : Fx w K mg) {n : Nat} {told s : List Nat} (h : Pm n s) : Cl P w K mg base 4 "state_fault" (spD K [strD K n told, .tup (nt s)] (optD pairD (faultS (lev s) n))) := by
  have hn : n ≤ 6 := h.le
  have hp : 1 ≤ n := h.pos
  have hl := h.len
  have hlv : (lev s).length = n := by rw [lev_length, hl]
  have e0 : ((n : Int) - 1).toNat = n - 1 := by omega
  refine to_state_fault c fun f fd F => def_ok F sc_state_fault rfl fun cdv A outer s' H E hr => ⟨_, s_cons (s_ifF (xt_not (xt_val (x_call (c_is_state c h) hr (xa_cons (x_var (i := 1) rfl) (xa_cons (x_fld (cl_Strip c) (na_Strip_size c) (x_var (i := 0) rfl) rfl) xa_nil))))) rfl s_nil)
    (s_cons (s_set (i := 2) sc_state_fault.nd (XN.toD (xn_call (c_levels c h) hr (xa_cons (x_var (i := 1) rfl) xa_nil))))
    (s_consK (s_for (xi_range1 (z_range c) (x_bin op_sub (x_fld (cl_Strip c) (na_Strip_size c) (x_var (i := 0) rfl) rfl) x_int rd_I0) ?r1 ?r2) (pg_name (i := 3) sc_state_fault.nd rfl (Or.inl rfl)) (vs := [3]) ?l1)
    (s_forQ (q := faultS (lev s) n) (v := pairD) (ρ1 := [some (.im (strD K n told)), some (.im (.tup (nt s))), some (.im (.lst (nt (lev s)))), none, none, none, none]) (xi_range1 (z_range c) (x_bin op_sub (x_fld (cl_Strip c) (na_Strip_size c) (x_var (i := 0) rfl) rfl) x_int rd_I0) ?r3 ?r4) (pg_name (i := 4) sc_state_fault.nd rfl (Or.inl rfl)) (vs := [4]) ?l2
      (fun q => s_one (s_ret (x_non.is ?f1))) ?f2))), .inl rfl⟩
  case r1 => omega
  case r2 => omega
  case r3 => omega
  case r4 => omega
  case f1 => rw [q]; rfl
  case f2 => intro a q; rw [q]; rfl
  case l1 =>
    refine for_all _ _ fun d hd => ?_
    rw [rgD_nt] at hd
    unfold nt at hd
    obtain ⟨j, hj, rfl⟩ := List.mem_map.mp hd
    have hj : j < ((n : Int) - 1).toNat := List.mem_range.mp hj
    exact ⟨_, tg_name, b_fg (s_cons (s_set (i := 5) sc_state_fault.nd (x_call (c_u_cut c j hn hlv (by omega)) hr (xa_cons (x_var (i := 0) rfl) (xa_cons (x_var (i := 2) rfl) (xa_cons (x_var (i := 3) rfl) xa_nil)))))
      (s_one (s_ifF (xt_notN (x_var (i := 5) rfl)) rfl s_nil))) ⟨.inr rfl, .inr rfl, .inr rfl, .inl rfl, .inr rfl, .inl rfl, .inr rfl, trivial⟩⟩
  case l2 =>
    rw [rgD_nt, e0]
    refine for_firstN pairD _ _ _ fun a ha => ?_
    have ha : a < n - 1 := List.mem_range.mp ha
    have e1 : ((n : Int) - 1 - ((a : Int) + 1)).toNat = n - 1 - (a + 1) := by omega
    refine ⟨_, tg_name, b_fgF (ρ1 := [some (.im (strD K n told)), some (.im (.tup (nt s))), some (.im (.lst (nt (lev s)))), none, some (.im (.int (a : Int))), none, none]) (s_one (s_for (xi_range2 (z_range c) (x_bin op_add (x_var (i := 4) rfl) x_int rd_I0) (x_bin op_sub (x_fld (cl_Strip c) (na_Strip_size c) (x_var (i := 0) rfl) rfl) x_int rd_I0) ?b1) (pg_name (i := 6) sc_state_fault.nd rfl (Or.inl rfl)) (vs := [6]) ?i1)) ⟨.inr rfl, .inr rfl, .inr rfl, .inr rfl, .inl rfl, .inr rfl, .inr rfl, trivial⟩⟩
    case b1 => omega
    case i1 =>
      rw [e1]
      unfold rgD
      refine for_first (fun (i : Nat) => Dt.int ((a : Int) + 1 + (i : Int))) pairD _ _ _ fun i hi => ?_
      have hi : i < n - 1 - (a + 1) := List.mem_range.mp hi
      have cast : ((a : Int) + 1 + (i : Int)) = ((a + 1 + i : Nat) : Int) := by omega
      rw [cast]
      exact ⟨_, tg_name, b_fgF (s_ifO (v := pairD) (x := (a, a + 1 + i)) (xt_val (x_call (c_cross_states c a (a + 1 + i) hn hlv (by omega) (by omega)) hr (xa_cons (x_var (i := 0) rfl) (xa_cons (x_var (i := 2) rfl) (xa_cons (x_var (i := 4) rfl) (xa_cons (x_var (i := 6) rfl) xa_nil)))))) fun _ => x_tup (xa_cons x_str (xa_cons (x_var (i := 4) rfl) (xa_cons (x_var (i := 6) rfl) xa_nil)))) ⟨.inr rfl, .inr rfl, .inr rfl, .inr rfl, .inr rfl, .inr rfl, .inl rfl, trivial⟩⟩
theorem c_u_showing (c : Fx w K mg) {n : Nat} {lv : List Nat} (k : Nat) (hn : n ≤ 6) (hl : lv.length = n) (hk : k + 1 < n) : Cl P w K mg base 1 "_showing" (spD K [.lst (nt lv), .int k] (.str (ltr (showS lv k)))) := by
  have g1 : lv[k]? = some (lv.getD k 0) := getD_get (by omega)
  have g2 : lv[k + 1]? = some (lv.getD (k + 1) 0) := getD_get (by omega)
  have ek : decide (Dt.v (.int ((k : Int) % 2)) = Dt.v (.int 1)) = decide (k % 2 = 1) := decide_eq_decide.mpr ⟨fun q => by have q' : (k : Int) % 2 = 1 := V.int.inj q; omega, fun q => congrArg V.int (by omega)⟩
  refine to_u_showing c fun f fd F => def_ok F sc_u_showing rfl fun cdv A outer s' H E hr => ⟨_, s_cons (s_set (i := 2) sc_u_showing.nd (x_ifI (xt_cmp op_eq (nomark _) (x_bin op_mod (x_var (i := 1) rfl) x_int (rd_I (by decide))) x_int (rd_eq rfl rfl rfl)) (fun h => (x_var (i := 1) rfl)) (fun h => (x_bin op_add (x_var (i := 1) rfl) x_int rd_I0))))
    (s_cons (s_set (i := 3) sc_u_showing.nd (x_ifI (xt_cmp op_eq (nomark _) (x_bin op_mod (x_var (i := 1) rfl) x_int (rd_I (by decide))) x_int (rd_eq rfl rfl rfl)) (fun h => (x_bin op_add (x_var (i := 1) rfl) x_int rd_I0)) (fun h => (x_var (i := 1) rfl))))
    (s_one (s_ret ((x_ifS (xt_cmp op_gt (nomark _) (x_ixR (d := .int ((if k % 2 = 1 then lv.getD k 0 else lv.getD (k + 1) 0 : Nat) : Int)) (XE.toR (x_var (i := 0) rfl)) (x_var (i := 2) rfl) ?a1) (x_ixR (d := .int ((if k % 2 = 1 then lv.getD (k + 1) 0 else lv.getD k 0 : Nat) : Int)) (XE.toR (x_var (i := 0) rfl)) (x_var (i := 3) rfl) ?a2) rd_B0) (fun h => (x_gstr (v_VALLEY c))) (fun h => (x_gstr (v_MOUNTAIN c)))).is ?f)))), .inl rfl⟩
  case a1 =>
    rw [ek]
    by_cases h : k % 2 = 1
    · rw [decide_eq_true h, if_pos h]; exact at_nt g1
    · rw [decide_eq_false h, if_neg h]; exact at_nt1 g2
  case a2 =>
    rw [ek]
    by_cases h : k % 2 = 1
    · rw [decide_eq_true h, if_pos h]; exact at_nt1 g2
    · rw [decide_eq_false h, if_neg h]; exact at_nt g1
  case f =>
    congr 1
    unfold showS
    have ci : ∀ a b : Nat, decide ((a : Int) < (b : Int)) = decide (a < b) := fun a b => decide_eq_decide.mpr (by omega)
    rw [ci]
    by_cases h : k % 2 = 1
    · rw [if_pos h, if_pos h, if_pos h]
      cases decide (lv.getD (k + 1) 0 < lv.getD k 0) <;> rfl
    · rw [if_neg h, if_neg h, if_neg h]
      cases decide (lv.getD k 0 < lv.getD (k + 1) 0) <;> rfl
theorem c_shown (c : Fx w K mg) {n : Nat} {told s : List Nat} (h : Pm n s) : Cl P w K mg base 4 "shown" (spD K [strD K n told, .tup (nt s)] (.tup (ls (shownS (lev s) n)))) := by
  have hn : n ≤ 6 := h.le
  have hp : 1 ≤ n := h.pos
  have hl := h.len
  have hlv : (lev s).length = n := by rw [lev_length, hl]
  have e0 : ((n : Int) - 1).toNat = n - 1 := by omega
  refine to_shown c fun f fd F => def_ok F sc_shown rfl fun cdv A outer s' H E hr => ⟨_, s_cons (s_expr (x_call (c_check_state c h) hr (xa_cons (x_var (i := 1) rfl) (xa_cons (x_fld (cl_Strip c) (na_Strip_size c) (x_var (i := 0) rfl) rfl) xa_nil))))
    (s_cons (s_set (i := 2) sc_shown.nd (XN.toD (xn_call (c_levels c h) hr (xa_cons (x_var (i := 1) rfl) xa_nil))))
    (s_one (s_ret (x_tupOf (z_tuple c) (XN.toR (xn_lc (own := [("crease", 3)]) sc_shown.nd (xi_range1 (z_range c) (x_bin op_sub (x_fld (cl_Strip c) (na_Strip_size c) (x_var (i := 0) rfl) rfl) x_int rd_I0) ?r1 ?r2) ?l1 (blkOk_by (N := N_shown) (sc := defScope s_shown) (by decide +kernel)) (fun _ _ _ _ _ => pg_name (i := 3) sc_shown.nd rfl (Or.inl rfl)) ?lc)))))), .inl rfl⟩
  case r1 => omega
  case r2 => omega
  case l1 => rw [rgD_length]; omega
  case lc =>
    rw [rgD_nt, e0]
    unfold shownS ls
    rw [List.map_map]
    exact lc_map (fun x : Nat => .int x) (fun x : Nat => .str (ltr (showS (lev s) x))) (fun x : Nat => (wipeR [some (.im (strD K n told)), some (.im (.tup (nt s))), some (.im (.lst (nt (lev s)))), none] [3]).set 3 (some (.im (.int x)))) (List.range (n - 1)) fun x hx =>
      ⟨tg_name, tsB_nil, eB fun _ _ _ _ _ => x_call (c_u_showing c x hn hlv (by have := List.mem_range.mp hx; omega)) hr (xa_cons (x_var (i := 2) rfl) (xa_cons (x_var (i := 3) rfl) xa_nil))⟩
theorem in_ltr : ∀ t < 3, ∀ s < 3, inV (Dt.v (.str (ltr t))) [Dt.v (.str "?"), Dt.v (.str (ltr s))] = (t == 2 || t == s) := by decide +kernel
theorem showS_lt (lv : List Nat) (k : Nat) : showS lv k < 2 := by unfold showS; split <;> split <;> omega
theorem c_keeps_fault (c : Fx w K mg) {n : Nat} {told s : List Nat} (h : Pm n s) (ht : Td n told) : Cl P w K mg base 5 "keeps_fault" (spD K [strD K n told, .tup (nt s)] (keepS told (lev s) n)) := by
  have hn : n ≤ 6 := h.le
  have hp : 1 ≤ n := h.pos
  have hl := h.len
  have hsl : (shownS (lev s) n).length = n - 1 := by unfold shownS; rw [List.length_map, List.length_range]
  refine to_keeps_fault c fun f fd F => def_ok F sc_keeps_fault rfl fun cdv A outer s' H E hr => ⟨_, s_cons (s_set (i := 2) sc_keeps_fault.nd (x_call (c_state_fault c h) hr (xa_cons (x_var (i := 0) rfl) (xa_cons (x_var (i := 1) rfl) xa_nil))))
    (s_ifR (o := .rt (keepS told (lev s) n)) (xt_notN (x_var (i := 2) rfl)) (fun q => s_one (s_ret ((x_var (i := 2) rfl).is ?f1))) rfl
      (fun q => s_forQ (q := badS told (shownS (lev s) n)) (v := bendD) (ρ1 := [some (.im (strD K n told)), some (.im (.tup (nt s))), some (.im (optD pairD (faultS (lev s) n))), none, none, none])
        (xi_enumZip (z_enumerate c) (z_zip c) (x_fld (cl_Strip c) (na_Strip_creases c) (x_var (i := 0) rfl) rfl) (x_call (c_shown c h) hr (xa_cons (x_var (i := 0) rfl) (xa_cons (x_var (i := 1) rfl) xa_nil))) ?hl)
        (pg_tup rfl (pgs_cons (pg_name (i := 3) sc_keeps_fault.nd rfl (Or.inl rfl)) (pgs_cons (pg_tup rfl (pgs_cons (pg_name (i := 4) sc_keeps_fault.nd rfl (Or.inl rfl)) (pgs_cons (pg_name (i := 5) sc_keeps_fault.nd rfl (Or.inl rfl)) pgs_nil))) pgs_nil))) (vs := [3, 4, 5]) ?l
        (fun q2 => s_one (s_ret (x_non.is ?f2))) ?f3)), .inl rfl⟩
  case f1 => 
    unfold keepS
    cases e : faultS (lev s) n with
    | none => rw [e] at q; cases q
    | some p => rfl
  case f2 =>
    unfold keepS
    cases e : faultS (lev s) n with
    | none => simp only [q2]; rfl
    | some p => rw [e] at q; cases q
  case f3 =>
    intro k q2
    unfold keepS
    cases e : faultS (lev s) n with
    | none => simp only [q2]; rfl
    | some p => rw [e] at q; cases q
  case hl => rw [ls_len, ls_len, ht.len, hsl]
  case l =>
    have e1 : (((ls told).zip (ls (shownS (lev s) n))).zipIdx.map fun p => Dt.tup [.int (p.2 : Int), .tup [p.1.1, p.1.2]]) = (told.zip (shownS (lev s) n)).zipIdx.map fun p => Dt.tup [.int (p.2 : Int), .tup [.str (ltr p.1.1), .str (ltr p.1.2)]] := by
      unfold ls
      rw [List.zip_map, List.zipIdx_map, List.map_map]
      rfl
    rw [e1]
    refine for_first (fun p : (Nat × Nat) × Nat => Dt.tup [.int (p.2 : Int), .tup [.str (ltr p.1.1), .str (ltr p.1.2)]]) bendD (fun p : (Nat × Nat) × Nat => if (p.1.1 == 2 || p.1.1 == p.1.2) then none else some p.2) _ _ fun p hp' => ?_
    obtain ⟨⟨t, sh⟩, i⟩ := p
    have hm : (t, sh) ∈ told.zip (shownS (lev s) n) := by
      have h1 := (List.mem_zipIdx hp').2.2
      rw [h1]; exact List.getElem_mem _
    have h1 : t < 3 := ht.lt t (List.of_mem_zip hm).1
    have h2 : sh < 3 := by
      obtain ⟨k, _, e⟩ := List.mem_map.mp (List.of_mem_zip hm).2
      have := showS_lt (lev s) k
      omega
    refine ⟨_, tg_tup rfl (tgs_cons tg_name (tgs_cons (tg_tup rfl (tgs_cons tg_name (tgs_cons tg_name tgs_nil))) tgs_nil)), ?_⟩
    exact b_fgF (ρ1 := [some (.im (strD K n told)), some (.im (.tup (nt s))), some (.im (optD pairD (faultS (lev s) n))), some (.im (.int (i : Int))), some (.im (.str (ltr t))), some (.im (.str (ltr sh)))]) (s_ifN (v := bendD) (x := i)
      ((xt_cmp op_notIn_seq rfl (x_var (i := 4) rfl) (x_tup (xa_cons (x_gstr (v_OPEN c)) (xa_cons (x_var (i := 5) rfl) xa_nil))) (rd_inT (neg := true) rfl rfl)).is (k2 := !(t == 2 || t == sh)) (congrArg (! ·) (in_ltr t h1 sh h2))) fun _ => x_tup (xa_cons x_str (xa_cons (x_var (i := 3) rfl) xa_nil))) ⟨.inr rfl, .inr rfl, .inr rfl, .inl rfl, .inl rfl, .inl rfl, trivial⟩
end
end K82
/-! ## part W3 -/
/-! Walks: strips and maps are made; the creases of a map. -/
namespace K82
open PySem PySem.Spec PyProof.Rows L2
def side (ax : Bool) (k : Nat) : Str := if ax then (if k % 2 = 0 then "E" else "W") else (if k % 2 = 0 then "S" else "N")
def crD (ax : Bool) (told : List Nat) (k : Nat) : Dt := .tup [.int (k : Int), .int ((k : Int) + 1), .str (side ax k), .str (ltr (told.getD k 0))]
def crsD (ax : Bool) (told : List Nat) (m : Nat) : List Dt := (List.range m).map (crD ax told)
theorem in_mvo : ∀ t < 3, inV (Dt.v (.str (ltr t))) [Dt.v (.str "M"), Dt.v (.str "V"), Dt.v (.str "?")] = true := by decide +kernel
section
variable {P : Program} {w : World} {K : PySem.W.Frag} {mg : Str → Option Value} {base : Heap}
theorem c_Strip_init (c : Fx w K mg) {n : Nat} {told : List Nat} (ht : Td n told) : Mk' P w K mg base 2 "Strip" (C_Strip K) (spI K (C_Strip K) [.tup (nt (List.replicate n 1)), .tup (ls told)] [("lengths", .tup (nt (List.replicate n 1))), ("creases", .tup (ls told)), ("size", .int n)]) := by
  have hn : n ≤ 6 := ht.le
  have hp : 1 ≤ n := ht.pos
  refine to_Strip_init c fun f fd F => def_okI F sc_Strip_init rfl fun p dx cdv A outer s' H E hr => ⟨_, s_cons (s_ifF (xt_w (xw_or (xt_not (xt_val (x_isi (z_isinstance c) (z_tuple c) b_tuple (x_var (i := 1) rfl) rfl k_tup_tup))) fun _ => xw_or1 (xt_not (xt_chain op_le op_le x_int (x_lenT (z_len c) (x_var (i := 1) rfl)) rd_B0 (fun _ => (x_gint (v_MOST_SEGMENTS c))) fun _ => rd_B0)))) ?k1 s_nil)
    (s_cons (s_ifF (xt_not (xt_val (x_allM (xs := List.replicate n 1) (q := fun x : Nat => decide ((1 : Int) ≤ (x : Int)) && decide ((x : Int) ≤ 1000)) (z_all c) (XN.toR (xn_lc (own := [("length", 3)]) sc_Strip_init.nd (xi_tup (x_var (i := 1) rfl)) ?l1 (blkOk_by (N := N_Strip_init) (sc := defScope s_Strip_init) (by decide +kernel)) (fun _ _ _ _ _ => pg_name (i := 3) sc_Strip_init.nd rfl (Or.inl rfl)) ?lc1))))) ?k2 s_nil)
    (s_cons (s_ifF (xt_w (xw_or (xt_not (xt_val (x_isi (z_isinstance c) (z_tuple c) b_tuple (x_var (i := 2) rfl) rfl k_tup_tup))) fun _ => xw_or1 (xt_cmp op_ne (nomark _) (x_lenT (z_len c) (x_var (i := 2) rfl)) (x_bin op_sub (x_lenT (z_len c) (x_var (i := 1) rfl)) x_int rd_I0) (rd_ne rfl rfl rfl)))) ?k3 s_nil)
    (s_cons (s_ifF (xt_not (xt_val (x_allM (xs := told) (q := fun x => inV (Dt.v (.str (ltr x))) [Dt.v (.str "M"), Dt.v (.str "V"), Dt.v (.str "?")]) (z_all c) (XN.toR (xn_lc (own := [("crease", 4)]) sc_Strip_init.nd (xi_tup (x_var (i := 2) rfl)) ?l2 (blkOk_by (N := N_Strip_init) (sc := defScope s_Strip_init) (by decide +kernel)) (fun _ _ _ _ _ => pg_name (i := 4) sc_Strip_init.nd rfl (Or.inl rfl)) ?lc2))))) ?k4 s_nil)
    (s_cons (s_fldM (i := 0) (cl_Strip c) (na_Strip_lengths c) rfl (x_var (i := 1) rfl))
    (s_cons (s_fldM (i := 0) (cl_Strip c) (na_Strip_creases c) rfl (x_var (i := 2) rfl))
    (s_one (s_fldM (i := 0) (cl_Strip c) (na_Strip_size c) rfl (x_lenT (z_len c) (x_var (i := 1) rfl))))))))), ?fin⟩
  case k1 =>
    rw [nt_len, List.length_replicate]
    have h1 : decide ((1 : Int) ≤ (n : Int)) = true := decide_eq_true (by omega)
    have h2 : decide ((n : Int) ≤ 20) = true := decide_eq_true (by omega)
    rw [h1, h2]; rfl
  case l1 => rw [nt_len, List.length_replicate]; omega
  case l2 => rw [ls_len, ht.len]; omega
  case lc1 =>
            refine lc_map (fun x : Nat => .int x) (fun x : Nat => .bl (decide ((1 : Int) ≤ (x : Int)) && decide ((x : Int) ≤ 1000))) (fun x : Nat => (wipeR (rhoI N_Strip_init p dx (C_Strip K) [.tup (nt (List.replicate n 1)), .tup (ls told)]) [3]).set 3 (some (.im (.int x)))) (List.replicate n 1) fun x hx => ?_
            exact ⟨tg_name, tsB_nil, eB fun _ _ _ _ _ => x_call (c_is_whole c _ _ _) hr (xa_cons (x_var (i := 3) rfl) (xa_cons x_int (xa_cons (x_gint (v_MOST_LENGTH c)) xa_nil)))⟩
  case k2 =>
    rw [List.all_replicate]
    by_cases h0 : n = 0
    · omega
    · simp
  case k3 => rw [nt_len, List.length_replicate, ls_len, ht.len]; simp [Dt.v]; omega
  case lc2 =>
            refine lc_map (fun x : Nat => .str (ltr x)) (fun x : Nat => .bl (inV (Dt.v (.str (ltr x))) [Dt.v (.str "M"), Dt.v (.str "V"), Dt.v (.str "?")])) (fun x : Nat => (wipeR (rhoI N_Strip_init p dx (C_Strip K) [.tup (nt (List.replicate n 1)), .tup (ls told)]) [4]).set 4 (some (.im (.str (ltr x))))) told fun x hx => ?_
            exact ⟨tg_name, tsB_nil, eB fun _ _ _ _ _ => x_and (x_isi (z_isinstance c) (z_str c) b_str (x_var (i := 4) rfl) rfl k_str_str) fun _ => x_one (x_cmp op_in_seq rfl (x_var (i := 4) rfl) (x_tup (xa_cons (x_gstr (v_MOUNTAIN c)) (xa_cons (x_gstr (v_VALLEY c)) (xa_cons (x_gstr (v_OPEN c)) xa_nil)))) (rd_inT (neg := false) rfl rfl))⟩
  case k4 =>
    have e1 : told.all (fun x => inV (Dt.v (.str (ltr x))) [Dt.v (.str "M"), Dt.v (.str "V"), Dt.v (.str "?")]) = true := by
      rw [List.all_eq_true]
      exact fun x hx => in_mvo x (ht.lt x hx)
    rw [e1]; rfl
  case fin =>
    rw [nt_len, List.length_replicate]
    rfl
theorem c_u_are_creases (c : Fx w K mg) {t : List Nat} {m : Int} (hm : (t.length : Int) = m) (hs : t.length ≤ 100) (ht : ∀ x ∈ t, x < 3) : Cl P w K mg base 1 "_are_creases" (spD K [.tup (ls t), .int m] (.bl true)) := by
  have e1 : t.all (fun x => inV (Dt.v (.str (ltr x))) [Dt.v (.str "M"), Dt.v (.str "V"), Dt.v (.str "?")]) = true := by
    rw [List.all_eq_true]
    exact fun x hx => in_mvo x (ht x hx)
  refine to_u_are_creases c fun f fd F => def_ok F sc_u_are_creases rfl fun cdv A outer s' H E hr => ⟨_, s_cons (s_ifF (xt_w (xw_or (xt_not (xt_val (x_isi (z_isinstance c) (z_tuple c) b_tuple (x_var (i := 0) rfl) rfl k_tup_tup))) fun _ => xw_or1 (xt_cmp op_ne (nomark _) (x_lenT (z_len c) (x_var (i := 0) rfl)) (x_var (i := 1) rfl) (rd_ne rfl rfl rfl)))) ?k1 s_nil)
    (s_one (s_ret ((x_allM (xs := t) (q := fun x => inV (Dt.v (.str (ltr x))) [Dt.v (.str "M"), Dt.v (.str "V"), Dt.v (.str "?")]) (z_all c) (XN.toR (xn_lc (own := [("one", 2)]) sc_u_are_creases.nd (xi_tup (x_var (i := 0) rfl)) ?l1 (blkOk_by (N := N_u_are_creases) (sc := defScope s_u_are_creases) (by decide +kernel)) (fun _ _ _ _ _ => pg_name (i := 2) sc_u_are_creases.nd rfl (Or.inl rfl)) ?lc))).is (congrArg Dt.bl e1)))), .inl rfl⟩
  case k1 => rw [ls_len, hm]; simp
  case l1 => rw [ls_len]; omega
  case lc =>
            refine lc_map (fun x : Nat => .str (ltr x)) (fun x : Nat => .bl (inV (Dt.v (.str (ltr x))) [Dt.v (.str "M"), Dt.v (.str "V"), Dt.v (.str "?")])) (fun x : Nat => (wipeR (rho0 N_u_are_creases [.tup (ls t), .int m]) [2]).set 2 (some (.im (.str (ltr x))))) t fun x hx => ?_
            exact ⟨tg_name, tsB_nil, eB fun _ _ _ _ _ => x_and (x_isi (z_isinstance c) (z_str c) b_str (x_var (i := 2) rfl) rfl k_str_str) fun _ => x_one (x_cmp op_in_seq rfl (x_var (i := 2) rfl) (x_tup (xa_cons (x_gstr (v_MOUNTAIN c)) (xa_cons (x_gstr (v_VALLEY c)) (xa_cons (x_gstr (v_OPEN c)) xa_nil)))) (rd_inT (neg := false) rfl rfl))⟩
theorem c_Map_init (c : Fx w K mg) {r l : Nat} {ac dn : List (List Nat)} (hr1 : 1 ≤ r) (hr6 : r ≤ 6) (hl1 : 1 ≤ l) (hl6 : l ≤ 6) (ha : ac.length = r) (hd : dn.length = r - 1) (hac : ∀ t ∈ ac, t.length = l - 1 ∧ ∀ x ∈ t, x < 3) (hdn : ∀ t ∈ dn, t.length = l ∧ ∀ x ∈ t, x < 3) :
    Mk' P w K mg base 2 "Map" (C_Map K) (spI K (C_Map K) [.int r, .int l, .tup (rowsD ac), .tup (rowsD dn)] [("rows", .int r), ("columns", .int l), ("across", .tup (rowsD ac)), ("down", .tup (rowsD dn)), ("cells", .int ((r : Int) * (l : Int)))]) := by
  have hra : ∀ t, (rowsD t).length = t.length := fun t => List.length_map ..
  refine to_Map_init c fun f fd F => def_okI F sc_Map_init rfl fun p dx cdv A outer s' H E hr => ⟨_, s_cons (s_ifF (xt_w (xw_or (xt_not (xt_val (x_call (c_is_whole c _ _ _) hr (xa_cons (x_var (i := 1) rfl) (xa_cons x_int (xa_cons (x_gint (v_MOST_LINES c)) xa_nil)))))) fun _ => xw_or1 (xt_not (xt_val (x_call (c_is_whole c _ _ _) hr (xa_cons (x_var (i := 2) rfl) (xa_cons x_int (xa_cons (x_gint (v_MOST_LINES c)) xa_nil)))))))) ?k1 s_nil)
    (s_cons (s_ifF (xt_w (xw_or (xt_not (xt_val (x_isi (z_isinstance c) (z_tuple c) b_tuple (x_var (i := 3) rfl) rfl k_tup_tup))) fun _ => xw_or (xt_cmp op_ne (nomark _) (x_lenT (z_len c) (x_var (i := 3) rfl)) (x_var (i := 1) rfl) (rd_ne rfl rfl rfl)) fun _ => xw_or (xt_not (xt_val (x_isi (z_isinstance c) (z_tuple c) b_tuple (x_var (i := 4) rfl) rfl k_tup_tup))) fun _ => xw_or1 (xt_cmp op_ne (nomark _) (x_lenT (z_len c) (x_var (i := 4) rfl)) (x_bin op_sub (x_var (i := 1) rfl) x_int rd_I0) (rd_ne rfl rfl rfl)))) ?k2 s_nil)
    (s_cons (s_ifF (xt_not (xt_val (x_allM (xs := ac) (q := fun _ => true) (z_all c) (XN.toR (xn_lc (own := [("row", 5)]) sc_Map_init.nd (xi_tup (x_var (i := 3) rfl)) ?l1 (blkOk_by (N := N_Map_init) (sc := defScope s_Map_init) (by decide +kernel)) (fun _ _ _ _ _ => pg_name (i := 5) sc_Map_init.nd rfl (Or.inl rfl)) ?lc1))))) ?k3 s_nil)
    (s_cons (s_ifF (xt_not (xt_val (x_allM (xs := dn) (q := fun _ => true) (z_all c) (XN.toR (xn_lc (own := [("row", 5)]) sc_Map_init.nd (xi_tup (x_var (i := 4) rfl)) ?l2 (blkOk_by (N := N_Map_init) (sc := defScope s_Map_init) (by decide +kernel)) (fun _ _ _ _ _ => pg_name (i := 5) sc_Map_init.nd rfl (Or.inl rfl)) ?lc2))))) ?k4 s_nil)
    (s_cons (s_fldM (i := 0) (cl_Map c) (na_Map_rows c) rfl (x_var (i := 1) rfl))
    (s_cons (s_fldM (i := 0) (cl_Map c) (na_Map_columns c) rfl (x_var (i := 2) rfl))
    (s_cons (s_fldM (i := 0) (cl_Map c) (na_Map_across c) rfl (x_var (i := 3) rfl))
    (s_cons (s_fldM (i := 0) (cl_Map c) (na_Map_down c) rfl (x_var (i := 4) rfl))
    (s_one (s_fldM (i := 0) (cl_Map c) (na_Map_cells c) rfl (x_bin op_mul (x_var (i := 1) rfl) (x_var (i := 2) rfl) (rd_I ?cm))))))))))), rfl⟩
  case cm => exact .inl ⟨by omega, by omega⟩
  case k1 =>
    have h1 : decide ((1 : Int) ≤ (r : Int)) = true := decide_eq_true (by omega)
    have h2 : decide ((r : Int) ≤ 6) = true := decide_eq_true (by omega)
    have h3 : decide ((1 : Int) ≤ (l : Int)) = true := decide_eq_true (by omega)
    have h4 : decide ((l : Int) ≤ 6) = true := decide_eq_true (by omega)
    rw [h1, h2, h3, h4]; rfl
  case k2 => rw [hra, hra, ha, hd]; simp [Dt.v]; omega
  case l1 => rw [hra]; omega
  case l2 => rw [hra]; omega
  case lc1 =>
            refine lc_map (fun t : List Nat => .tup (ls t)) (fun _ => .bl true) (fun t : List Nat => (wipeR (rhoI N_Map_init p dx (C_Map K) [.int r, .int l, .tup (rowsD ac), .tup (rowsD dn)]) [5]).set 5 (some (.im (.tup (ls t))))) ac fun t hx => ?_
            exact ⟨tg_name, tsB_nil, eB fun _ _ _ _ _ => x_call (c_u_are_creases c (by have := (hac t hx).1; omega) (by have := (hac t hx).1; omega) (hac t hx).2) hr (xa_cons (x_var (i := 5) rfl) (xa_cons (x_bin op_sub (x_var (i := 2) rfl) x_int rd_I0) xa_nil))⟩
  case lc2 =>
            refine lc_map (fun t : List Nat => .tup (ls t)) (fun _ => .bl true) (fun t : List Nat => (wipeR (rhoI N_Map_init p dx (C_Map K) [.int r, .int l, .tup (rowsD ac), .tup (rowsD dn)]) [5]).set 5 (some (.im (.tup (ls t))))) dn fun t hx => ?_
            exact ⟨tg_name, tsB_nil, eB fun _ _ _ _ _ => x_call (c_u_are_creases c (by have := (hdn t hx).1; omega) (by have := (hdn t hx).1; omega) (hdn t hx).2) hr (xa_cons (x_var (i := 5) rfl) (xa_cons (x_var (i := 2) rfl) xa_nil))⟩
  case k3 => simp
  case k4 => simp
theorem mk_Strip_ (c : Fx w K mg) {n : Nat} {told : List Nat} (ht : Td n told) : Mk' P w K mg base 2 "Strip" (C_Strip K) (spI K (C_Strip K) [.tup (nt (List.replicate n 1)), .tup (ls told)] [("lengths", .tup (nt (List.replicate n 1))), ("creases", .tup (ls told)), ("size", .int n)]) := c_Strip_init c ht
theorem c_Map_place (c : Fx w K mg) (ax : Bool) {n : Nat} {told : List Nat} (k : Nat) (hn : n ≤ 6) (hk : k < n) : Mt P w K mg base 1 (C_Map K) "place" (spD K [mapD K ax n told, .int k] (.tup [.int ((if ax then 0 else k : Nat) : Int), .int ((if ax then k else 0 : Nat) : Int)])) := by
  refine to_Map_place c fun f fd F => def_ok F sc_Map_place rfl fun cdv A outer s' H E hr => ⟨_, s_one (s_ret ((x_tup (xa_cons (x_bin op_fdiv (x_var (i := 1) rfl) (x_fld (cl_Map c) (na_Map_columns c) (x_var (i := 0) rfl) rfl) (rd_I ?c1)) (xa_cons (x_bin op_mod (x_var (i := 1) rfl) (x_fld (cl_Map c) (na_Map_columns c) (x_var (i := 0) rfl) rfl) (rd_I ?c2)) xa_nil))).is ?f)), .inl rfl⟩
  case c1 => cases ax <;> simp [CDiv] <;> omega
  case c2 => cases ax <;> simp <;> omega
  case f =>
    cases ax
    · simp
    · have h1 : (k : Int) / (n : Int) = 0 := Int.ediv_eq_zero_of_lt (by omega) (by omega)
      have h2 : (k : Int) % (n : Int) = k := Int.emod_eq_of_lt (by omega) (by omega)
      simp [h1, h2]
theorem c_Map_is_odd (c : Fx w K mg) (ax : Bool) {n : Nat} {told : List Nat} (k : Nat) (hn : n ≤ 6) (hk : k < n) : Mt P w K mg base 2 (C_Map K) "is_odd" (spD K [mapD K ax n told, .int k] (.bl (decide (k % 2 = 1)))) := by
  refine to_Map_is_odd c fun f fd F => def_ok F sc_Map_is_odd rfl fun cdv A outer s' H E hr => ⟨_, s_cons (s_asg (vs := [2, 3]) (x_meth (c_Map_place c ax k hn hk) hr (x_var (i := 0) rfl) (xa_cons (x_var (i := 1) rfl) xa_nil) rfl) (pg_tup rfl (pgs_cons (pg_name (i := 2) sc_Map_is_odd.nd rfl (Or.inl rfl)) (pgs_cons (pg_name (i := 3) sc_Map_is_odd.nd rfl (Or.inl rfl)) pgs_nil))) (tg_tup rfl (tgs_cons tg_name (tgs_cons tg_name tgs_nil))))
    (s_one (s_ret ((x_cmp op_eq (nomark _) (x_bin op_mod (x_bin op_add (x_var (i := 2) rfl) (x_var (i := 3) rfl) rd_I0) x_int (rd_I (by decide))) x_int (rd_eq rfl rfl rfl)).is ?f))), .inl rfl⟩
  case f =>
    congr 1
    refine decide_eq_decide.mpr ⟨fun q => ?_, fun q => congrArg V.int ?_⟩
    · have q' := V.int.inj q
      cases ax <;> simp at q' <;> omega
    · cases ax <;> simp <;> omega
theorem row1 {told : List Nat} {i t : Nat} (h : told[i]? = some t) : (rowsD (dwn false told))[i]? = some (.tup [.str (ltr t)]) := by
  unfold rowsD dwn
  simp only [Bool.false_eq_true, if_false]
  rw [List.getElem?_map, List.getElem?_map, h]
  rfl
theorem crsD_len (ax : Bool) (told : List Nat) (m : Nat) : (crsD ax told m).length = m := by unfold crsD; rw [List.length_map, List.length_range]
theorem c_creases (c : Fx w K mg) (ax : Bool) {n : Nat} {told : List Nat} (ht : Td n told) : Cl P w K mg base 2 "creases" (spD K [mapD K ax n told] (.tup (crsD ax told (n - 1)))) := by
  have hn : n ≤ 6 := ht.le
  have hp : 1 ≤ n := ht.pos
  have hl := ht.len
  refine to_creases c fun f fd F => def_ok F sc_creases rfl fun cdv A outer s' H E hr => ⟨_, s_cons (s_setN (i := 1) sc_creases.nd (xn_lst xa_nil)) (s_cons (ρ1 := [some (.im (mapD K ax n told)), some (.mu (crsD ax told (n - 1))), none, none, none])
    (s_for (xi_range1 (z_range c) (x_fld (cl_Map c) (na_Map_cells c) (x_var (i := 0) rfl) rfl) ?r1 ?r2) (pg_name (i := 2) sc_creases.nd rfl (Or.inl rfl)) (vs := [2]) ?l)
    (s_one (s_ret (x_tupOf (z_tuple c) (xr_mu (i := 1) rfl))))), .inl rfl⟩
  case r1 => omega
  case r2 => omega
  case l =>
    rw [rgD_nt, Int.toNat_natCast]
    refine for_at (fun i => [some (.im (mapD K ax n told)), some (.mu (crsD ax told (min i (n - 1)))), none, none, none]) n (by rw [nt_len, List.length_range]) rfl ?_ fun i d hi hd => ?_
    · rw [Nat.min_eq_right (by omega)]
    · have e : d = .int (i : Int) := by
        unfold nt at hd
        rw [List.getElem?_map, List.getElem?_range hi] at hd
        exact (Option.some.inj hd).symm
      subst e
      refine ⟨_, tg_name, ?_⟩
      have ei : decide (Dt.v (.int ((i : Int) % 2)) = Dt.v (.int 0)) = decide (i % 2 = 0) := decide_eq_decide.mpr ⟨fun q => by have q' : (i : Int) % 2 = 0 := V.int.inj q; omega, fun q => congrArg V.int (by omega)⟩
      have em : ¬ i + 1 < n → min i (n - 1) = min (i + 1) (n - 1) := fun z => by omega
      have ea : i + 1 < n → crsD ax told (min i (n - 1)) ++ [crD ax told i] = crsD ax told (min (i + 1) (n - 1)) := fun z => by
        have e1 : min i (n - 1) = i := by omega
        have e2 : min (i + 1) (n - 1) = i + 1 := by omega
        rw [e1, e2]
        unfold crsD
        rw [List.range_succ, List.map_append]
        rfl
      cases ax with
      | true =>
        refine b_fg (s_cons (s_asg (vs := [3, 4]) (x_meth (c_Map_place c true i hn hi) hr (x_var (i := 0) rfl) (xa_cons (x_var (i := 2) rfl) xa_nil) rfl) (pg_tup rfl (pgs_cons (pg_name (i := 3) sc_creases.nd rfl (Or.inl rfl)) (pgs_cons (pg_name (i := 4) sc_creases.nd rfl (Or.inl rfl)) pgs_nil))) (tg_tup rfl (tgs_cons tg_name (tgs_cons tg_name tgs_nil)))) (s_cons (ρ1 := [some (.im (mapD K true n told)), some (.mu (crsD true told (min (i + 1) (n - 1)))), some (.im (.int (i : Int))), some (.im (.int ((if true = true then 0 else i : Nat) : Int))), some (.im (.int ((if true = true then i else 0 : Nat) : Int)))])
          (s_if (xt_cmp op_lt (nomark _) (x_bin op_add (x_var (i := 4) rfl) x_int rd_I0) (x_fld (cl_Map c) (na_Map_columns c) (x_var (i := 0) rfl) rfl) rd_B0) (fun q => s_one (b_fg (s_app (i := 1) rfl ((x_tup (xa_cons (x_var (i := 2) rfl) (xa_cons (x_bin op_add (x_var (i := 2) rfl) x_int rd_I0) (xa_cons (x_ifS (xt_cmp op_eq (nomark _) (x_bin op_mod (x_var (i := 4) rfl) x_int (rd_I (by decide))) x_int (rd_eq rfl rfl rfl)) (fun h => x_str) (fun h => x_str)) (xa_cons (x_ixT (ds := ls told) (x_ixT (x_fld (cl_Map c) (na_Map_across c) (x_var (i := 0) rfl) rfl) (x_var (i := 3) rfl) rfl) (x_var (i := 4) rfl) (at_nat (i := i) (ls_get (i := i) (v := told.getD i 0) (getD_get ?g1)))) xa_nil))))).is (d2 := crD true told i) ?s1) ?len) ?e1)) (fun q => ?e2))
          (s_one (s_ifF (xt_cmp op_lt (nomark _) (x_bin op_add (x_var (i := 3) rfl) x_int rd_I0) (x_fld (cl_Map c) (na_Map_rows c) (x_var (i := 0) rfl) rfl) rd_B0) rfl s_nil)))) ⟨.inr rfl, .inr rfl, .inl rfl, .inl rfl, .inl rfl, trivial⟩
        case g1 =>
          have z := of_decide_eq_true q
          simp at z; omega
        case s1 =>
          unfold crD side
          have ei' : decide (Dt.v (.int (((if true = true then i else 0 : Nat) : Int) % 2)) = Dt.v (.int 0)) = decide (i % 2 = 0) := ei
          rw [ei']
          by_cases z : i % 2 = 0
          · rw [decide_eq_true z]; simp [z]
          · rw [decide_eq_false z]; simp [z]
        case len => rw [crsD_len]; omega
        case e1 =>
          have z : i + 1 < n := by have z := of_decide_eq_true q; simp at z; omega
          have w := ea z
          exact ⟨.inr rfl, .inr (congrArg (fun l => some (Sv.mu l)) w.symm), .inr rfl, .inr rfl, .inr rfl, trivial⟩
        case e2 =>
          have z : ¬ i + 1 < n := by have z := of_decide_eq_false q; simp at z; omega
          rw [← em z]
          exact s_nil
      | false =>
        refine b_fg (s_cons (s_asg (vs := [3, 4]) (x_meth (c_Map_place c false i hn hi) hr (x_var (i := 0) rfl) (xa_cons (x_var (i := 2) rfl) xa_nil) rfl) (pg_tup rfl (pgs_cons (pg_name (i := 3) sc_creases.nd rfl (Or.inl rfl)) (pgs_cons (pg_name (i := 4) sc_creases.nd rfl (Or.inl rfl)) pgs_nil))) (tg_tup rfl (tgs_cons tg_name (tgs_cons tg_name tgs_nil)))) (s_cons (s_ifF (xt_cmp op_lt (nomark _) (x_bin op_add (x_var (i := 4) rfl) x_int rd_I0) (x_fld (cl_Map c) (na_Map_columns c) (x_var (i := 0) rfl) rfl) rd_B0) rfl s_nil)
          (s_one (ρ := [some (.im (mapD K false n told)), some (.mu (crsD false told (min i (n - 1)))), some (.im (.int (i : Int))), some (.im (.int ((if false = true then 0 else i : Nat) : Int))), some (.im (.int ((if false = true then i else 0 : Nat) : Int)))]) (o := .nx [some (.im (mapD K false n told)), some (.mu (crsD false told (min (i + 1) (n - 1)))), some (.im (.int (i : Int))), some (.im (.int ((if false = true then 0 else i : Nat) : Int))), some (.im (.int ((if false = true then i else 0 : Nat) : Int)))])
            (s_if (xt_cmp op_lt (nomark _) (x_bin op_add (x_var (i := 3) rfl) x_int rd_I0) (x_fld (cl_Map c) (na_Map_rows c) (x_var (i := 0) rfl) rfl) rd_B0) (fun q => s_one (b_fg (s_app (i := 1) rfl ((x_tup (xa_cons (x_var (i := 2) rfl) (xa_cons (x_bin op_add (x_var (i := 2) rfl) (x_fld (cl_Map c) (na_Map_columns c) (x_var (i := 0) rfl) rfl) rd_I0) (xa_cons (x_ifS (xt_cmp op_eq (nomark _) (x_bin op_mod (x_var (i := 3) rfl) x_int (rd_I (by decide))) x_int (rd_eq rfl rfl rfl)) (fun h => x_str) (fun h => x_str)) (xa_cons (x_ixT (ds := [.str (ltr (told.getD i 0))]) (x_ixT (x_fld (cl_Map c) (na_Map_down c) (x_var (i := 0) rfl) rfl) (x_var (i := 3) rfl) (at_nat (i := i) (row1 (i := i) (t := told.getD i 0) (getD_get ?g1)))) (x_var (i := 4) rfl) rfl) xa_nil))))).is (d2 := crD false told i) ?s1) ?len) ?e1)) (fun q => ?e2))))) ⟨.inr rfl, .inr rfl, .inl rfl, .inl rfl, .inl rfl, trivial⟩
        case g1 =>
          have z := of_decide_eq_true q
          simp at z; omega
        case s1 =>
          unfold crD side
          have ei' : decide (Dt.v (.int (((if false = true then 0 else i : Nat) : Int) % 2)) = Dt.v (.int 0)) = decide (i % 2 = 0) := ei
          rw [ei']
          by_cases z : i % 2 = 0
          · rw [decide_eq_true z]; simp [z]
          · rw [decide_eq_false z]; simp [z]
        case len => rw [crsD_len]; omega
        case e1 =>
          have z : i + 1 < n := by have z := of_decide_eq_true q; simp at z; omega
          have w := ea z
          exact ⟨.inr rfl, .inr (congrArg (fun l => some (Sv.mu l)) w.symm), .inr rfl, .inr rfl, .inr rfl, trivial⟩
        case e2 =>
          have z : ¬ i + 1 < n := by have z := of_decide_eq_false q; simp at z; omega
          rw [← em z]
          exact s_nil
end
end K82
/-! ## part W4 -/
/-! Walks: states of maps. -/
namespace K82
open PySem PySem.Spec PyProof.Rows L2
/-- how many of two lie between -/
def within (a b x : Nat) : Bool := decide (min a b < x) && decide (x < max a b)
def crossM (lv : List Nat) (f g : Nat) : Bool := decide (f % 2 = g % 2) && decide ((([lv.getD g 0, lv.getD (g + 1) 0]).filter (within (lv.getD f 0) (lv.getD (f + 1) 0))).length = 1)
def faultM (lv : List Nat) (n : Nat) : Option (Nat × Nat) := (List.range (n - 1)).findSome? fun f => (List.range (n - 1 - (f + 1))).findSome? fun i => if crossM lv f (f + 1 + i) then some (f, f + 1 + i) else none
def pair2D (p : Nat × Nat) : Dt := .tup [.str "crossing", .tup [.int (p.1 : Int), .int ((p.1 : Int) + 1)], .tup [.int (p.2 : Int), .int ((p.2 : Int) + 1)]]
def badM (told lv : List Nat) (n : Nat) : Option Nat := (List.range (n - 1)).findSome? fun k => if told.getD k 0 == 2 || told.getD k 0 == showS lv k then none else some k
def bend2D (k : Nat) : Dt := .tup [.str "crease", .int (k : Int), .int ((k : Int) + 1)]
def keepM (told lv : List Nat) (n : Nat) : Dt := match faultM lv n with
  | some q => pair2D q
  | none => optD bend2D (badM told lv n)
theorem cut_drop (ds : List Dt) (k : Nat) : cutD ds (some ((k : Nat) : Int)) none = ds.drop k := by
  unfold cutD
  rw [HT.sIx_nat, HT.sIx_none]
  by_cases h : k ≤ ds.length
  · rw [Nat.min_eq_left h]
    exact List.take_of_length_le (by rw [List.length_drop]; exact Nat.le_refl _)
  · rw [Nat.min_eq_right (by omega), Nat.sub_self, List.take_zero, List.drop_eq_nil_of_le (by omega)]
theorem cut_drop1 (ds : List Dt) (k : Nat) : cutD ds (some ((k : Int) + 1)) none = ds.drop (k + 1) := cut_drop ds (k + 1)
theorem cut_last (ds : List Dt) : cutD ds none (some (-1)) = ds.take (ds.length - 1) := by
  unfold cutD
  rw [HT.sIx_none]
  have e : HT.sIx ds.length ds.length (some (-1)) = ds.length - 1 := by
    show (if (-1 : Int) < 0 then ((-1 : Int) + (ds.length : Int)).toNat else min (-1 : Int).toNat ds.length) = _
    rw [if_pos (by decide)]
    omega
  rw [e, List.drop_zero, Nat.sub_zero]
section
variable {P : Program} {w : World} {K : PySem.W.Frag} {mg : Str → Option Value} {base : Heap}
theorem c_is_pile (c : Fx w K mg) (ax : Bool) {n : Nat} {told s : List Nat} (h : Pm n s) : Cl P w K mg base 2 "is_pile" (spD K [mapD K ax n told, .tup (nt s)] (.bl true)) := by
  have hn : n ≤ 6 := h.le
  have hl := h.len
  refine to_is_pile c fun f fd F => def_ok F sc_is_pile rfl fun cdv A outer s' H E hr => ⟨_, s_cons (s_ifF (xt_w (xw_or (xt_not (xt_val (x_isi (z_isinstance c) (z_tuple c) b_tuple (x_var (i := 1) rfl) rfl k_tup_tup))) fun _ => xw_or1 (xt_cmp op_ne (nomark _) (x_lenT (z_len c) (x_var (i := 1) rfl)) (x_fld (cl_Map c) (na_Map_cells c) (x_var (i := 0) rfl) rfl) (rd_ne rfl rfl rfl)))) ?k1 s_nil)
    (s_cons (s_ifF (xt_not (xt_val (x_allM (xs := s) (q := fun x : Nat => decide ((0 : Int) ≤ (x : Int)) && decide ((x : Int) ≤ (n : Int) - 1)) (z_all c) (XN.toR (xn_lc (own := [("one", 2)]) sc_is_pile.nd (xi_tup (x_var (i := 1) rfl)) ?l1 (blkOk_by (N := N_is_pile) (sc := defScope s_is_pile) (by decide +kernel)) (fun _ _ _ _ _ => pg_name (i := 2) sc_is_pile.nd rfl (Or.inl rfl)) ?lc))))) ?k2 s_nil)
    (s_one (s_ret (x_cmp (op_eqD hr.units) (nomark _) (XN.toD (xn_sortedT (ns := s.map fun (i : Nat) => (i : Int)) (z_sorted c) hr.units ((x_var (i := 1) rfl).is ?hs) ?l2)) (XN.toD (xn_listRg1 (z_list c) (z_range c) (x_fld (cl_Map c) (na_Map_cells c) (x_var (i := 0) rfl) rfl) ?h0 ?h1)) (rd_eqR ?e1 ?e2))))), .inl rfl⟩
  case lc =>
    refine lc_map (fun x : Nat => .int x) (fun x : Nat => .bl (decide ((0 : Int) ≤ (x : Int)) && decide ((x : Int) ≤ (n : Int) - 1))) (fun x : Nat => (wipeR (rho0 N_is_pile [mapD K ax n told, .tup (nt s)]) [2]).set 2 (some (.im (.int x)))) s fun x hx => ?_
    exact ⟨tg_name, tsB_nil, eB fun _ _ _ _ _ => x_call (c_is_whole c _ _ _) hr (xa_cons (x_var (i := 2) rfl) (xa_cons x_int (xa_cons (x_bin op_sub (x_fld (cl_Map c) (na_Map_cells c) (x_var (i := 0) rfl) rfl) x_int rd_I0) xa_nil)))⟩
  case l1 => rw [nt_len]; omega
  case k1 => rw [nt_len, hl]; simp [Dt.v]
  case k2 =>
    have e1 : s.all (fun x : Nat => decide ((0 : Int) ≤ (x : Int)) && decide ((x : Int) ≤ (n : Int) - 1)) = true := by
      rw [List.all_eq_true]
      intro x hx
      have := h.lt hx
      simp; omega
    rw [e1]; rfl
  case hs => rw [nt_map]
  case l2 => rw [List.length_map]; omega
  case h0 => omega
  case h1 => omega
  case e1 =>
    congr 1
    rw [h.srt, rgD_nt, nt_map]
    rfl
  case e2 =>
    simp only [Dt.sh]
    exact shL_ints _ _
theorem c_check_pile (c : Fx w K mg) (ax : Bool) {n : Nat} {told s : List Nat} (h : Pm n s) : Cl P w K mg base 3 "check_pile" (spD K [mapD K ax n told, .tup (nt s)] .non) := by
  refine to_check_pile c fun f fd F => def_ok F sc_check_pile rfl fun cdv A outer s' H E hr => ⟨_, s_one (s_ifF (xt_not (xt_val (x_call (c_is_pile c ax h) hr (xa_cons (x_var (i := 0) rfl) (xa_cons (x_var (i := 1) rfl) xa_nil))))) rfl s_nil), .inr ⟨rfl, _, rfl⟩⟩
theorem c_u_heights (c : Fx w K mg) {n : Nat} {s : List Nat} (h : Pm n s) : Cl P w K mg base 1 "_heights" (spN K [.tup (nt s)] (nt (lev s))) := by
  have hn : n ≤ 6 := h.le
  have hl := h.len
  refine to_u_heights c fun f fd F => def_okN F sc_u_heights rfl fun cdv A outer s' H E hr => s_cons (s_setN (i := 1) sc_u_heights.nd ((xn_repL (XN.toD (xn_lst (xa_cons x_int xa_nil))) (x_lenT (z_len c) (x_var (i := 0) rfl)) ?a1 ?a2 (by decide)).is (ds2 := nt (List.replicate s.length 0)) ?a3)) (s_cons (ρ1 := [some (.im (.tup (nt s))), some (.mu (nt (lev s))), none, none])
    (s_for (xi_enumT (z_enumerate c) (x_var (i := 0) rfl)) (pg_tup rfl (pgs_cons (pg_name (i := 2) sc_u_heights.nd rfl (Or.inl rfl)) (pgs_cons (pg_name (i := 3) sc_u_heights.nd rfl (Or.inl rfl)) pgs_nil))) (vs := [2, 3]) ?l)
      (s_one (s_retM (i := 1) rfl)))
  case a3 => rw [nt_len]; exact rep_nt _
  case a1 => omega
  case a2 => rw [nt_len]; omega
  case l =>
    rw [enD_nt]
    refine lev_for (fun f => [some (.im (.tup (nt s))), some (.mu (nt f)), none, none]) ?_ s (List.replicate s.length 0) 0 fun a ha => by rw [List.length_replicate, hl]; exact h.lt ha
    exact fun a k f hf => ⟨_, tg_tup rfl (tgs_cons tg_name (tgs_cons tg_name tgs_nil)),
      b_fg (s_one (s_item (i := 1) rfl (x_var (i := 2) rfl) (x_var (i := 3) rfl) (ixN_nat (by rw [nt_len]; exact hf)))) ⟨.inr rfl, .inr (by rw [← nt_set]), .inl rfl, .inl rfl, trivial⟩⟩
theorem c_cross_piles (c : Fx w K mg) (a b e d : Nat) : Cl P w K mg base 1 "cross_piles" (spD K [.tup [.int a, .int b], .tup [.int e, .int d]] (.bl (decide ((([e, d]).filter (within a b)).length = 1)))) := by
  have ci : ∀ a b : Nat, decide ((a : Int) < (b : Int)) = decide (a < b) := fun a b => decide_eq_decide.mpr (by omega)
  refine to_cross_piles c fun f fd F => def_ok F sc_cross_piles rfl fun cdv A outer s' H E hr => ⟨_, s_cons (s_asg (vs := [2, 3]) (x_tup (xa_cons ((x_minT (z_min c) hr.units (x_var (i := 0) rfl)).is (d2 := .int ((min a b : Nat) : Int)) ?m1) (xa_cons ((x_maxT (z_max c) hr.units (x_var (i := 0) rfl)).is (d2 := .int ((max a b : Nat) : Int)) ?m2) xa_nil)))
      (pg_tup rfl (pgs_cons (pg_name (i := 2) sc_cross_piles.nd rfl (Or.inr rfl)) (pgs_cons (pg_name (i := 3) sc_cross_piles.nd rfl (Or.inr rfl)) pgs_nil))) (tg_tup rfl (tgs_cons tg_name (tgs_cons tg_name tgs_nil))))
    (s_one (s_ret ((x_cmp op_eq (nomark _) (x_lenR (ds := (([e, d]).filter (within a b)).map fun x : Nat => Dt.int (x : Int)) (z_len c) (XN.toR (xn_lc (own := [("height", 4)]) sc_cross_piles.nd (xi_tup (x_var (i := 1) rfl)) (by exact Nat.le_of_ble_eq_true rfl) (blkOk_by (N := N_cross_piles) (sc := defScope s_cross_piles) (by decide +kernel)) (fun _ _ _ _ _ => pg_name (i := 4) sc_cross_piles.nd rfl (Or.inl rfl)) ?lc))) x_int (rd_eq rfl rfl rfl)).is ?f))), .inl rfl⟩
  case m1 =>
    congr 1
    by_cases z : b < a
    · rw [if_pos (by omega), Nat.min_eq_right (by omega)]
    · rw [if_neg (by omega), Nat.min_eq_left (by omega)]
  case m2 =>
    congr 1
    by_cases z : a < b
    · rw [if_pos (by omega), Nat.max_eq_right (by omega)]
    · rw [if_neg (by omega), Nat.max_eq_left (by omega)]
  case lc =>
    refine lc_filter (fun x : Nat => .int x) (fun x : Nat => .int x) (within a b) (fun x : Nat => (wipeR [some (.im (.tup [.int a, .int b])), some (.im (.tup [.int e, .int d])), some (.im (.int ((min a b : Nat) : Int))), some (.im (.int ((max a b : Nat) : Int))), none] [4]).set 4 (some (.im (.int x)))) [e, d] fun x hx => ?_
    refine ⟨tg_name, tsB_one fun _ _ _ _ _ => (xt_chain op_lt op_lt (x_var (i := 2) rfl) (x_var (i := 4) rfl) rd_B0 (fun _ => (x_var (i := 3) rfl)) fun _ => rd_B0).is ?_, fun _ => eB fun _ _ _ _ _ => x_var (i := 4) rfl⟩
    rw [ci, ci]
    rfl
  case f =>
    congr 1
    rw [List.length_map]
    exact decide_eq_decide.mpr ⟨fun q => by have q' := V.int.inj q; omega, fun q => congrArg V.int (by omega)⟩
theorem side_eq (ax : Bool) (f g : Nat) : decide (Dt.v (.str (side ax g)) = Dt.v (.str (side ax f))) = decide (f % 2 = g % 2) := by
  have h1 : ∀ b1 b2 : Bool, decide (V.str (if ax then (if b1 then "E" else "W") else (if b1 then "S" else "N")) = V.str (if ax then (if b2 then "E" else "W") else (if b2 then "S" else "N"))) = (b1 == b2) := by
    cases ax <;> decide +kernel
  have h2 : ∀ k, side ax k = (if ax then (if decide (k % 2 = 0) then ("E" : Str) else ("W" : Str)) else (if decide (k % 2 = 0) then ("S" : Str) else ("N" : Str))) := fun k => by unfold side; simp
  show decide (V.str (side ax g) = V.str (side ax f)) = _
  rw [h2, h2, h1]
  rcases (by omega : f % 2 = 0 ∨ f % 2 = 1) with z | z <;> rcases (by omega : g % 2 = 0 ∨ g % 2 = 1) with y | y <;> rw [z, y] <;> decide
theorem enD_crs (ax : Bool) (told : List Nat) (m : Nat) : enD (crsD ax told m) = (List.range m).map fun k => .tup [.int (k : Int), crD ax told k] := by
  unfold enD crsD
  apply List.ext_getElem?
  intro i
  rw [List.getElem?_map, List.getElem?_zipIdx, List.getElem?_map, List.getElem?_map]
  by_cases h : i < m
  · rw [List.getElem?_range h]; simp
  · rw [List.getElem?_eq_none (by rw [List.length_range]; omega)]; rfl
theorem crs_drop (ax : Bool) (told : List Nat) (m k : Nat) : (crsD ax told m).drop k = (List.range (m - k)).map fun i => crD ax told (k + i) := by
  unfold crsD
  apply List.ext_getElem?
  intro i
  rw [List.getElem?_drop, List.getElem?_map, List.getElem?_map]
  by_cases h : k + i < m
  · rw [List.getElem?_range h, List.getElem?_range (by omega)]; rfl
  · rw [List.getElem?_eq_none (by rw [List.length_range]; omega), List.getElem?_eq_none (by rw [List.length_range]; omega)]; rfl
end
end K82
/-! ## part W5 -/
/-! Walks: states of maps, further. -/
namespace K82
open PySem PySem.Spec PyProof.Rows L2
section
variable {P : Program} {w : World} {K : PySem.W.Frag} {mg : Str → Option Value} {base : Heap}
theorem c_map_fault (c : Fx w K mg) (ax : Bool) {n : Nat} {told s : List Nat} (h : Pm n s) (ht : Td n told) : Cl P w K mg base 4 "map_fault" (spD K [mapD K ax n told, .tup (nt s)] (optD pair2D (faultM (lev s) n))) := by
  have hn : n ≤ 6 := h.le
  have hp : 1 ≤ n := h.pos
  have hl := h.len
  have hlv : (lev s).length = n := by rw [lev_length, hl]
  refine to_map_fault c fun f fd F => def_ok F sc_map_fault rfl fun cdv A outer s' H E hr => ⟨_, s_cons (s_ifF (xt_not (xt_val (x_call (c_is_pile c ax h) hr (xa_cons (x_var (i := 0) rfl) (xa_cons (x_var (i := 1) rfl) xa_nil))))) rfl s_nil)
    (s_cons (s_set (i := 2) sc_map_fault.nd (XN.toD (xn_call (c_u_heights c h) hr (xa_cons (x_var (i := 1) rfl) xa_nil))))
    (s_cons (s_set (i := 3) sc_map_fault.nd (x_call (c_creases c ax ht) hr (xa_cons (x_var (i := 0) rfl) xa_nil)))
    (s_forQ (q := faultM (lev s) n) (v := pair2D) (ρ1 := [some (.im (mapD K ax n told)), some (.im (.tup (nt s))), some (.im (.lst (nt (lev s)))), some (.im (.tup (crsD ax told (n - 1)))), none, none, none, none, none, none, none, none, none])
      (xi_enumT (z_enumerate c) (x_var (i := 3) rfl)) (pg_tup rfl (pgs_cons (pg_name (i := 4) sc_map_fault.nd rfl (Or.inl rfl)) (pgs_cons (pg_tup rfl (pgs_cons (pg_name (i := 6) sc_map_fault.nd rfl (Or.inl rfl)) (pgs_cons (pg_name (i := 7) sc_map_fault.nd rfl (Or.inl rfl)) (pgs_cons (pg_name (i := 8) sc_map_fault.nd rfl (Or.inl rfl)) (pgs_cons (pg_name (i := 9) sc_map_fault.nd rfl (Or.inl rfl)) pgs_nil))))) pgs_nil)))
      (vs := [4, 6, 7, 8, 9]) ?l (fun q => s_one (s_ret (x_non.is ?f1))) ?f2))), .inl rfl⟩
  case f1 => rw [q]; rfl
  case f2 => intro a q; rw [q]; rfl
  case l =>
    rw [enD_crs]
    refine for_first (fun (k : Nat) => Dt.tup [.int (k : Int), crD ax told k]) pair2D _ _ _ fun a ha => ?_
    have ha : a < n - 1 := List.mem_range.mp ha
    have g1 : (lev s)[a]? = some ((lev s).getD a 0) := getD_get (by omega)
    have g2 : (lev s)[a + 1]? = some ((lev s).getD (a + 1) 0) := getD_get (by omega)
    refine ⟨_, tg_tup rfl (tgs_cons tg_name (tgs_cons (tg_tup rfl (tgs_cons tg_name (tgs_cons tg_name (tgs_cons tg_name (tgs_cons tg_name tgs_nil))))) tgs_nil)),
      b_fgF (ρ1 := [some (.im (mapD K ax n told)), some (.im (.tup (nt s))), some (.im (.lst (nt (lev s)))), some (.im (.tup (crsD ax told (n - 1)))), some (.im (.int (a : Int))), some (.im (.tup [.int ((lev s).getD a 0 : Nat), .int ((lev s).getD (a + 1) 0 : Nat)])), some (.im (.int (a : Int))), some (.im (.int ((a : Int) + 1))), some (.im (.str (side ax a))), none, none, none, none])
        (s_cons (s_set (i := 5) sc_map_fault.nd (x_tup (xa_cons (x_ixR (XE.toR (x_var (i := 2) rfl)) (x_var (i := 6) rfl) (at_nt g1)) (xa_cons (x_ixR (XE.toR (x_var (i := 2) rfl)) (x_var (i := 7) rfl) (at_nt1 g2)) xa_nil))))
        (s_one (b_fg0 (ρ1 := [some (.im (mapD K ax n told)), some (.im (.tup (nt s))), some (.im (.lst (nt (lev s)))), some (.im (.tup (crsD ax told (n - 1)))), some (.im (.int (a : Int))), some (.im (.tup [.int ((lev s).getD a 0 : Nat), .int ((lev s).getD (a + 1) 0 : Nat)])), some (.im (.int (a : Int))), some (.im (.int ((a : Int) + 1))), some (.im (.str (side ax a))), none, none, none, none]) ?fg (s_for (xi_tup ((x_sliceT (x_var (i := 3) rfl) (xo_some (x_bin op_add (x_var (i := 4) rfl) x_int rd_I0)) xo_none).is (congrArg Dt.tup ((cut_drop1 _ a).trans (crs_drop ax told (n - 1) (a + 1))))))
          (pg_tup rfl (pgs_cons (pg_name (i := 10) sc_map_fault.nd rfl (Or.inl rfl)) (pgs_cons (pg_name (i := 11) sc_map_fault.nd rfl (Or.inl rfl)) (pgs_cons (pg_name (i := 12) sc_map_fault.nd rfl (Or.inl rfl)) (pgs_cons (pg_name (i := 9) sc_map_fault.nd rfl (Or.inl rfl)) pgs_nil))))) (vs := [10, 11, 12, 9]) ?i1))))
        ⟨.inr rfl, .inr rfl, .inr rfl, .inr rfl, .inl rfl, .inl rfl, .inl rfl, .inl rfl, .inl rfl, .inr rfl, .inr rfl, .inr rfl, .inr rfl, trivial⟩⟩
    case fg => exact ⟨.inr rfl, .inr rfl, .inr rfl, .inr rfl, .inr rfl, .inr rfl, .inr rfl, .inr rfl, .inr rfl, .inl rfl, .inr rfl, .inr rfl, .inr rfl, trivial⟩
    case i1 =>
      refine for_first (fun (i : Nat) => crD ax told (a + 1 + i)) pair2D _ _ _ fun i hi => ?_
      have hi : i < n - 1 - (a + 1) := List.mem_range.mp hi
      generalize hm : a + 1 + i = m
      have g3 : (lev s)[m]? = some ((lev s).getD m 0) := getD_get (by omega)
      have g4 : (lev s)[m + 1]? = some ((lev s).getD (m + 1) 0) := getD_get (by omega)
      exact ⟨_, tg_tup rfl (tgs_cons tg_name (tgs_cons tg_name (tgs_cons tg_name (tgs_cons tg_name tgs_nil)))),
        b_fgF (s_ifO (v := pair2D) (x := (a, m)) ((xt_w (xw_and (xt_cmp op_eq (nomark _) (x_var (i := 12) rfl) (x_var (i := 8) rfl) (rd_eq rfl rfl rfl)) fun _ => xw_and1 (xt_val (x_call (c_cross_piles c _ _ _ _) hr (xa_cons (x_var (i := 5) rfl) (xa_cons (x_tup (xa_cons (x_ixR (XE.toR (x_var (i := 2) rfl)) (x_var (i := 10) rfl) (at_nt g3)) (xa_cons (x_ixR (XE.toR (x_var (i := 2) rfl)) (x_var (i := 11) rfl) (at_nt1 g4)) xa_nil))) xa_nil)))))).is (k2 := crossM (lev s) a m) (by rw [side_eq]; rfl))
            fun _ => x_tup (xa_cons x_str (xa_cons (x_tup (xa_cons (x_var (i := 6) rfl) (xa_cons (x_var (i := 7) rfl) xa_nil))) (xa_cons (x_tup (xa_cons (x_var (i := 10) rfl) (xa_cons (x_var (i := 11) rfl) xa_nil))) xa_nil))))
          ⟨.inr rfl, .inr rfl, .inr rfl, .inr rfl, .inr rfl, .inr rfl, .inr rfl, .inr rfl, .inr rfl, .inl rfl, .inl rfl, .inl rfl, .inl rfl, trivial⟩⟩
theorem c_u_shown (c : Fx w K mg) (ax : Bool) {n : Nat} {told lv : List Nat} (k : Nat) (hn : n ≤ 6) (hl : lv.length = n) (hk : k + 1 < n) : Cl P w K mg base 3 "_shown" (spD K [mapD K ax n told, .lst (nt lv), .int k, .int ((k : Int) + 1)] (.str (ltr (showS lv k)))) := by
  have g1 : lv[k]? = some (lv.getD k 0) := getD_get (by omega)
  have g2 : lv[k + 1]? = some (lv.getD (k + 1) 0) := getD_get (by omega)
  have ci : ∀ a b : Nat, decide ((a : Int) < (b : Int)) = decide (a < b) := fun a b => decide_eq_decide.mpr (by omega)
  by_cases h : k % 2 = 1
  · refine to_u_shown c fun f fd F => def_ok F sc_u_shown rfl fun cdv A outer s' H E hr => ⟨_, s_cons (s_asg (vs := [4, 5]) (d := .tup [.int (k : Int), .int ((k : Int) + 1)]) (x_ifE (xt_val (x_meth (c_Map_is_odd c ax k hn (by omega)) hr (x_var (i := 0) rfl) (xa_cons (x_var (i := 2) rfl) xa_nil) rfl)) (fun q => (x_tup (xa_cons (x_var (i := 2) rfl) (xa_cons (x_var (i := 3) rfl) xa_nil)))) (fun q => not_f (decide_eq_true h) q)) (pg_tup rfl (pgs_cons (pg_name (i := 4) sc_u_shown.nd rfl (Or.inl rfl)) (pgs_cons (pg_name (i := 5) sc_u_shown.nd rfl (Or.inl rfl)) pgs_nil))) (tg_tup rfl (tgs_cons tg_name (tgs_cons tg_name tgs_nil))))
      (s_one (s_ret ((x_ifS (xt_cmp op_gt (nomark _) (x_ixR (XE.toR (x_var (i := 1) rfl)) (x_var (i := 4) rfl) (at_nt g1)) (x_ixR (XE.toR (x_var (i := 1) rfl)) (x_var (i := 5) rfl) (at_nt1 g2)) rd_B0) (fun h => (x_gstr (v_VALLEY c))) (fun h => (x_gstr (v_MOUNTAIN c)))).is ?f))), .inl rfl⟩
    case f =>
      congr 1
      unfold showS
      rw [ci, if_pos h]
      cases decide (lv.getD (k + 1) 0 < lv.getD k 0) <;> rfl
  · refine to_u_shown c fun f fd F => def_ok F sc_u_shown rfl fun cdv A outer s' H E hr => ⟨_, s_cons (s_asg (vs := [4, 5]) (d := .tup [.int ((k : Int) + 1), .int (k : Int)]) (x_ifE (xt_val (x_meth (c_Map_is_odd c ax k hn (by omega)) hr (x_var (i := 0) rfl) (xa_cons (x_var (i := 2) rfl) xa_nil) rfl)) (fun q => not_t (decide_eq_false h) q) (fun q => (x_tup (xa_cons (x_var (i := 3) rfl) (xa_cons (x_var (i := 2) rfl) xa_nil))))) (pg_tup rfl (pgs_cons (pg_name (i := 4) sc_u_shown.nd rfl (Or.inl rfl)) (pgs_cons (pg_name (i := 5) sc_u_shown.nd rfl (Or.inl rfl)) pgs_nil))) (tg_tup rfl (tgs_cons tg_name (tgs_cons tg_name tgs_nil))))
      (s_one (s_ret ((x_ifS (xt_cmp op_gt (nomark _) (x_ixR (XE.toR (x_var (i := 1) rfl)) (x_var (i := 4) rfl) (at_nt1 g2)) (x_ixR (XE.toR (x_var (i := 1) rfl)) (x_var (i := 5) rfl) (at_nt g1)) rd_B0) (fun h => (x_gstr (v_VALLEY c))) (fun h => (x_gstr (v_MOUNTAIN c)))).is ?f))), .inl rfl⟩
    case f =>
      congr 1
      unfold showS
      rw [ci, if_neg h]
      cases decide (lv.getD k 0 < lv.getD (k + 1) 0) <;> rfl
theorem c_map_keeps_fault (c : Fx w K mg) (ax : Bool) {n : Nat} {told s : List Nat} (h : Pm n s) (ht : Td n told) : Cl P w K mg base 5 "map_keeps_fault" (spD K [mapD K ax n told, .tup (nt s)] (keepM told (lev s) n)) := by
  have hn : n ≤ 6 := h.le
  have hp : 1 ≤ n := h.pos
  have hl := h.len
  have hlv : (lev s).length = n := by rw [lev_length, hl]
  refine to_map_keeps_fault c fun f fd F => def_ok F sc_map_keeps_fault rfl fun cdv A outer s' H E hr => ⟨_, s_cons (s_set (i := 2) sc_map_keeps_fault.nd (x_call (c_map_fault c ax h ht) hr (xa_cons (x_var (i := 0) rfl) (xa_cons (x_var (i := 1) rfl) xa_nil))))
    (s_ifR (o := .rt (keepM told (lev s) n)) (xt_notN (x_var (i := 2) rfl)) (fun q => s_one (s_ret ((x_var (i := 2) rfl).is ?f1))) rfl
      (fun q => s_cons (s_set (i := 3) sc_map_keeps_fault.nd (XN.toD (xn_call (c_u_heights c h) hr (xa_cons (x_var (i := 1) rfl) xa_nil))))
       (s_forQ (q := badM told (lev s) n) (v := bend2D) (ρ1 := [some (.im (mapD K ax n told)), some (.im (.tup (nt s))), some (.im (optD pair2D (faultM (lev s) n))), some (.im (.lst (nt (lev s)))), none, none, none, none])
        (xi_tup (x_call (c_creases c ax ht) hr (xa_cons (x_var (i := 0) rfl) xa_nil)))
        (pg_tup rfl (pgs_cons (pg_name (i := 4) sc_map_keeps_fault.nd rfl (Or.inl rfl)) (pgs_cons (pg_name (i := 5) sc_map_keeps_fault.nd rfl (Or.inl rfl)) (pgs_cons (pg_name (i := 6) sc_map_keeps_fault.nd rfl (Or.inl rfl)) (pgs_cons (pg_name (i := 7) sc_map_keeps_fault.nd rfl (Or.inl rfl)) pgs_nil))))) (vs := [4, 5, 6, 7]) ?l
        (fun q2 => s_one (s_ret (x_non.is ?f2))) ?f3))), .inl rfl⟩
  case f1 => 
    unfold keepM
    cases e : faultM (lev s) n with
    | none => rw [e] at q; cases q
    | some p => rfl
  case f2 =>
    unfold keepM
    cases e : faultM (lev s) n with
    | none => simp only [q2]; rfl
    | some p => rw [e] at q; cases q
  case f3 =>
    intro k q2
    unfold keepM
    cases e : faultM (lev s) n with
    | none => simp only [q2]; rfl
    | some p => rw [e] at q; cases q
  case l =>
    refine for_first (crD ax told) bend2D (fun k => if told.getD k 0 == 2 || told.getD k 0 == showS (lev s) k then none else some k) _ _ fun k hk => ?_
    have hk : k < n - 1 := List.mem_range.mp hk
    have h1 : told.getD k 0 < 3 := by
      have : told[k]? = some (told.getD k 0) := getD_get (by rw [ht.len]; omega)
      exact ht.lt _ (List.mem_of_getElem? this)
    have h2 : showS (lev s) k < 3 := by have := showS_lt (lev s) k; omega
    refine ⟨_, tg_tup rfl (tgs_cons tg_name (tgs_cons tg_name (tgs_cons tg_name (tgs_cons tg_name tgs_nil)))), ?_⟩
    exact b_fgF (s_ifN (v := bend2D) (x := k)
      ((xt_cmp op_notIn_seq rfl (x_var (i := 7) rfl) (x_tup (xa_cons (x_gstr (v_OPEN c)) (xa_cons (x_call (c_u_shown c ax k hn hlv (by omega)) hr (xa_cons (x_var (i := 0) rfl) (xa_cons (x_var (i := 3) rfl) (xa_cons (x_var (i := 4) rfl) (xa_cons (x_var (i := 5) rfl) xa_nil))))) xa_nil))) (rd_inT (neg := true) rfl rfl)).is (k2 := !(told.getD k 0 == 2 || told.getD k 0 == showS (lev s) k)) (congrArg (! ·) (in_ltr _ h1 _ h2))) fun _ => x_tup (xa_cons x_str (xa_cons (x_var (i := 4) rfl) (xa_cons (x_var (i := 5) rfl) xa_nil)))) ⟨.inr rfl, .inr rfl, .inr rfl, .inr rfl, .inl rfl, .inl rfl, .inl rfl, .inl rfl, trivial⟩
/-- what a map shows -/
def shMapD (ax : Bool) (n : Nat) (sh : List Nat) : Dt := .tup [.tup (rowsD (acr ax n sh)), .tup (rowsD (dwn ax sh))]
theorem shownS_len (lv : List Nat) (n : Nat) : (shownS lv n).length = n - 1 := by unfold shownS; rw [List.length_map, List.length_range]
theorem c_map_shown_row (c : Fx w K mg) {n : Nat} {told s : List Nat} (h : Pm n s) : Cl P w K mg base 4 "map_shown" (spD K [mapD K true n told, .tup (nt s)] (shMapD true n (shownS (lev s) n))) := by
  have hn : n ≤ 6 := h.le
  have hp : 1 ≤ n := h.pos
  have hl := h.len
  have hlv : (lev s).length = n := by rw [lev_length, hl]
  refine to_map_shown c fun f fd F => def_ok F sc_map_shown rfl fun cdv A outer s' H E hr => ⟨_, s_cons (s_expr (x_call (c_check_pile c true h) hr (xa_cons (x_var (i := 0) rfl) (xa_cons (x_var (i := 1) rfl) xa_nil))))
    (s_cons (s_set (i := 2) sc_map_shown.nd (XN.toD (xn_call (c_u_heights c h) hr (xa_cons (x_var (i := 1) rfl) xa_nil))))
    (s_cons (s_parN (i := 4) (j := 5) sc_map_shown.nd (xn_lst xa_nil) (xn_lst xa_nil))
    (s_cons (ρ1 := [some (.im (mapD K true n told)), some (.im (.tup (nt s))), some (.im (.lst (nt (lev s)))), none, some (.mu [.tup (ls (shownS (lev s) n))]), some (.mu []), none, none, none])
      (s_for (xi_range1 (z_range c) (x_fld (cl_Map c) (na_Map_rows c) (x_var (i := 0) rfl) rfl) (by simp) (by simp)) (pg_name (i := 3) sc_map_shown.nd rfl (Or.inl rfl)) (vs := [3]) (for_cons tg_name ?b for_nil))
      (s_one (s_ret (x_tup (xa_cons (x_tupOf (z_tuple c) (xr_mu (i := 4) rfl)) (xa_cons (x_tupOf (z_tuple c) (xr_mu (i := 5) rfl)) xa_nil)))))))), .inl rfl⟩
  case b =>
    refine b_fg (s_cons (s_set (i := 6) (d := .int 0) sc_map_shown.nd ((x_bin op_mul (x_var (i := 3) rfl) (x_fld (cl_Map c) (na_Map_columns c) (x_var (i := 0) rfl) rfl) (rd_I (.inl ⟨by omega, by simp <;> omega⟩))).is ?m))
      (s_cons (s_set (i := 7) (d := .lst (nt (List.range n))) sc_map_shown.nd (XN.toD ((xn_listRg2 (z_list c) (z_range c) (x_var (i := 6) rfl) (x_bin op_add (x_var (i := 6) rfl) (x_fld (cl_Map c) (na_Map_columns c) (x_var (i := 0) rfl) rfl) rd_I0) (by omega) (by simp <;> omega) (by omega) (by simp <;> omega)).is ?r)))
      (s_cons (s_app (i := 4) (d := .tup (ls (shownS (lev s) n))) rfl (x_tupOf (z_tuple c) (XN.toR (xn_lc (own := [("cell", 8)]) sc_map_shown.nd (xi_list (XN.toD ((xn_slice (XE.toR (x_var (i := 7) rfl)) xo_none (xo_some (x_neg x_int))).is (ds2 := nt (List.range (n - 1))) ?sl))) ?len (blkOk_by (N := N_map_shown) (sc := defScope s_map_shown) (by decide +kernel)) (fun _ _ _ _ _ => pg_name (i := 8) sc_map_shown.nd rfl (Or.inl rfl)) ?lc))) (by decide))
      (s_one (s_ifF (xt_cmp op_lt (nomark _) (x_bin op_add (x_var (i := 3) rfl) x_int rd_I0) (x_fld (cl_Map c) (na_Map_rows c) (x_var (i := 0) rfl) rfl) rd_B0) rfl s_nil))))) ⟨.inr rfl, .inr rfl, .inr rfl, .inl rfl, .inr rfl, .inr rfl, .inl rfl, .inl rfl, .inl rfl, trivial⟩
    case m => simp
    case r =>
      have e : ((0 : Int) + (n : Int) - 0).toNat = n := by omega
      rw [← rgD_nt]
      simp
    case sl =>
      have e1 : cutD (nt (List.range n)) none (some (-1)) = nt (List.range (n - 1)) := by
        rw [cut_last, nt_len, List.length_range]
        unfold nt
        rw [← List.map_take, List.take_range, Nat.min_eq_left (by omega)]
      exact e1
    case len => rw [nt_len, List.length_range]; omega
    case lc =>
      unfold shownS ls
      rw [List.map_map]
      exact lc_map (fun x : Nat => .int x) (fun x : Nat => .str (ltr (showS (lev s) x))) (fun x : Nat => (wipeR _ [8]).set 8 (some (.im (.int x)))) (List.range (n - 1)) fun x hx =>
        ⟨tg_name, tsB_nil, eB fun _ _ _ _ _ => x_call (c_u_shown c true x hn hlv (by have := List.mem_range.mp hx; omega)) hr (xa_cons (x_var (i := 0) rfl) (xa_cons (x_var (i := 2) rfl) (xa_cons (x_var (i := 8) rfl) (xa_cons (x_bin op_add (x_var (i := 8) rfl) x_int rd_I0) xa_nil))))⟩
theorem c_map_shown_col (c : Fx w K mg) {n : Nat} {told s : List Nat} (h : Pm n s) : Cl P w K mg base 4 "map_shown" (spD K [mapD K false n told, .tup (nt s)] (shMapD false n (shownS (lev s) n))) := by
  have hn : n ≤ 6 := h.le
  have hp : 1 ≤ n := h.pos
  have hl := h.len
  have hlv : (lev s).length = n := by rw [lev_length, hl]
  refine to_map_shown c fun f fd F => def_ok F sc_map_shown rfl fun cdv A outer s' H E hr => ⟨_, s_cons (s_expr (x_call (c_check_pile c false h) hr (xa_cons (x_var (i := 0) rfl) (xa_cons (x_var (i := 1) rfl) xa_nil))))
    (s_cons (s_set (i := 2) sc_map_shown.nd (XN.toD (xn_call (c_u_heights c h) hr (xa_cons (x_var (i := 1) rfl) xa_nil))))
    (s_cons (s_parN (i := 4) (j := 5) sc_map_shown.nd (xn_lst xa_nil) (xn_lst xa_nil))
    (s_cons (ρ1 := [some (.im (mapD K false n told)), some (.im (.tup (nt s))), some (.im (.lst (nt (lev s)))), none, some (.mu (rowsD (acr false n (shownS (lev s) n)))), some (.mu (rowsD (dwn false (shownS (lev s) n)))), none, none, none])
      (s_for (xi_range1 (z_range c) (x_fld (cl_Map c) (na_Map_rows c) (x_var (i := 0) rfl) rfl) ?r1 ?r2) (pg_name (i := 3) sc_map_shown.nd rfl (Or.inl rfl)) (vs := [3]) ?l)
      (s_one (s_ret (x_tup (xa_cons (x_tupOf (z_tuple c) (xr_mu (i := 4) rfl)) (xa_cons (x_tupOf (z_tuple c) (xr_mu (i := 5) rfl)) xa_nil)))))))), .inl rfl⟩
  case r1 => simp <;> omega
  case r2 => simp <;> omega
  case l =>
    have e0 : rgD 0 (Int.toNat ((if false = true then 1 else n : Nat) : Int)) = nt (List.range n) := by rw [rgD_nt]; rfl
    refine for_at (fun i => [some (.im (mapD K false n told)), some (.im (.tup (nt s))), some (.im (.lst (nt (lev s)))), none, some (.mu (List.replicate i (.tup []))), some (.mu ((List.range (min i (n - 1))).map fun k => .tup [.str (ltr (showS (lev s) k))])), none, none, none]) n (by rw [rgD_length]; rfl) rfl ?fin fun i d hi hd => ?_
    case fin =>
      have z : min n (n - 1) = n - 1 := by omega
      rw [z]
      unfold rowsD acr dwn shownS ls
      simp [List.map_map, Function.comp_def]
    · have e : d = .int (i : Int) := by
        unfold rgD at hd
        rw [List.getElem?_map, List.getElem?_range (by exact hi)] at hd
        have := (Option.some.inj hd).symm
        rw [this]; simp
      subst e
      refine ⟨_, tg_name, b_fg (s_cons (s_set (i := 6) (d := .int i) sc_map_shown.nd ((x_bin op_mul (x_var (i := 3) rfl) (x_fld (cl_Map c) (na_Map_columns c) (x_var (i := 0) rfl) rfl) (rd_I (.inl ⟨by omega, by simp <;> omega⟩))).is ?m))
        (s_cons (s_set (i := 7) (d := .lst [.int (i : Int)]) sc_map_shown.nd (XN.toD ((xn_listRg2 (z_list c) (z_range c) (x_var (i := 6) rfl) (x_bin op_add (x_var (i := 6) rfl) (x_fld (cl_Map c) (na_Map_columns c) (x_var (i := 0) rfl) rfl) rd_I0) (by omega) (by simp <;> omega) (by omega) (by simp <;> omega)).is ?r)))
        (s_cons (s_app (i := 4) (d := .tup []) rfl (x_tupOf (z_tuple c) (XN.toR (xn_lc (own := [("cell", 8)]) sc_map_shown.nd (xi_list (XN.toD ((xn_slice (XE.toR (x_var (i := 7) rfl)) xo_none (xo_some (x_neg x_int))).is (ds2 := []) rfl))) (by exact Nat.le_of_ble_eq_true rfl) (blkOk_by (N := N_map_shown) (sc := defScope s_map_shown) (by decide +kernel)) (fun _ _ _ _ _ => pg_name (i := 8) sc_map_shown.nd rfl (Or.inl rfl)) (lc_map (fun x : Nat => .int x) (fun x : Nat => .non) (fun _ => []) [] (fun x hx => by cases hx))))) ?len)
        (s_one (o := .nx [some (.im (mapD K false n told)), some (.im (.tup (nt s))), some (.im (.lst (nt (lev s)))), some (.im (.int (i : Int))), some (.mu (List.replicate (i + 1) (.tup []))), some (.mu ((List.range (min (i + 1) (n - 1))).map fun k => .tup [.str (ltr (showS (lev s) k))])), some (.im (.int (i : Int))), some (.im (.lst [.int (i : Int)])), none])
          (s_if (xt_cmp op_lt (nomark _) (x_bin op_add (x_var (i := 3) rfl) x_int rd_I0) (x_fld (cl_Map c) (na_Map_rows c) (x_var (i := 0) rfl) rfl) rd_B0) (fun q => s_one (b_fg (s_app (i := 5) (d := .tup [.str (ltr (showS (lev s) i))]) rfl (x_tupOf (z_tuple c) (XN.toR (xn_lc (own := [("cell", 8)]) sc_map_shown.nd (xi_list (x_var (i := 7) rfl)) (by exact Nat.le_of_ble_eq_true rfl) (blkOk_by (N := N_map_shown) (sc := defScope s_map_shown) (by decide +kernel)) (fun _ _ _ _ _ => pg_name (i := 8) sc_map_shown.nd rfl (Or.inl rfl)) ?lc))) ?len2) ?fg)) ?ne))))) ⟨.inr rfl, .inr rfl, .inr rfl, .inl rfl, .inr rfl, .inr rfl, .inl rfl, .inl rfl, .inl rfl, trivial⟩⟩
      case m => simp
      case r =>
        have e : ((i : Int) + (if false = true then (n : Int) else 1) - (i : Int)).toNat = 1 := by simp <;> omega
        rw [e]
        unfold rgD
        simp
      case len => rw [List.length_replicate]; omega
      case len2 => rw [List.length_map, List.length_range]; omega
      case lc =>
        refine lc_map (fun x : Nat => .int x) (fun x : Nat => .str (ltr (showS (lev s) x))) (fun x : Nat => (wipeR [some (.im (mapD K false n told)), some (.im (.tup (nt s))), some (.im (.lst (nt (lev s)))), some (.im (.int (i : Int))), some (.mu (List.replicate i (.tup []) ++ [.tup []])), some (.mu ((List.range (min i (n - 1))).map fun k => .tup [.str (ltr (showS (lev s) k))])), some (.im (.int (i : Int))), some (.im (.lst [.int (i : Int)])), none] [8]).set 8 (some (.im (.int x)))) [i] fun x hx => ?_
        rw [List.mem_singleton] at hx
        subst hx
        have z : x + 1 < n := by have z := of_decide_eq_true q; simp at z; omega
        exact ⟨tg_name, tsB_nil, eB fun _ _ _ _ _ => x_call (c_u_shown c false x hn hlv z) hr (xa_cons (x_var (i := 0) rfl) (xa_cons (x_var (i := 2) rfl) (xa_cons (x_var (i := 8) rfl) (xa_cons (x_bin op_add (x_var (i := 8) rfl) (x_fld (cl_Map c) (na_Map_columns c) (x_var (i := 0) rfl) rfl) rd_I0) xa_nil))))⟩
      case fg =>
        have z : i + 1 < n := by have z := of_decide_eq_true q; simp at z; omega
        have z1 : min i (n - 1) = i := by omega
        have z2 : min (i + 1) (n - 1) = i + 1 := by omega
        rw [z1, z2]
        refine ⟨.inr rfl, .inr rfl, .inr rfl, .inr rfl, .inr ?_, .inr ?_, .inr rfl, .inr rfl, .inr rfl, trivial⟩
        · rw [List.replicate_succ']
        · rw [List.range_succ, List.map_append]; rfl
      case ne =>
        intro q
        have z : ¬ i + 1 < n := by have z := of_decide_eq_false q; simp at z; omega
        have z2 : min i (n - 1) = min (i + 1) (n - 1) := by omega
        rw [← z2, List.replicate_succ']
        exact s_nil
end
end K82
/-! ## part W6 -/
/-! Walks: piles of strips. -/
namespace K82
open PySem PySem.Spec PyProof.Rows L2
/-- a pile of a strip -/
def pilD (K : PySem.W.Frag) (ly : List Nat) : Dt := .ins (C_Pile_piling K) [("length", .int 1), ("layers", .lst (nt ly))]
def upH (n k t : Nat) : Bool := decide ((k + 1) % n % 2 = 1) == decide (t = 1)
/-- the layers of the first pile behind j steps -/
def pileL (n : Nat) (tw : List Nat) : Nat → List Nat
  | 0 => [0]
  | j + 1 => if upH n j (tw.getD j 0) then pileL n tw j ++ [j + 1] else (j + 1) :: pileL n tw j
def pilesD (K : PySem.W.Frag) (n j : Nat) (ly : List Nat) : List Dt := pilD K ly :: ((List.range (n - (j + 1))).map fun i => pilD K [j + 1 + i])
def rowF (K : PySem.W.Frag) (n : Nat) (tw : List Nat) (j : Nat) : List (Str × Dt) := [("size", .int n), ("is_ring", .bl false), ("piles", .lst (pilesD K n j (pileL n tw j))), ("creases", .lst ((enD (ls tw)).drop j))]
theorem pileL_len (n : Nat) (tw : List Nat) : ∀ j, (pileL n tw j).length = j + 1
  | 0 => rfl
  | j + 1 => by
    unfold pileL
    split
    · rw [List.length_append, pileL_len n tw j]; rfl
    · rw [List.length_cons, pileL_len n tw j]
theorem pilesD_len (K : PySem.W.Frag) (n j : Nat) (ly : List Nat) (h : j < n) : (pilesD K n j ly).length = n - j := by
  unfold pilesD
  rw [List.length_cons, List.length_map, List.length_range]
  omega
theorem pilesD_two (K : PySem.W.Frag) {n j : Nat} (ly : List Nat) (h : j + 1 < n) : pilesD K n j ly = pilD K ly :: pilD K [j + 1] :: ((List.range (n - (j + 2))).map fun i => pilD K [j + 2 + i]) := by
  unfold pilesD
  have e : n - (j + 1) = (n - (j + 2)) + 1 := by omega
  rw [e, List.range_succ_eq_map, List.map_cons, List.map_map]
  congr 3
  funext i
  simp only [Function.comp]
  congr 2
  omega
theorem enD_len (ds : List Dt) : (enD ds).length = ds.length := by unfold enD; rw [List.length_map, List.length_zipIdx]
theorem enD_get {ds : List Dt} {i : Nat} {d : Dt} (h : ds[i]? = some d) : (enD ds)[i]? = some (.tup [.int (i : Int), d]) := by
  unfold enD
  rw [List.getElem?_map, List.getElem?_zipIdx, h]
  simp
section
variable {P : Program} {w : World} {K : PySem.W.Frag} {mg : Str → Option Value} {base : Heap}
theorem c_is_higher (c : Fx w K mg) {n k t : Nat} (hn : 1 ≤ n) (hn6 : n ≤ 6) (ht : t < 3) : Cl P w K mg base 1 "is_higher" (spD K [.str (ltr t), .int k, .int n] (.bl (upH n k t))) := by
  refine to_is_higher c fun f fd F => def_ok F sc_is_higher rfl fun cdv A outer s' H E hr => ⟨_, s_cons (s_set (i := 3) sc_is_higher.nd (x_cmp op_eq (nomark _) (x_bin op_mod (x_bin op_mod (x_bin op_add (x_var (i := 1) rfl) x_int rd_I0) (x_var (i := 2) rfl) (rd_I ?m)) x_int (rd_I (by decide))) x_int (rd_eq rfl rfl rfl)))
    (s_one (s_ret ((x_cmp op_eq (nomark _) (x_var (i := 3) rfl) (x_cmp op_eq (nomark _) (x_var (i := 0) rfl) (x_gstr (v_VALLEY c)) (rd_eq rfl rfl rfl)) (rd_eq rfl rfl rfl)).is ?f))), .inl rfl⟩
  case m => simp <;> omega
  case f =>
    congr 1
    have h1 : decide (Dt.v (.str (ltr t)) = Dt.v (.str "V")) = decide (t = 1) := by
      have : ∀ t < 3, decide (Dt.v (.str (ltr t)) = Dt.v (.str "V")) = decide (t = 1) := by decide +kernel
      exact this t ht
    have hc : (((k : Int) + 1) % (n : Int)) = (((k + 1) % n : Nat) : Int) := by push_cast; rfl
    rw [hc]
    have h2 : decide (Dt.v (.int ((((k + 1) % n : Nat) : Int) % 2)) = Dt.v (.int 1)) = decide ((k + 1) % n % 2 = 1) := decide_eq_decide.mpr ⟨fun q => by have q' : ((((k + 1) % n : Nat) : Int) % 2) = 1 := V.int.inj q; omega, fun q => congrArg V.int (by omega)⟩
    rw [h1, h2]
    have h3 : ∀ a b : Bool, decide (Dt.v (.bl a) = Dt.v (.bl b)) = (a == b) := by decide +kernel
    exact h3 _ _
theorem mk_Pile (c : Fx w K mg) (ly : List Nat) : Mk' P w K mg base 1 "Pile_piling" (C_Pile_piling K) (spI K (C_Pile_piling K) [.int 1, .lst (nt ly)] [("length", .int 1), ("layers", .lst (nt ly))]) := by
  refine to_Pile_piling_init c fun f fd F => def_okI F sc_Pile_piling_init rfl fun p dx cdv A outer s' H E hr => ⟨_, s_cons (s_fldM (i := 0) (cl_Pile_piling c) (na_Pile_piling_length c) rfl (x_var (i := 1) rfl)) (s_one (s_fldM (i := 0) (cl_Pile_piling c) (na_Pile_piling_layers c) rfl (x_var (i := 2) rfl))), rfl⟩
theorem c_with_beside (c : Fx w K mg) (a b : List Nat) (up : Bool) (ha : a.length ≤ 10) (hb : b.length ≤ 10) : Mt P w K mg base 3 (C_Pile_piling K) "with_beside" (spD K [pilD K a, pilD K b, .bl up, .int 1] (pilD K (if up then a ++ b else b ++ a))) := by
  refine to_Pile_piling_with_beside c fun f fd F => def_ok F sc_Pile_piling_with_beside rfl fun cdv A outer s' H E hr => ⟨.rt (pilD K (if up then a ++ b else b ++ a)), s_ifR (xt_val (x_var (i := 2) rfl)) (fun q => s_one (s_ret ((XI.toD (xi_make (mk_Pile c (a ++ b)) hr (xa_cons (x_var (i := 3) rfl) (xa_cons ((XN.toD (xn_catL (x_fld (cl_Pile_piling c) (na_Pile_piling_layers c) (x_var (i := 0) rfl) rfl) (x_fld (cl_Pile_piling c) (na_Pile_piling_layers c) (x_var (i := 1) rfl) rfl) ?l1)).is ?e1) xa_nil)))).is ?f1))) rfl
    (fun q => s_one (s_ret ((XI.toD (xi_make (mk_Pile c (b ++ a)) hr (xa_cons (x_var (i := 3) rfl) (xa_cons ((XN.toD (xn_catL (x_fld (cl_Pile_piling c) (na_Pile_piling_layers c) (x_var (i := 1) rfl) rfl) (x_fld (cl_Pile_piling c) (na_Pile_piling_layers c) (x_var (i := 0) rfl) rfl) ?l2)).is ?e2) xa_nil)))).is ?f2))), .inl rfl⟩
  case l1 => rw [nt_len, nt_len]; omega
  case l2 => rw [nt_len, nt_len]; omega
  case e1 => unfold nt; rw [List.map_append]
  case e2 => unfold nt; rw [List.map_append]
  case f1 => rw [q]; rfl
  case f2 => rw [q]; rfl
theorem c_Row_up (c : Fx w K mg) {n j : Nat} {tw : List Nat} (hn : n ≤ 6) (hj : j + 1 < n) (hl : tw.length = n - 1) (ht : ∀ t ∈ tw, t < 3) : Mt P w K mg base 2 (C_Row K) "_up" (spD K [.ins (C_Row K) (rowF K n tw j), .int 0] (.bl (upH n j (tw.getD j 0)))) := by
  have g : tw[j]? = some (tw.getD j 0) := getD_get (by omega)
  have h3 : tw.getD j 0 < 3 := ht _ (List.mem_of_getElem? g)
  refine to_Row_up c fun f fd F => def_ok F sc_Row_up rfl fun cdv A outer s' H E hr => ⟨_, s_cons (s_asg (vs := [2, 3]) (x_ixR (d := .tup [.int (j : Int), .str (ltr (tw.getD j 0))]) (XE.toR (x_fld (cl_Row c) (na_Row_creases c) (x_var (i := 0) rfl) rfl)) (x_var (i := 1) rfl) ?at_) (pg_tup rfl (pgs_cons (pg_name (i := 2) sc_Row_up.nd rfl (Or.inl rfl)) (pgs_cons (pg_name (i := 3) sc_Row_up.nd rfl (Or.inl rfl)) pgs_nil))) (tg_tup rfl (tgs_cons tg_name (tgs_cons tg_name tgs_nil))))
    (s_one (s_ret (x_call (c_is_higher c (by omega) hn h3) hr (xa_cons (x_var (i := 3) rfl) (xa_cons (x_var (i := 2) rfl) (xa_cons (x_fld (cl_Row c) (na_Row_size c) (x_var (i := 0) rfl) rfl) xa_nil)))))), .inl rfl⟩
  case at_ =>
    have e : ((enD (ls tw)).drop j)[0]? = some (.tup [.int (j : Int), .str (ltr (tw.getD j 0))]) := by
      rw [List.getElem?_drop, Nat.add_zero]
      exact enD_get (ls_get g)
    exact at_nat (i := 0) e
theorem c_fold_end (c : Fx w K mg) {n j : Nat} {tw : List Nat} (hn : n ≤ 6) (hj : j + 1 < n) (hl : tw.length = n - 1) (ht : ∀ t ∈ tw, t < 3) : Mt P w K mg base 4 (C_Row K) "fold_end" (spM K (C_Row K) (rowF K n tw j) (rowF K n tw (j + 1)) [] (.bl true)) := by
  have hlen := pileL_len n tw j
  refine to_Row_fold_end c fun f fd F => def_okM F sc_Row_fold_end rfl fun p dx cdv A outer s' H E hr => ⟨_, s_cons (s_ifF (xt_cmp op_lt (nomark _) (x_lenR (z_len c) (XE.toR (x_fldM (i := 0) (cl_Row c) (na_Row_piles c) rfl rfl))) x_int rd_B0) ?k1 s_nil)
    (s_cons (s_par (i := 1) (j := 2) sc_Row_fold_end.nd (xa_cons (x_ixR (d := pilD K (pileL n tw j)) (XE.toR (x_fldM (i := 0) (cl_Row c) (na_Row_piles c) rfl rfl)) x_int ?a1) (xa_cons (x_ixR (d := pilD K [j + 1]) (XE.toR (x_fldM (i := 0) (cl_Row c) (na_Row_piles c) rfl rfl)) x_int ?a2) xa_nil)))
    (s_end (s_ifT (xt_cmp op_le (nomark _) (x_fld (cl_Pile_piling c) (na_Pile_piling_length c) (x_var (i := 1) rfl) rfl) (x_fld (cl_Pile_piling c) (na_Pile_piling_length c) (x_var (i := 2) rfl) rfl) rd_B0) rfl
      (s_cons (s_fldM (i := 0) (cl_Row c) (na_Row_piles c) rfl ((XN.toD (xn_catL (XN.toD (xn_lst (xa_cons (x_meth (c_with_beside c [j + 1] (pileL n tw j) (!upH n j (tw.getD j 0)) (by simp) (by omega)) hr (x_var (i := 2) rfl) (xa_cons (x_var (i := 1) rfl) (xa_cons (x_not (x_methL (c_Row_up c hn hj hl ht) hr (i := 0) rfl (xa_cons x_int xa_nil) rfl rfl)) (xa_cons (x_fld (cl_Pile_piling c) (na_Pile_piling_length c) (x_var (i := 2) rfl) rfl) xa_nil))) rfl) xa_nil)))
          (XN.toD (xn_slice (XE.toR (x_fldM (i := 0) (cl_Row c) (na_Row_piles c) rfl rfl)) (xo_some x_int) xo_none)) ?l1)).is (d2 := .lst (pilesD K n (j + 1) (pileL n tw (j + 1)))) ?e1))
      (s_cons (s_fldM (i := 0) (cl_Row c) (na_Row_creases c) rfl ((XN.toD (xn_slice (XE.toR (x_fldM (i := 0) (cl_Row c) (na_Row_creases c) rfl rfl)) (xo_some x_int) xo_none)).is (d2 := .lst ((enD (ls tw)).drop (j + 1))) ?e2))
      (s_one (s_retK x_bl))))) rfl)), rfl⟩
  case k1 =>
    have e := pilesD_len K n j (pileL n tw j) (by omega)
    rw [e]
    exact decide_eq_false (by omega)
  case a1 => exact at_nat (i := 0) rfl
  case a2 => rw [pilesD_two K _ hj]; exact at_nat (i := 1) rfl
  case l1 =>
    have e : (cutD (pilesD K n j (pileL n tw j)) (some 2) none).length ≤ 100 := by
      have e2 : cutD (pilesD K n j (pileL n tw j)) (some 2) none = (pilesD K n j (pileL n tw j)).drop 2 := cut_drop _ 2
      rw [e2, List.length_drop, pilesD_len K n j _ (by omega)]; omega
    simp only [List.length_cons, List.length_nil]; omega
  case e1 =>
    have e2 : cutD (pilesD K n j (pileL n tw j)) (some 2) none = (pilesD K n j (pileL n tw j)).drop 2 := cut_drop _ 2
    rw [e2, pilesD_two K _ hj]
    show Dt.lst (pilD K (if (!upH n j (tw.getD j 0)) = true then [j + 1] ++ pileL n tw j else pileL n tw j ++ [j + 1]) :: ((List.range (n - (j + 2))).map fun i => pilD K [j + 2 + i])) = _
    have e3 : (if (!upH n j (tw.getD j 0)) = true then [j + 1] ++ pileL n tw j else pileL n tw j ++ [j + 1]) = pileL n tw (j + 1) := by
      show _ = if upH n j (tw.getD j 0) then pileL n tw j ++ [j + 1] else (j + 1) :: pileL n tw j
      cases upH n j (tw.getD j 0) <;> rfl
    rw [e3]
    rfl
  case e2 =>
    have e : cutD ((enD (ls tw)).drop j) (some 1) none = ((enD (ls tw)).drop j).drop 1 := cut_drop _ 1
    rw [e, List.drop_drop]
theorem c_fold_end0 (c : Fx w K mg) {n : Nat} {tw : List Nat} (hn : 1 ≤ n) (hn6 : n ≤ 6) : Mt P w K mg base 4 (C_Row K) "fold_end" (spM K (C_Row K) (rowF K n tw (n - 1)) (rowF K n tw (n - 1)) [] (.bl false)) := by
  refine to_Row_fold_end c fun f fd F => def_okM F sc_Row_fold_end rfl fun p dx cdv A outer s' H E hr => ⟨_, s_end (s_ifT (xt_cmp op_lt (nomark _) (x_lenR (z_len c) (XE.toR (x_fldM (i := 0) (cl_Row c) (na_Row_piles c) rfl rfl))) x_int rd_B0) ?k1 (s_one (s_retK x_bl))) rfl, rfl⟩
  case k1 =>
    have e := pilesD_len K n (n - 1) (pileL n tw (n - 1)) (by omega)
    rw [e]
    exact decide_eq_true (by omega)
theorem c_crimp0 (c : Fx w K mg) {n : Nat} {tw : List Nat} (hn : 1 ≤ n) (hn6 : n ≤ 6) : Mt P w K mg base 4 (C_Row K) "crimp_any" (spM K (C_Row K) (rowF K n tw (n - 1)) (rowF K n tw (n - 1)) [] (.bl false)) := by
  have e := pilesD_len K n (n - 1) (pileL n tw (n - 1)) (by omega)
  have e0 : rgD 1 (((pilesD K n (n - 1) (pileL n tw (n - 1))).length : Int) - 1 - 1).toNat = [] := by
    rw [e]
    have : (((n - (n - 1) : Nat) : Int) - 1 - 1).toNat = 0 := by omega
    rw [this]; rfl
  refine to_Row_crimp_any c fun f fd F => def_okM F sc_Row_crimp_any rfl fun p dx cdv A outer s' H E hr => ⟨_, s_cons (s_ifF (xt_val (x_fldM (i := 0) (cl_Row c) (na_Row_is_ring c) rfl rfl)) rfl s_nil)
    (s_consK (s_for (xi_range2 (z_range c) x_int (x_bin op_sub (x_lenR (z_len c) (XE.toR (x_fldM (i := 0) (cl_Row c) (na_Row_piles c) rfl rfl))) x_int rd_I0) ?b) (pg_name (i := 1) sc_Row_crimp_any.nd rfl (Or.inl rfl)) (vs := [1]) ?l)
    (s_one (s_retK x_bl))), rfl⟩
  case b => rw [e]; omega
  case l => rw [e0]; exact for_nil
theorem mk_Row_ (c : Fx w K mg) {n : Nat} {tw : List Nat} (hn : 1 ≤ n) (hn6 : n ≤ 6) (hl : tw.length = n - 1) : Mk' P w K mg base 3 "Row" (C_Row K) (spI K (C_Row K) [.tup (nt (List.replicate n 1)), .tup (ls tw), .bl false] (rowF K n tw 0)) := by
  refine to_Row_init c fun f fd F => def_okI F sc_Row_init rfl fun p dx cdv A outer s' H E hr => ⟨_, s_cons (s_fldM (i := 0) (cl_Row c) (na_Row_size c) rfl ((x_lenT (z_len c) (x_var (i := 1) rfl)).is (d2 := .int n) ?n1))
    (s_cons (s_fldM (i := 0) (cl_Row c) (na_Row_is_ring c) rfl (x_var (i := 3) rfl))
    (s_cons (s_fldM (i := 0) (cl_Row c) (na_Row_piles c) rfl (XN.toD (XN.is (ds1 := (List.range n).map fun i => pilD K [i]) (ds2 := pilesD K n 0 (pileL n tw 0)) (xn_lc (own := [("number", 4), ("length", 5)]) (g := gTup K 2 (gCons (gName 4) (gCons (gName 5) gNil))) sc_Row_init.nd (xi_enumT (z_enumerate c) (x_var (i := 1) rfl)) ?len (blkOk_by (N := N_Row_init) (sc := defScope s_Row_init) (by decide +kernel)) ?hg ?lc) ?e1)))
    (s_one (s_fldM (i := 0) (cl_Row c) (na_Row_creases c) rfl (XN.toD (xn_listEnum (z_list c) (z_enumerate c) (x_var (i := 2) rfl) (by rw [ls_len]; omega))))))), rfl⟩
  case n1 => rw [nt_len, List.length_replicate]
  case len => rw [enD_len, nt_len, List.length_replicate]; omega
  case hg => exact fun _ _ _ _ _ => pg_tup rfl (pgs_cons (pg_name (i := 4) sc_Row_init.nd rfl (Or.inl rfl)) (pgs_cons (pg_name (i := 5) sc_Row_init.nd rfl (Or.inl rfl)) pgs_nil))
  case lc =>
    have e : enD (nt (List.replicate n 1)) = (List.range n).map fun i => .tup [.int (i : Int), .int 1] := by
      unfold enD nt
      apply List.ext_getElem?
      intro i
      rw [List.getElem?_map, List.getElem?_zipIdx, List.getElem?_map, List.getElem?_map, List.getElem?_replicate]
      by_cases h : i < n
      · rw [if_pos h, List.getElem?_range h]; simp
      · rw [if_neg h, List.getElem?_eq_none (l := List.range n) (by rw [List.length_range]; omega)]; rfl
    rw [e]
    exact lc_map (fun i : Nat => .tup [.int (i : Int), .int 1]) (fun i : Nat => pilD K [i]) (fun i : Nat => ((wipeR _ [4, 5]).set 4 (some (.im (.int (i : Int))))).set 5 (some (.im (.int 1)))) (List.range n) fun i hi =>
      ⟨tg_tup rfl (tgs_cons tg_name (tgs_cons tg_name tgs_nil)), tsB_nil, eB fun _ _ _ _ _ => XI.toD (xi_make (mk_Pile c [i]) hr (xa_cons (x_var (i := 5) rfl) (xa_cons (XN.toD (xn_lst (xa_cons (x_var (i := 4) rfl) xa_nil))) xa_nil)))⟩
  case e1 =>
    unfold pilesD pileL
    have e : n = (n - 1) + 1 := by omega
    conv => lhs; rw [e]
    rw [List.range_succ_eq_map, List.map_cons, List.map_map]
    congr 2
    funext i
    simp only [Function.comp]
    congr 2
    omega
theorem c_piled (c : Fx w K mg) {n : Nat} {tw : List Nat} (hn : 1 ≤ n) (hn6 : n ≤ 6) (hl : tw.length = n - 1) (ht : ∀ t ∈ tw, t < 3) : Cl P w K mg base 5 "piled" (spD K [.tup (nt (List.replicate n 1)), .tup (ls tw)] (.tup (nt (pileL n tw (n - 1))))) := by
  refine to_piled c fun f fd F => def_ok F sc_piled rfl fun cdv A outer s' H E hr => ⟨_, s_cons (s_setI (i := 2) sc_piled.nd (xi_make (mk_Row_ c hn hn6 hl) hr (xa_cons (x_var (i := 0) rfl) (xa_cons (x_var (i := 1) rfl) (xa_cons x_bl xa_nil)))))
    (s_cons (ρ1 := [some (.im (.tup (nt (List.replicate n 1)))), some (.im (.tup (ls tw))), some (.mi none (C_Row K) (rowF K n tw (n - 1)))]) (s_while (n := n - 1) ?wh)
    (s_freezeI 2 rfl (s_one (s_ret (x_tupOf (z_tuple c) (XE.toR (x_fld (cl_Pile_piling c) (na_Pile_piling_layers c) (x_ixR (d := pilD K (pileL n tw (n - 1))) (XE.toR (x_fld (cl_Row c) (na_Row_piles c) (x_var (i := 2) rfl) rfl)) x_int (at_nat (i := 0) rfl)) rfl))))))), .inl rfl⟩
  case wh =>
    exact wh_go (fun j => [some (.im (.tup (nt (List.replicate n 1)))), some (.im (.tup (ls tw))), some (.mi none (C_Row K) (rowF K n tw j))]) (n - 1)
      (fun j hj => xm_w (xm_orT (xm_val (xm_meth0 (c_fold_end c hn6 (by omega) hl ht) hr (i := 2) rfl rfl))))
      (xm_w (xm_orF (xm_val (xm_meth0 (c_fold_end0 c hn hn6) hr (i := 2) rfl rfl)) (xm_or1 (xm_val (xm_meth0 (c_crimp0 c hn hn6) hr (i := 2) rfl rfl)))))
      (fun j => s_one s_pass)
end
end K82
/-! ## part W7 -/
/-! Walks: steps of strips, tellings, folds. -/
namespace K82
open PySem PySem.Spec PyProof.Rows L2
def leD : Dt := .tup [.str "left"]
def riD : Dt := .tup [.str "right"]
theorem le_sh : leD.sh 64 = true := by decide +kernel
def one (m : Nat) : Dt := .tup (nt (List.replicate m 1))
/-- the step that is due for m segments of length 1 -/
def stD (m : Nat) : Dt := if 1 < m then leD else .non
def wayS (t : Nat) : Nat := if t = 2 then 2 else 1
def cntL (tw : List Nat) : Nat := tw.foldl (fun a t => a * wayS t) 1
def wayD (t : Nat) : Dt := .tup [.int ((if t = 1 then 0 else 1 : Nat) : Int), .int ((if t = 0 then 0 else 1 : Nat) : Int)]
def prsD (tw : List Nat) : List Dt := tw.map wayD
def told0 (tw : List Nat) : List Nat := tw.map fun t => if t = 2 then 0 else t
theorem one_len (m : Nat) : (nt (List.replicate m 1)).length = m := by rw [nt_len, List.length_replicate]
theorem cntL_pos : ∀ (tw : List Nat) (a : Nat), 0 < a → 0 < tw.foldl (fun a t => a * wayS t) a
  | [], a, h => h
  | t :: tw, a, h => cntL_pos tw _ (Nat.mul_pos h (by unfold wayS; split <;> omega))
theorem cntL_le : ∀ (tw : List Nat) (a : Nat), tw.foldl (fun a t => a * wayS t) a ≤ a * 2 ^ tw.length
  | [], a => by simp
  | t :: tw, a => by
    rw [List.foldl_cons, List.length_cons, Nat.pow_succ]
    refine Nat.le_trans (cntL_le tw _) ?_
    have h : wayS t ≤ 2 := by unfold wayS; split <;> omega
    calc a * wayS t * 2 ^ tw.length ≤ a * 2 * 2 ^ tw.length := Nat.mul_le_mul_right _ (Nat.mul_le_mul_left _ h)
      _ = a * (2 ^ tw.length * 2) := by rw [Nat.mul_assoc, Nat.mul_comm 2]
theorem cntL_take {tw : List Nat} {j : Nat} (h : j < tw.length) : cntL (tw.take (j + 1)) = cntL (tw.take j) * wayS (tw.getD j 0) := by
  unfold cntL
  rw [List.take_succ, List.foldl_append]
  rw [getD_get h]
  rfl
section
variable {X : Cx} {ρ : Rho} {a : Expr} {pos p py : Pos} {d d1 : Dt} {ds : List Dt} {x y : Str}
/-- f(a, own list): what is said of it says nothing of the heap -/
theorem x_callMu {i k j : Nat} (cl : Cl X.prog X.w X.K X.mg X.base k x (spD X.K [d1, .lst ds] d)) (hr : Room j X.A) (ha : XE X a ρ d1) (he : ρ[i]? = some (some (.mu ds))) (hl : d.lite = true) (hk : k ≤ j := by decide) (hg : Gl X x := by rfl)
    (hdb : (x == ("__debug__" : Str)) = false := by decide) (h1 : starEach [a, .Name y py] X.env = (false, eval a X.env) :: starEach [.Name y py] X.env := by rfl) (h2 : starEach [.Name y py] X.env = (false, eval (.Name y py) X.env) :: starEach [] X.env := by rfl) (hpl : (backTo pos (starEach [.Name y py] X.env)).any (·.1) = false := by rfl)
    (hN : X.N[i]? = some y := by rfl) (hv : Vis X.env.scope y := by first | exact Or.inl rfl | exact Or.inr (Or.inl rfl) | exact Or.inr (Or.inr rfl)) (hd : (y == ("__debug__" : Str)) = false := by decide) (hcd : (y == ("__classdict__" : Str)) = false := by decide) : XE X (.Call (.Name x p) [a, .Name y py] [] pos) ρ d := by
  obtain ⟨f, fd, ps, c1, c2, c3, c4⟩ := cl.ex
  exact EvD.of (pe_call c1 (hr.mono hk) hg c2 c3 c4 .nil pass0 (pa_cons pe_wp (pa_cons (pe_var hN hv hd hcd) pa_nil h2) h1) hdb h1 hpl) fun F0 H0 F H σ S Q q => ha F0 H0 F H σ S _ fun v1 F2 H2 g dv => by
    obtain ⟨v, k1, l, xs, rfl, k3, k4, k5, k6⟩ := (S.mono g).ok i _ he
    have eF : Ex F2 (upd F2 l (.lst xs)) := Ex.new k4
    refine ⟨_, k1, upd F2 l (.lst xs), fun b o w => ?_, DenL.cons (dv.mono eF) (DenL.cons (den_lst upd_same (k6.mono eF)) DenL.nil), fun v F3 H3 g3 d3 => q v F2 H3 (g.trans (Gr.back eF g3)) (d3.lite hl)⟩
    by_cases z : b = l
    · subst z; rw [upd_same] at w; cases w; exact k5
    · rw [upd_ne z] at w; exact g.s _ _ w
end
section
variable {P : Program} {w : World} {K : PySem.W.Frag} {mg : Str → Option Value} {base : Heap}
theorem d_LEFT (c : Fx w K mg) (F : Hp) : Den K F leD (.ref (He.ga K "LEFT")) := by
  obtain ⟨_, _, _, x⟩ := c.hx
  have h := x.more
  unfold ex at h
  rw [Bool.and_eq_true] at h
  exact den_tup (He.tupB_ok h.1 F) (DenL.cons (by simp only [Den]; rfl) DenL.nil)
theorem d_RIGHT (c : Fx w K mg) (F : Hp) : Den K F riD (.ref (He.ga K "RIGHT")) := by
  obtain ⟨_, _, _, x⟩ := c.hx
  have h := x.more
  unfold ex at h
  rw [Bool.and_eq_true] at h
  exact den_tup (He.tupB_ok h.2 F) (DenL.cons (by simp only [Den]; rfl) DenL.nil)
theorem x_LEFT (c : Fx w K mg) {X : Cx} {ρ : Rho} {pos : Pos} (hm : X.mg = mg) (hK : X.K = K) (hg : Gl X "LEFT" := by rfl) : XE X (.Name "LEFT" pos) ρ leD := x_glob (v := .ref (He.ga K "LEFT")) (by rw [hm]; exact g_LEFT c) rfl (fun F => by rw [hK]; exact d_LEFT c F) hg
theorem x_RIGHT (c : Fx w K mg) {X : Cx} {ρ : Rho} {pos : Pos} (hm : X.mg = mg) (hK : X.K = K) (hg : Gl X "RIGHT" := by rfl) : XE X (.Name "RIGHT" pos) ρ riD := x_glob (v := .ref (He.ga K "RIGHT")) (by rw [hm]; exact g_RIGHT c) rfl (fun F => by rw [hK]; exact d_RIGHT c F) hg
theorem c_u_is_end (c : Fx w K mg) {m : Nat} (h1 : 1 < m) (h6 : m ≤ 6) : Cl P w K mg base 1 "_is_end" (spD K [one m, leD] (.bl true)) := by
  refine to_u_is_end c fun f fd F => def_ok F sc_u_is_end rfl fun cdv A outer s' H E hr => ⟨_, s_cons (s_ifF (xt_cmp op_lt (nomark _) (x_lenT (z_len c) (x_var (i := 0) rfl)) x_int rd_B0) ?k1 s_nil)
    (s_one (s_ret (x_or (k2 := true) (x_and (x_cmp (op_eqD hr.units) (nomark _) (x_var (i := 1) rfl) (x_LEFT c rfl rfl) (rd_eqR rfl le_sh)) fun _ => x_one (x_cmp op_le (nomark _) (x_ixT (d := .int 1) (x_var (i := 0) rfl) x_int ?a0) (x_ixT (d := .int 1) (x_var (i := 0) rfl) x_int ?a1) rd_B0)) fun h => absurd h (by decide)))), .inl rfl⟩
  case k1 => rw [one_len]; exact decide_eq_false (by omega)
  case a0 => exact at_nt (i := 0) (by rw [List.getElem?_replicate, if_pos (by omega)])
  case a1 => exact at_nt (i := 1) (by rw [List.getElem?_replicate, if_pos (by omega)])
theorem c_due_step (c : Fx w K mg) {m : Nat} (h1 : 1 ≤ m) (h6 : m ≤ 6) : Cl P w K mg base 2 "due_step" (spD K [one m] (stD m)) := by
  by_cases h : 1 < m
  · refine to_due_step c fun f fd F => def_ok F sc_due_step rfl fun cdv A outer s' H E hr => ⟨.rt (stD m), s_cons (s_ifF (xt_cmp op_eq (nomark _) (x_lenT (z_len c) (x_var (i := 0) rfl)) x_int (rd_eq rfl rfl rfl)) ?k1 s_nil)
      (s_end (s_for (xi_tup (x_tup (xa_cons (x_LEFT c rfl rfl) (xa_cons (x_RIGHT c rfl rfl) xa_nil)))) (pg_name (i := 1) sc_due_step.nd rfl (Or.inl rfl)) (vs := [1]) (for_ret tg_name (s_end (s_ifT (xt_val (x_call (c_u_is_end c h h6) hr (xa_cons (x_var (i := 0) rfl) (xa_cons (x_var (i := 1) rfl) xa_nil)))) rfl (s_one (s_ret ((x_var (i := 1) rfl).is ?f)))) rfl) rfl)) rfl), .inl rfl⟩
    case k1 =>
      rw [one_len]
      exact decide_eq_false fun q => by have q' := V.int.inj q; omega
    case f => unfold stD; rw [if_pos h]
  · refine to_due_step c fun f fd F => def_ok F sc_due_step rfl fun cdv A outer s' H E hr => ⟨.rt (stD m), s_end (s_ifT (xt_cmp op_eq (nomark _) (x_lenT (z_len c) (x_var (i := 0) rfl)) x_int (rd_eq rfl rfl rfl)) ?k1 (s_one (s_ret (x_non.is ?f)))) rfl, .inl rfl⟩
    case k1 =>
      rw [one_len]
      exact decide_eq_true (congrArg V.int (by omega))
    case f => unfold stD; rw [if_neg h]
theorem c_is_step (c : Fx w K mg) {m : Nat} {tw : List Nat} (h1 : 1 < m) (h6 : m ≤ 6) : Cl P w K mg base 2 "is_step" (spD K [.tup [one m, .tup (ls tw)], leD] (.bl true)) := by
  refine to_is_step c fun f fd F => def_ok F sc_is_step rfl fun cdv A outer s' H E hr => ⟨.rt (.bl true), s_cons (s_asg (vs := [2, 3]) (x_var (i := 0) rfl) (pg_tup rfl (pgs_cons (pg_name (i := 2) sc_is_step.nd rfl (Or.inr rfl)) (pgs_cons (pg_name (i := 3) sc_is_step.nd rfl (Or.inl rfl)) pgs_nil))) (tg_tup rfl (tgs_cons tg_name (tgs_cons tg_name tgs_nil))))
    (s_cons (s_ifF (xt_w (xw_or (xt_not (xt_val (x_isi (z_isinstance c) (z_tuple c) b_tuple (x_var (i := 1) rfl) rfl k_tup_tup))) fun _ => xw_or (xt_cmp op_notIn_seq rfl (x_lenT (ds := [.str "left"]) (z_len c) (x_var (i := 1) rfl)) (x_tup (xa_cons x_int (xa_cons x_int xa_nil))) (rd_inT (neg := true) rfl rfl)) fun _ => xw_or1 (xt_not (xt_val (x_isi (z_isinstance c) (z_str c) b_str (x_ixT (d := .str "left") (x_var (i := 1) rfl) x_int rfl) rfl k_str_str))))) ?k1 s_nil)
    (s_end (s_ifT (xt_cmp op_eq (nomark _) (x_lenT (ds := [.str "left"]) (z_len c) (x_var (i := 1) rfl)) x_int (rd_eq rfl rfl rfl)) rfl (s_one (s_ret (x_call (c_u_is_end c h1 h6) hr (xa_cons (x_var (i := 2) rfl) (xa_cons (x_var (i := 1) rfl) xa_nil)))))) rfl)), .inl rfl⟩
  case k1 => decide +kernel
theorem one_cut (m : Nat) : cutD (nt (List.replicate m 1)) (some 1) none = nt (List.replicate (m - 1) 1) := by
  have e : cutD (nt (List.replicate m 1)) (some 1) none = (nt (List.replicate m 1)).drop 1 := cut_drop _ 1
  rw [e]
  unfold nt
  rw [← List.map_drop, List.drop_replicate]
theorem ls_cut (tw : List Nat) : cutD (ls tw) (some 1) none = ls (tw.drop 1) := by
  have e : cutD (ls tw) (some 1) none = (ls tw).drop 1 := cut_drop _ 1
  rw [e]
  unfold ls
  rw [← List.map_drop]
theorem c_u_done (c : Fx w K mg) (m : Nat) (tw : List Nat) : Cl P w K mg base 1 "_done" (spD K [.tup [one m, .tup (ls tw)], leD] (.tup [one (m - 1), .tup (ls (tw.drop 1))])) := by
  refine to_u_done c fun f fd F => def_ok F sc_u_done rfl fun cdv A outer s' H E hr => ⟨.rt (.tup [one (m - 1), .tup (ls (tw.drop 1))]), s_cons (s_asg (vs := [2, 3]) (x_var (i := 0) rfl) (pg_tup rfl (pgs_cons (pg_name (i := 2) sc_u_done.nd rfl (Or.inl rfl)) (pgs_cons (pg_name (i := 3) sc_u_done.nd rfl (Or.inl rfl)) pgs_nil))) (tg_tup rfl (tgs_cons tg_name (tgs_cons tg_name tgs_nil))))
    (s_end (s_ifT (xt_cmp (op_eqD hr.units) (nomark _) (x_var (i := 1) rfl) (x_LEFT c rfl rfl) (rd_eqR rfl le_sh)) rfl (s_one (s_ret (x_tup (xa_cons ((x_sliceT (x_var (i := 2) rfl) (xo_some x_int) xo_none).is (congrArg Dt.tup (one_cut m))) (xa_cons ((x_sliceT (x_var (i := 3) rfl) (xo_some x_int) xo_none).is (congrArg Dt.tup (ls_cut tw))) xa_nil)))))) rfl), .inl rfl⟩
theorem stD_lt {m : Nat} (h : 1 < m) : stD m = leD := by unfold stD; rw [if_pos h]
theorem stD_one : stD 1 = .non := rfl
theorem c_reduced (c : Fx w K mg) {n : Nat} {tw : List Nat} (h1 : 1 ≤ n) (h6 : n ≤ 6) : Cl P w K mg base 3 "reduced" (spD K [.tup [one n, .tup (ls tw)]] (.tup [.tup (List.replicate (n - 1) leD), .non])) := by
  refine to_reduced c fun f fd F => def_ok F sc_reduced rfl fun cdv A outer s' H E hr => ⟨_, s_cons (s_setN (i := 1) sc_reduced.nd (xn_lst xa_nil))
    (s_cons (s_set (i := 2) sc_reduced.nd (x_call (c_due_step c h1 h6) hr (xa_cons (x_ixT (x_var (i := 0) rfl) x_int rfl) xa_nil)))
    (s_cons (ρ1 := [some (.im (.tup [one (n - (n - 1)), .tup (ls (tw.drop (n - 1)))])), some (.mu (List.replicate (n - 1) leD)), some (.im (stD (n - (n - 1))))]) (s_while (n := n - 1) ?wh)
    (s_one (s_ret (x_tup (xa_cons (x_tupOf (z_tuple c) (xr_mu (i := 1) rfl)) (xa_cons x_non xa_nil))))))), .inl rfl⟩
  case wh =>
    refine wh_up (fun j => [some (.im (.tup [one (n - j), .tup (ls (tw.drop j))])), some (.mu (List.replicate j leD)), some (.im (stD (n - j)))]) (n - 1) rfl rfl (fun j hj => ?t) ?f (fun j hj => ?b)
    case t => exact XT_m ((xt_notN (x_var (i := 2) rfl)).is (by rw [stD_lt (by omega)]; rfl))
    case f =>
      have e : n - (n - 1) = 1 := by omega
      exact XT_m ((xt_notN (x_var (i := 2) rfl)).is (by rw [e]; rfl))
    case b =>
      have e1 : n - j - 1 = n - (j + 1) := by omega
      have e2 : (tw.drop j).drop 1 = tw.drop (j + 1) := List.drop_drop ..
      have e3 : List.replicate j leD ++ [leD] = List.replicate (j + 1) leD := (List.replicate_succ' ..).symm
      have e4 : stD (n - j) = leD := stD_lt (by omega)
      rw [e4]
      refine s_cons (s_ifF (xt_not (xt_val (x_call (c_is_step c (by omega) (by omega)) hr (xa_cons (x_var (i := 0) rfl) (xa_cons (x_var (i := 2) rfl) xa_nil))))) rfl s_nil)
        (s_cons (s_app (i := 1) rfl (x_var (i := 2) rfl) ?len)
        (s_cons (s_set (i := 0) sc_reduced.nd ((x_call (c_u_done c (n - j) (tw.drop j)) hr (xa_cons (x_var (i := 0) rfl) (xa_cons (x_var (i := 2) rfl) xa_nil))).is (d2 := .tup [one (n - (j + 1)), .tup (ls (tw.drop (j + 1)))]) ?f1))
        (s_one (b_fg (s_set (i := 2) sc_reduced.nd (x_call (c_due_step c (by omega) (by omega)) hr (xa_cons (x_ixT (x_var (i := 0) rfl) x_int rfl) xa_nil))) ⟨.inr rfl, .inr ?f2, .inr rfl, trivial⟩))))
      case len => rw [List.length_replicate]; omega
      case f1 => rw [e1, e2]
      case f2 => rw [← e3]
theorem w_t : ∀ t < 3, decide (Dt.v (.str (ltr t)) = Dt.v (.str "V")) = decide (t = 1) ∧ decide (Dt.v (.str (ltr t)) = Dt.v (.str "M")) = decide (t = 0) ∧ decide (Dt.v (.str (ltr t)) = Dt.v (.str "?")) = decide (t = 2) := by decide +kernel
theorem c_ways_of (c : Fx w K mg) {t : Nat} (ht : t < 3) : Cl P w K mg base 1 "ways_of" (spD K [.str (ltr t)] (wayD t)) := by
  obtain ⟨h1, h2, _⟩ := w_t t ht
  refine to_ways_of c fun f fd F => def_ok F sc_ways_of rfl fun cdv A outer s' H E hr => ⟨_, s_one (s_ret (x_tup (xa_cons ((x_ifI (xt_cmp op_eq (nomark _) (x_var (i := 0) rfl) (x_gstr (v_VALLEY c)) (rd_eq rfl rfl rfl)) (fun h => x_int) (fun h => x_int)).is (d2 := .int ((if t = 1 then 0 else 1 : Nat) : Int)) ?f1) (xa_cons ((x_ifI (xt_cmp op_eq (nomark _) (x_var (i := 0) rfl) (x_gstr (v_MOUNTAIN c)) (rd_eq rfl rfl rfl)) (fun h => x_int) (fun h => x_int)).is (d2 := .int ((if t = 0 then 0 else 1 : Nat) : Int)) ?f2) xa_nil)))), .inl rfl⟩
  case f1 =>
    rw [h1]
    by_cases z : t = 1
    · rw [decide_eq_true z, if_pos z]; rfl
    · rw [decide_eq_false z, if_neg z]; rfl
  case f2 =>
    rw [h2]
    by_cases z : t = 0
    · rw [decide_eq_true z, if_pos z]; rfl
    · rw [decide_eq_false z, if_neg z]; rfl
theorem prs_cut (tw : List Nat) : cutD (prsD tw) (some 1) none = prsD (tw.drop 1) := by
  have e : cutD (prsD tw) (some 1) none = (prsD tw).drop 1 := cut_drop _ 1
  rw [e]
  unfold prsD
  rw [← List.map_drop]
theorem way_sum (t : Nat) (ht : t < 3) : (((if t = 1 then 0 else 1 : Nat) : Int) + ((if t = 0 then 0 else 1 : Nat) : Int)) = ((wayS t : Nat) : Int) := by
  have : ∀ t < 3, (((if t = 1 then 0 else 1 : Nat) : Int) + ((if t = 0 then 0 else 1 : Nat) : Int)) = ((wayS t : Nat) : Int) := by decide +kernel
  exact this t ht
theorem c_count (c : Fx w K mg) {n : Nat} {tw : List Nat} (h1 : 1 ≤ n) (h6 : n ≤ 6) (hl : tw.length = n - 1) (ht : ∀ t ∈ tw, t < 3) : Cl P w K mg base 3 "count" (spD K [one n, .tup (ls tw)] (.int (cntL tw))) := by
  refine to_count c fun f fd F => def_ok F sc_count rfl fun cdv A outer s' H E hr => ⟨.rt (.int (cntL tw)), s_cons (s_setLc (i := 2) (outs := prsD tw) (own := [("word", 12)]) sc_count.nd (xi_tup (x_var (i := 1) rfl)) ?l1 (blkOk_by (N := N_count) (sc := defScope s_count) (by decide +kernel)) (fun _ _ _ _ _ => pg_name (i := 12) sc_count.nd rfl (Or.inl rfl)) ?lc (sw_true rfl rfl rfl (by decide)))
    (s_freeze 2 rfl (s_cons (s_set (i := 3) sc_count.nd x_int)
    (s_cons (s_set (i := 4) sc_count.nd (x_call (c_due_step c h1 h6) hr (xa_cons (x_var (i := 0) rfl) xa_nil)))
    (s_cons (ρ1 := [some (.im (one (n - (n - 1)))), some (.im (.tup (ls tw))), some (.im (.lst (prsD (tw.drop (n - 1))))), some (.im (.int (cntL (tw.take (n - 1))))), some (.im (stD (n - (n - 1)))), none, none, none, none, none, none, none, none]) (s_while (n := n - 1) ?wh)
    (s_one (s_ret ((x_var (i := 3) rfl).is ?f))))))), .inl rfl⟩
  case l1 => rw [ls_len, hl]; omega
  case lc =>
    unfold ls prsD
    exact lc_map (fun t : Nat => .str (ltr t)) wayD (fun t : Nat => (wipeR (rho0 N_count [one n, .tup (ls tw)]) [12]).set 12 (some (.im (.str (ltr t))))) tw fun t hx =>
      ⟨tg_name, tsB_nil, eB fun _ _ _ _ _ => x_call (c_ways_of c (ht t hx)) hr (xa_cons (x_var (i := 12) rfl) xa_nil)⟩
  case f => rw [List.take_of_length_le (by omega)]
  case wh =>
    refine wh_up (fun j => [some (.im (one (n - j))), some (.im (.tup (ls tw))), some (.im (.lst (prsD (tw.drop j)))), some (.im (.int (cntL (tw.take j)))), some (.im (stD (n - j))), none, none, none, none, none, none, none, none]) (n - 1) rfl rfl (fun j hj => ?t) ?f0 (fun j hj => ?b)
    case t => exact XT_m ((xt_notN (x_var (i := 4) rfl)).is (by rw [stD_lt (by omega)]; rfl))
    case f0 =>
      have e : n - (n - 1) = 1 := by omega
      exact XT_m ((xt_notN (x_var (i := 4) rfl)).is (by rw [e]; rfl))
    case b =>
      have e1 : n - j - 1 = n - (j + 1) := by omega
      have e2 : (tw.drop j).drop 1 = tw.drop (j + 1) := List.drop_drop ..
      have e4 : stD (n - j) = leD := stD_lt (by omega)
      have g : tw[j]? = some (tw.getD j 0) := getD_get (by omega)
      have g3 : tw.getD j 0 < 3 := ht _ (List.mem_of_getElem? g)
      have gp : (prsD (tw.drop j))[0]? = some (wayD (tw.getD j 0)) := by
        unfold prsD
        rw [List.getElem?_map, List.getElem?_drop, Nat.add_zero, g]; rfl
      have bd : cntL (tw.take j) ≤ 1 * 2 ^ 5 := Nat.le_trans (cntL_le _ 1) (Nat.mul_le_mul_left _ (Nat.pow_le_pow_right (by omega) (by rw [List.length_take]; omega)))
      rw [e4]
      refine s_cons (ρ1 := [some (.im (one (n - (j + 1)))), some (.im (.tup (ls tw))), some (.im (.lst (prsD (tw.drop (j + 1))))), some (.im (.int (cntL (tw.take (j + 1))))), some (.im leD), none, none, none, none, none, none, none, none]) (s_ifT (xt_cmp (op_eqD hr.units) (nomark _) (x_var (i := 4) rfl) (x_LEFT c rfl rfl) (rd_eqR rfl le_sh)) rfl
          (s_cons (s_set (i := 3) (d := .int (cntL (tw.take (j + 1)))) sc_count.nd ((x_bin op_mul (x_var (i := 3) rfl) (x_sumT (z_sum c) (x_ixR (d := wayD (tw.getD j 0)) (XE.toR (x_var (i := 2) rfl)) x_int ?a0)) (rd_I ?m1)).is ?s1))
          (s_one (s_par (i := 0) (j := 2) sc_count.nd (xa_cons ((x_sliceT (x_var (i := 0) rfl) (xo_some x_int) xo_none).is (d2 := one (n - (j + 1))) ?s2) (xa_cons ((XN.toD (xn_slice (XE.toR (x_var (i := 2) rfl)) (xo_some x_int) xo_none)).is (d2 := .lst (prsD (tw.drop (j + 1)))) ?s3) xa_nil))))))
        (s_one (b_fg (s_set (i := 4) sc_count.nd (x_call (c_due_step c (m := n - (j + 1)) (by omega) (by omega)) hr (xa_cons (x_var (i := 0) rfl) xa_nil))) ⟨.inr rfl, .inr rfl, .inr rfl, .inr rfl, .inr rfl, .inr rfl, .inr rfl, .inr rfl, .inr rfl, .inr rfl, .inr rfl, .inr rfl, .inr rfl, trivial⟩))
      case a0 => exact at_nat (i := 0) gp
      case m1 => exact .inl ⟨by omega, by omega⟩
      case s1 =>
        congr 1
        rw [way_sum _ g3, cntL_take (by omega)]
        push_cast
        rfl
      case s2 => exact congrArg Dt.tup ((one_cut (n - j)).trans (by rw [e1]))
      case s3 => exact congrArg Dt.lst ((prs_cut _).trans (by rw [e2]))
theorem c_tellings (c : Fx w K mg) {n : Nat} {tw : List Nat} (h : Td n tw) : Cl P w K mg base 4 "tellings" (spD K [strD K n tw] (.int (cntL tw))) := by
  refine to_tellings c fun f fd F => def_ok F sc_tellings rfl fun cdv A outer s' H E hr => ⟨_, s_one (s_ret (x_call (c_count c h.pos h.le h.len h.lt) hr (xa_cons (x_fld (cl_Strip c) (na_Strip_lengths c) (x_var (i := 0) rfl) rfl) (xa_cons (x_fld (cl_Strip c) (na_Strip_creases c) (x_var (i := 0) rfl) rfl) xa_nil)))), .inl rfl⟩
theorem c_u_told (c : Fx w K mg) {n : Nat} {tw t2 : List Nat} (h1 : 1 ≤ n) (h6 : n ≤ 6) (hl : t2.length = n - 1) (ht : ∀ t ∈ t2, t < 3) : Cl P w K mg base 4 "_told" (spD K [strD K n tw, .lst (ls t2)] (.int (cntL t2))) := by
  refine to_u_told c fun f fd F => def_ok F sc_u_told rfl fun cdv A outer s' H E hr => ⟨_, s_one (s_ret (x_call (c_count c h1 h6 hl ht) hr (xa_cons (x_fld (cl_Strip c) (na_Strip_lengths c) (x_var (i := 0) rfl) rfl) (xa_cons (x_tupOf (z_tuple c) (XE.toR (x_var (i := 1) rfl))) xa_nil)))), .inl rfl⟩
/-- the first i told, an open one as a mountain -/
def toldTo (tw : List Nat) (i : Nat) : List Nat := told0 (tw.take i) ++ tw.drop i
theorem toldTo_len (tw : List Nat) (i : Nat) : (toldTo tw i).length = tw.length := by
  unfold toldTo told0
  rw [List.length_append, List.length_map, List.length_take, List.length_drop]; omega
theorem toldTo_lt {tw : List Nat} (ht : ∀ t ∈ tw, t < 3) (i : Nat) : ∀ t ∈ toldTo tw i, t < 3 := by
  intro t h
  unfold toldTo told0 at h
  rcases List.mem_append.mp h with h | h
  · obtain ⟨u, hu, e⟩ := List.mem_map.mp h
    have := ht u (List.mem_of_mem_take hu)
    split at e <;> omega
  · exact ht t (List.mem_of_mem_drop h)
theorem toldTo_succ {tw : List Nat} {i : Nat} (h : i < tw.length) : toldTo tw (i + 1) = (toldTo tw i).set i (if tw.getD i 0 = 2 then 0 else tw.getD i 0) := by
  unfold toldTo told0
  have g : tw[i]? = some (tw.getD i 0) := getD_get h
  have e1 : tw.take (i + 1) = tw.take i ++ [tw.getD i 0] := by rw [List.take_succ, g]; rfl
  have e2 : tw.drop i = tw.getD i 0 :: tw.drop (i + 1) := by
    rw [List.drop_eq_getElem_cons h]
    rw [List.getElem?_eq_getElem h] at g
    rw [Option.some.inj g]
  rw [e1, List.map_append, e2, List.set_append_right _ _ (by rw [List.length_map, List.length_take]; omega)]
  have e3 : i - (List.map (fun t => if t = 2 then 0 else t) (tw.take i)).length = 0 := by rw [List.length_map, List.length_take]; omega
  rw [e3]
  simp
theorem ls_set (t : List Nat) (i v : Nat) : ls (t.set i v) = (ls t).set i (.str (ltr v)) := by unfold ls; rw [List.map_set]
theorem c_telling (c : Fx w K mg) {n : Nat} {tw : List Nat} (h : Td n tw) : Cl P w K mg base 5 "telling" (spD K [strD K n tw, .int 0] (.tup (ls (told0 tw)))) := by
  have hn : n ≤ 6 := h.le
  have hp : 1 ≤ n := h.pos
  have hl := h.len
  have cp : 0 < cntL tw := cntL_pos tw 1 (by omega)
  refine to_telling c fun f fd F => def_ok F sc_telling rfl fun cdv A outer s' H E hr => ⟨.rt (.tup (ls (told0 tw))), s_cons (s_ifF (xt_not (xt_val (x_call (c_is_whole c _ _ _) hr (xa_cons (x_var (i := 1) rfl) (xa_cons x_int (xa_cons (x_bin op_sub (x_call (c_tellings c h) hr (xa_cons (x_var (i := 0) rfl) xa_nil)) x_int rd_I0) xa_nil)))))) ?k1 s_nil)
    (s_cons (s_setN (i := 2) sc_telling.nd (xn_listOf (z_list c) (x_fld (cl_Strip c) (na_Strip_creases c) (x_var (i := 0) rfl) rfl)))
    (s_cons (ρ1 := [some (.im (strD K n tw)), some (.im (.int 0)), some (.mu (ls (toldTo tw tw.length))), none, none, none]) (s_for (xi_enumT (z_enumerate c) (x_fld (cl_Strip c) (na_Strip_creases c) (x_var (i := 0) rfl) rfl)) (pg_tup rfl (pgs_cons (pg_name (i := 3) sc_telling.nd rfl (Or.inl rfl)) (pgs_cons (pg_name (i := 4) sc_telling.nd rfl (Or.inl rfl)) pgs_nil))) (vs := [3, 4]) ?l)
    (s_one (s_ret ((x_tupOf (z_tuple c) (xr_mu (i := 2) rfl)).is ?f))))), .inl rfl⟩
  case k1 =>
    have h1 : decide ((0 : Int) ≤ (cntL tw : Int) - 1) = true := decide_eq_true (by omega)
    rw [h1]; rfl
  case f =>
    unfold toldTo
    rw [List.take_length, List.drop_length, List.append_nil]
  case l =>
    refine for_at (fun i => [some (.im (strD K n tw)), some (.im (.int 0)), some (.mu (ls (toldTo tw i))), none, none, none]) tw.length (by rw [enD_len, ls_len]) (by unfold toldTo told0; rfl) rfl fun i d hi hd => ?_
    have g : tw[i]? = some (tw.getD i 0) := getD_get hi
    have g3 : tw.getD i 0 < 3 := h.lt _ (List.mem_of_getElem? g)
    have e : d = .tup [.int (i : Int), .str (ltr (tw.getD i 0))] := by
      rw [enD_get (ls_get g)] at hd
      exact (Option.some.inj hd).symm
    subst e
    have g2 : (toldTo tw i)[i]? = some (tw.getD i 0) := by
      unfold toldTo told0
      rw [List.getElem?_append_right (by rw [List.length_map, List.length_take]; omega), List.length_map, List.length_take, List.getElem?_drop, Nat.min_eq_left (by omega), Nat.sub_self, Nat.add_zero, g]
    have ek := (w_t _ g3).2.2
    have hl2 := toldTo_len tw (i + 1)
    refine ⟨_, tg_tup rfl (tgs_cons tg_name (tgs_cons tg_name tgs_nil)), ?_⟩
    by_cases z : tw.getD i 0 = 2
    · have e5 : (ls (toldTo tw i)).set i (.str "M") = ls (toldTo tw (i + 1)) := by rw [toldTo_succ hi, if_pos z, ls_set]; rfl
      have cp2 : 0 < cntL (toldTo tw (i + 1)) := cntL_pos _ 1 (by omega)
      refine b_fg (ρ1 := [some (.im (strD K n tw)), some (.im (.int 0)), some (.mu (ls (toldTo tw (i + 1)))), some (.im (.int (i : Int))), some (.im (.str (ltr (tw.getD i 0)))), some (.im (.int (cntL (toldTo tw (i + 1)))))]) (s_one (s_ifT (xt_cmp op_eq (nomark _) (x_var (i := 4) rfl) (x_gstr (v_OPEN c)) (rd_eq rfl rfl rfl)) ?k2
        (s_cons (ρ1 := [some (.im (strD K n tw)), some (.im (.int 0)), some (.mu (ls (toldTo tw (i + 1)))), some (.im (.int (i : Int))), some (.im (.str (ltr (tw.getD i 0)))), none]) (b_fg (s_item (i := 2) rfl (x_gstr (v_MOUNTAIN c)) (x_var (i := 3) rfl) (ixN_nat (by rw [ls_len, toldTo_len]; exact hi))) ⟨.inr rfl, .inr rfl, .inr (by rw [← e5]), .inr rfl, .inr rfl, .inr rfl, trivial⟩)
        (s_cons (s_set (i := 5) sc_telling.nd (x_callMu (c_u_told c (tw := tw) hp hn (by omega) (toldTo_lt h.lt (i + 1))) hr (x_var (i := 0) rfl) (i := 2) rfl rfl))
        (s_one (s_ifF (xt_cmp op_ge (nomark _) (x_var (i := 1) rfl) (x_var (i := 5) rfl) rd_B0) ?k3 s_nil)))))) ⟨.inr rfl, .inr rfl, .inr rfl, .inl rfl, .inl rfl, .inl rfl, trivial⟩
      case k2 => exact ek.trans (decide_eq_true z)
      case k3 => exact decide_eq_false (by omega)
    · have e5 : ls (toldTo tw i) = ls (toldTo tw (i + 1)) := by
        rw [toldTo_succ hi, if_neg z]
        congr 1
        apply List.ext_getElem?
        intro k
        rw [List.getElem?_set]
        split
        · rename_i e; subst e; rw [g2]; split
          · rfl
          · rename_i q; exact absurd ((List.getElem?_eq_some_iff.mp g2).1) q
        · rfl
      refine b_fg (s_one (s_ifF (xt_cmp op_eq (nomark _) (x_var (i := 4) rfl) (x_gstr (v_OPEN c)) (rd_eq rfl rfl rfl)) ?k2 s_nil)) ⟨.inr rfl, .inr rfl, .inr (by rw [← e5]), .inl rfl, .inl rfl, .inr rfl, trivial⟩
      case k2 => exact ek.trans (decide_eq_false z)
theorem c_folds (c : Fx w K mg) {n : Nat} {tw : List Nat} (h : Td n tw) : Cl P w K mg base 4 "folds" (spD K [strD K n tw] (.bl true)) := by
  refine to_folds c fun f fd F => def_ok F sc_folds rfl fun cdv A outer s' H E hr => ⟨_, s_one (s_ret (x_isN (x_ixT (d := .non) (x_call (c_reduced c h.pos h.le) hr (xa_cons (x_tup (xa_cons (x_fld (cl_Strip c) (na_Strip_lengths c) (x_var (i := 0) rfl) rfl) (xa_cons (x_fld (cl_Strip c) (na_Strip_creases c) (x_var (i := 0) rfl) rfl) xa_nil))) xa_nil)) x_int rfl))), .inl rfl⟩
theorem told0_lt {tw : List Nat} (ht : ∀ t ∈ tw, t < 3) : ∀ t ∈ told0 tw, t < 3 := by
  intro t h
  unfold told0 at h
  obtain ⟨u, hu, e⟩ := List.mem_map.mp h
  have := ht u hu
  split at e <;> omega
theorem c_folded_folding (c : Fx w K mg) {n : Nat} {tw : List Nat} (h : Td n tw) : Cl P w K mg base 6 "folded_folding" (spD K [strD K n tw] (.tup [.str "state", .tup (nt (pileL n (told0 tw) (n - 1)))])) := by
  refine to_folded_folding c fun f fd F => def_ok F sc_folded_folding rfl fun cdv A outer s' H E hr => ⟨.rt (.tup [.str "state", .tup (nt (pileL n (told0 tw) (n - 1)))]), s_cons (s_asg (vs := [1, 2]) (x_call (c_reduced c h.pos h.le) hr (xa_cons (x_tup (xa_cons (x_fld (cl_Strip c) (na_Strip_lengths c) (x_var (i := 0) rfl) rfl) (xa_cons (x_fld (cl_Strip c) (na_Strip_creases c) (x_var (i := 0) rfl) rfl) xa_nil))) xa_nil)) (pg_tup rfl (pgs_cons (pg_name (i := 1) sc_folded_folding.nd rfl (Or.inl rfl)) (pgs_cons (pg_name (i := 2) sc_folded_folding.nd rfl (Or.inl rfl)) pgs_nil))) (tg_tup rfl (tgs_cons tg_name (tgs_cons tg_name tgs_nil))))
    (s_cons (s_ifF (xt_notN (x_var (i := 2) rfl)) rfl s_nil)
    (s_one (s_ret (x_tup (xa_cons x_str (xa_cons (x_call (c_piled c h.pos h.le (by unfold told0; rw [List.length_map]; exact h.len) (told0_lt h.lt)) hr (xa_cons (x_fld (cl_Strip c) (na_Strip_lengths c) (x_var (i := 0) rfl) rfl) (xa_cons (x_call (c_telling c h) hr (xa_cons (x_var (i := 0) rfl) (xa_cons x_int xa_nil))) xa_nil))) xa_nil)))))), .inl rfl⟩
end
end K82
/-! ## part W8 -/
/-! Walks: piles of cells, what is only read. -/
namespace K82
open PySem PySem.Spec PyProof.Rows L2
/-- the neighbours of a cell, and the creases to them -/
def nearL (n k : Nat) : List (Nat × Nat) := (if 0 < k then [(k - 1, k - 1)] else []) ++ (if k + 1 < n then [(k + 1, k)] else [])
def entD (ax : Bool) (told : List Nat) (p : Nat × Nat) : Dt := .tup [.int (p.1 : Int), .str (side ax p.2), .str (ltr (told.getD p.2 0))]
def nearD (ax : Bool) (n : Nat) (told : List Nat) : List Dt := (List.range n).map fun k => .lst ((nearL n k).map (entD ax told))
def pileF (K : PySem.W.Frag) (ax : Bool) (n : Nat) (told : List Nat) (cd : Dt) : List (Str × Dt) := [("sheet", mapD K ax n told), ("cells", cd), ("near", .lst (nearD ax n told))]
def pileD (K : PySem.W.Frag) (ax : Bool) (n : Nat) (told cells : List Nat) : Dt := .ins (C_Pile_mapfold K) (pileF K ax n told (.lst (nt cells)))
def leftL (n : Nat) (cells : List Nat) : List Nat := (List.range n).filter fun x => !cells.contains x
def isCr (told cells : List Nat) (n cell other : Nat) : Bool := if cells.contains other then false else ((nearL n cell).findSome? fun p => if p.1 == other && !(told.getD p.2 0 == 2) then some ((told.getD p.2 0 == 1) == decide (cell % 2 = 1)) else none).getD false
def goalL (n cell e : Nat) : Option Nat := (nearL n cell).findSome? fun p => if decide (e % 2 = p.2 % 2) then some p.1 else none
def freeG (cells : List Nat) (cell : Nat) : Option Nat → Bool
  | none => false
  | some g => !(g == cell) && !cells.contains g
def isUn (cells : List Nat) (n cell other between : Nat) : Bool := if !cells.contains other || !cells.contains between then false else if decide (cells.idxOf between ≤ cells.idxOf other) then false else
  ((nearL n cell).findSome? fun p => if p.1 == other then some (freeG cells cell (goalL n between p.2)) else none).getD false
def hasR (told cells : List Nat) (n cell : Nat) : Bool := ((nearL n cell).any fun p => isCr told cells n cell p.1) || ((nearL n cell).any fun p => cells.reverse.any fun b => isUn cells n cell p.1 b)
theorem inV_nt (x : Nat) : ∀ ns : List Nat, inV (Dt.v (.int (x : Int))) ((nt ns).map Dt.v) = ns.contains x
  | [] => rfl
  | n :: ns => by
    have ih := inV_nt x ns
    unfold inV nt at ih ⊢
    rw [List.map_cons, List.map_cons, List.any_cons, ih, List.contains_cons]
    congr 1
    show ((n : Int) == (x : Int)) = (x == n)
    by_cases h : n = x
    · subst h; simp
    · have h1 : ¬ (n : Int) = (x : Int) := by omega
      have h2 : ¬ x = n := fun z => h z.symm
      rw [beq_eq_false_iff_ne.mpr h1, beq_eq_false_iff_ne.mpr h2]
theorem nt_sc (ns : List Nat) : (nt ns).all Dt.sc = true := by
  unfold nt
  rw [List.all_map]
  exact List.all_eq_true.mpr fun _ _ => rfl
theorem near_lt {n k : Nat} (h : k < n) : ∀ p ∈ nearL n k, p.1 < n ∧ p.2 + 1 < n := by
  intro p hp
  unfold nearL at hp
  rcases List.mem_append.mp hp with q | q
  · split at q
    · rw [List.mem_singleton] at q; subst q; exact ⟨by show k - 1 < n; omega, by show k - 1 + 1 < n; omega⟩
    · cases q
  · split at q
    · rw [List.mem_singleton] at q; subst q; exact ⟨by show k + 1 < n; omega, by show k + 1 < n; omega⟩
    · cases q
theorem nearD_get (ax : Bool) {n k : Nat} (told : List Nat) (h : k < n) : (nearD ax n told)[k]? = some (.lst ((nearL n k).map (entD ax told))) := by
  unfold nearD
  rw [List.getElem?_map, List.getElem?_range h]; rfl
section
variable {X : Cx} {ρ : Rho} {a b : Expr} {apos cpos : Pos} {ns : List Nat} {x : Nat}
theorem idx_before : ∀ (ns : List Nat) (x m : Nat) (z : Nat), m < ns.idxOf x → ns[m]? = some z → z ≠ x
  | [], x, m, z, h, e => by cases e
  | n :: ns, x, 0, z, h, e => by
    have e : n = z := Option.some.inj e
    subst e
    intro q
    subst q
    rw [List.idxOf_cons_self] at h
    exact Nat.lt_irrefl _ h
  | n :: ns, x, m + 1, z, h, e => by
    rw [List.idxOf_cons] at h
    cases q : (n == x) with
    | true => rw [q] at h; simp at h
    | false =>
      rw [q] at h
      exact idx_before ns x m z (by simpa using h) e
theorem x_index (ha : XE X a ρ (.lst (nt ns))) (hb : XE X b ρ (.int (x : Int))) (hx : x ∈ ns) (hbase : attributeBase a "index" X.env (eval a X.env) = eval a X.env := by rfl)
    (hfew : ((backTo cpos (starEach [b] X.env)).all (fun x => !x.1) && (backToKw cpos (keywordEach [] X.env)).all (fun x => x.1.isSome)
      && decide ([b].length + ([] : List Keyword).length + (if ([] : List Keyword).isEmpty then 0 else 1) < 30)) = true := by rfl)
    (hline : (apos.endLine == cpos.line) = true := by rfl) (hs : starEach [b] X.env = (false, eval b X.env) :: starEach [] X.env := by rfl) (hplain : (backTo cpos (starEach [] X.env)).any (·.1) = false := by rfl) :
    XE X (.Call (.Attribute a "index" apos) [b] [] cpos) ρ (.int ((ns.idxOf x : Nat) : Int)) :=
  EvD.of (pe_bm PySem.F.plainAttrs_list PySem.F.slot_list_index PySem.F.type_list_index mt_index pe_wp (pa_cons pe_wp pa_nil hs) hbase hfew hline hs hplain) fun F0 H0 F H σ S Q q => ha F0 H0 F H σ S _ fun v F2 H2 g dv => by
    simp only [Den] at dv
    obtain ⟨l, xs, rfl, k1, k2⟩ := dv
    refine ⟨.inl ⟨rfl, _, SqL.of (g.s _ _ k1)⟩, hb F0 H0 F2 H2 σ (S.mono g) _ fun w F3 H3 g2 dw => ?_⟩
    simp only [Den] at dw
    subst dw
    have ex : xs = ns.map fun (n : Nat) => V.int (n : Int) := by
      have k3 := k2
      rw [nt_map] at k3
      rw [k3.ints, List.map_map]; rfl
    subst ex
    have hi : ns.idxOf x < ns.length := List.idxOf_lt_length_of_mem hx
    refine ⟨l, _, .int (x : Int), ns.idxOf x, .int (x : Int), rfl, rfl, SqL.of (g2.s _ _ (g2.f _ _ k1)), rfl, ?_, ?_, ?_, ?_, q _ F3 H3 (g.trans g2) (by simp only [Den])⟩
    · rw [List.all_map]; exact List.all_eq_true.mpr fun _ _ => rfl
    · rw [List.getElem?_map, List.getElem?_eq_getElem hi, List.getElem_idxOf]; rfl
    · show ((x : Int) == (x : Int)) = true; simp
    · intro m z hm hz
      rw [List.getElem?_map] at hz
      cases e : ns[m]? with
      | none => rw [e] at hz; cases hz
      | some y =>
        rw [e] at hz
        cases hz
        have := idx_before ns x m y hm e
        show ((y : Int) == (x : Int)) = false
        exact beq_eq_false_iff_ne.mpr (by omega)
end
section
variable {P : Program} {w : World} {K : PySem.W.Frag} {mg : Str → Option Value} {base : Heap}
theorem c_left (c : Fx w K mg) (ax : Bool) {n : Nat} {told : List Nat} (cells : List Nat) (hn : n ≤ 6) : Mt P w K mg base 1 (C_Pile_mapfold K) "left" (spN K [pileD K ax n told cells] (nt (leftL n cells))) := by
  refine to_Pile_mapfold_left c fun f fd F => def_okN F sc_Pile_mapfold_left rfl fun cdv A outer s' H E hr => s_one (s_retN (xn_lc (own := [("cell", 1)]) sc_Pile_mapfold_left.nd (xi_range1 (z_range c) (x_fld (cl_Map c) (na_Map_cells c) (x_fld (cl_Pile_mapfold c) (na_Pile_mapfold_sheet c) (x_var (i := 0) rfl) rfl) rfl) ?r1 ?r2) ?l1 (blkOk_by (N := N_Pile_mapfold_left) (sc := defScope s_Pile_mapfold_left) (by decide +kernel)) (fun _ _ _ _ _ => pg_name (i := 1) sc_Pile_mapfold_left.nd rfl (Or.inl rfl)) ?lc))
  case r1 => omega
  case r2 => omega
  case l1 => rw [rgD_length]; omega
  case lc =>
    rw [rgD_nt, Int.toNat_natCast]
    unfold leftL
    exact lc_filter (fun x : Nat => .int x) (fun x : Nat => .int x) (fun x => !cells.contains x) (fun x : Nat => (wipeR (rho0 N_Pile_mapfold_left [pileD K ax n told cells]) [1]).set 1 (some (.im (.int x)))) (List.range n) fun x hx =>
      ⟨tg_name, tsB_one fun _ _ _ _ _ => (xt_ninR (x_var (i := 1) rfl) (XE.toR (x_fld (cl_Pile_mapfold c) (na_Pile_mapfold_cells c) (x_var (i := 0) rfl) rfl)) rfl (nt_sc _)).is (by rw [inV_nt]), fun _ => eB fun _ _ _ _ _ => x_var (i := 1) rfl⟩
theorem c_goal (c : Fx w K mg) (ax : Bool) {n : Nat} {told : List Nat} (cells : List Nat) {cell : Nat} (e : Nat) (hc : cell < n) : Mt P w K mg base 1 (C_Pile_mapfold K) "_goal" (spD K [pileD K ax n told cells, .int cell, .str (side ax e)] (optD (fun o : Nat => .int (o : Int)) (goalL n cell e))) := by
  refine to_Pile_mapfold_goal c fun f fd F => def_ok F sc_Pile_mapfold_goal rfl fun cdv A outer s' H E hr => ⟨_, s_forQ (q := goalL n cell e) (v := fun o : Nat => .int (o : Int)) (ρ1 := rho0 N_Pile_mapfold_goal [pileD K ax n told cells, .int cell, .str (side ax e)])
    (xi_list (x_ixR (XE.toR (x_fld (cl_Pile_mapfold c) (na_Pile_mapfold_near c) (x_var (i := 0) rfl) rfl)) (x_var (i := 1) rfl) (at_nat (nearD_get ax told hc)))) (pg_tup rfl (pgs_cons (pg_name (i := 3) sc_Pile_mapfold_goal.nd rfl (Or.inl rfl)) (pgs_cons (pg_name (i := 4) sc_Pile_mapfold_goal.nd rfl (Or.inl rfl)) (pgs_cons (pg_name (i := 5) sc_Pile_mapfold_goal.nd rfl (Or.inl rfl)) pgs_nil)))) (vs := [3, 4, 5]) ?l
    (fun q => s_one (s_ret (x_non.is ?f1))) ?f2, .inl rfl⟩
  case f1 => rw [q]; rfl
  case f2 => intro o q; rw [q]; rfl
  case l =>
    refine for_first (entD ax told) _ _ _ _ fun p hp => ⟨_, tg_tup rfl (tgs_cons tg_name (tgs_cons tg_name (tgs_cons tg_name tgs_nil))), ?_⟩
    exact b_fgF (s_ifO (v := fun o : Nat => .int (o : Int)) (x := p.1) ((xt_cmp op_eq (nomark _) (x_var (i := 4) rfl) (x_var (i := 2) rfl) (rd_eq rfl rfl rfl)).is (side_eq ax e p.2)) fun _ => x_var (i := 3) rfl) ⟨.inr rfl, .inr rfl, .inr rfl, .inl rfl, .inl rfl, .inl rfl, trivial⟩
theorem b_decide {k1 k2 : Bool} : decide (Dt.v (.bl k1) = Dt.v (.bl k2)) = (k1 == k2) := by
  have : ∀ a b : Bool, decide (Dt.v (.bl a) = Dt.v (.bl b)) = (a == b) := by decide +kernel
  exact this k1 k2
theorem i_decide (a b : Nat) : decide (Dt.v (.int (a : Int)) = Dt.v (.int (b : Int))) = (a == b) := by
  by_cases h : a = b
  · subst h; simp
  · have h1 : ¬ Dt.v (.int (a : Int)) = Dt.v (.int (b : Int)) := fun q => by have q' := V.int.inj q; omega
    rw [decide_eq_false h1, beq_eq_false_iff_ne.mpr h]
theorem t_decide {t : Nat} (h : t < 3) : decide (Dt.v (.str (ltr t)) = Dt.v (.str "V")) = (t == 1) ∧ decide (Dt.v (.str (ltr t)) = Dt.v (.str "?")) = (t == 2) := by
  have : ∀ t < 3, decide (Dt.v (.str (ltr t)) = Dt.v (.str "V")) = (t == 1) ∧ decide (Dt.v (.str (ltr t)) = Dt.v (.str "?")) = (t == 2) := by decide +kernel
  exact this t h
theorem c_is_crease (c : Fx w K mg) (ax : Bool) {n : Nat} {told : List Nat} (cells : List Nat) {cell other : Nat} (h : Td n told) (hc : cell < n) : Mt P w K mg base 3 (C_Pile_mapfold K) "is_crease" (spD K [pileD K ax n told cells, .int cell, .int other] (.bl (isCr told cells n cell other))) := by
  have hn := h.le
  by_cases z : cells.contains other = true
  · refine to_Pile_mapfold_is_crease c fun f fd F => def_ok F sc_Pile_mapfold_is_crease rfl fun cdv A outer s' H E hr => ⟨_, s_end (s_ifT (xt_inR (x_var (i := 2) rfl) (XE.toR (x_fld (cl_Pile_mapfold c) (na_Pile_mapfold_cells c) (x_var (i := 0) rfl) rfl)) rfl (nt_sc _)) ?k1 (s_one (s_ret (x_bl.is ?f)))) rfl, .inl rfl⟩
    case k1 => rw [inV_nt]; exact z
    case f => unfold isCr; rw [if_pos z]
  · refine to_Pile_mapfold_is_crease c fun f fd F => def_ok F sc_Pile_mapfold_is_crease rfl fun cdv A outer s' H E hr => ⟨_, s_cons (s_ifF (xt_inR (x_var (i := 2) rfl) (XE.toR (x_fld (cl_Pile_mapfold c) (na_Pile_mapfold_cells c) (x_var (i := 0) rfl) rfl)) rfl (nt_sc _)) ?k1 s_nil)
      (s_forQ (q := (nearL n cell).findSome? fun p => if p.1 == other && !(told.getD p.2 0 == 2) then some ((told.getD p.2 0 == 1) == decide (cell % 2 = 1)) else none) (v := fun b : Bool => .bl b) (ρ1 := rho0 N_Pile_mapfold_is_crease [pileD K ax n told cells, .int cell, .int other])
        (xi_list (x_ixR (XE.toR (x_fld (cl_Pile_mapfold c) (na_Pile_mapfold_near c) (x_var (i := 0) rfl) rfl)) (x_var (i := 1) rfl) (at_nat (nearD_get ax told hc)))) (pg_tup rfl (pgs_cons (pg_name (i := 3) sc_Pile_mapfold_is_crease.nd rfl (Or.inl rfl)) (pgs_cons (pg_name (i := 4) sc_Pile_mapfold_is_crease.nd rfl (Or.inl rfl)) (pgs_cons (pg_name (i := 5) sc_Pile_mapfold_is_crease.nd rfl (Or.inl rfl)) pgs_nil)))) (vs := [3, 4, 5]) ?l
        (fun q => s_one (s_ret (x_bl.is ?f1))) ?f2), .inl rfl⟩
    case k1 => rw [inV_nt]; exact Bool.eq_false_iff.mpr z
    case f1 => unfold isCr; rw [if_neg z, q]; rfl
    case f2 => intro o q; unfold isCr; rw [if_neg z, q]; rfl
    case l =>
      refine for_first (entD ax told) _ _ _ _ fun p hp => ⟨_, tg_tup rfl (tgs_cons tg_name (tgs_cons tg_name (tgs_cons tg_name tgs_nil))), ?_⟩
      have hp2 := (near_lt hc p hp).2
      have g3 : told.getD p.2 0 < 3 := h.lt _ (List.mem_of_getElem? (getD_get (i := p.2) (by have := h.len; omega)))
      exact b_fgF (s_ifO (v := fun b : Bool => .bl b) (x := ((told.getD p.2 0 == 1) == decide (cell % 2 = 1))) ((xt_w (xw_and (xt_cmp op_eq (nomark _) (x_var (i := 3) rfl) (x_var (i := 2) rfl) (rd_eq rfl rfl rfl)) fun _ => xw_and1 (xt_cmp op_ne (nomark _) (x_var (i := 5) rfl) (x_gstr (v_OPEN c)) (rd_ne rfl rfl rfl)))).is (by rw [i_decide, (t_decide g3).2]))
        fun _ => (x_cmp op_eq (nomark _) (x_cmp op_eq (nomark _) (x_var (i := 5) rfl) (x_gstr (v_VALLEY c)) (rd_eq rfl rfl rfl)) (x_meth (c_Map_is_odd c ax cell hn hc) hr (x_fld (cl_Pile_mapfold c) (na_Pile_mapfold_sheet c) (x_var (i := 0) rfl) rfl) (xa_cons (x_var (i := 1) rfl) xa_nil) rfl) (rd_eq rfl rfl rfl)).is (by rw [b_decide, (t_decide g3).1])) ⟨.inr rfl, .inr rfl, .inr rfl, .inl rfl, .inl rfl, .inl rfl, trivial⟩
theorem c_is_under (c : Fx w K mg) (ax : Bool) {n : Nat} {told : List Nat} {cells : List Nat} {cell other between : Nat} (h : Td n told) (hc : cell < n) (hcs : ∀ x ∈ cells, x < n) : Mt P w K mg base 2 (C_Pile_mapfold K) "is_under" (spD K [pileD K ax n told cells, .int cell, .int other, .int between] (.bl (isUn cells n cell other between))) := by
  have hn := h.le
  by_cases z : (!cells.contains other || !cells.contains between) = true
  · refine to_Pile_mapfold_is_under c fun f fd F => def_ok F sc_Pile_mapfold_is_under rfl fun cdv A outer s' H E hr => ⟨_, s_end (s_ifT ((xt_w (xw_or (xt_ninR (x_var (i := 2) rfl) (XE.toR (x_fld (cl_Pile_mapfold c) (na_Pile_mapfold_cells c) (x_var (i := 0) rfl) rfl)) rfl (nt_sc _)) fun _ => xw_or1 (xt_ninR (x_var (i := 3) rfl) (XE.toR (x_fld (cl_Pile_mapfold c) (na_Pile_mapfold_cells c) (x_var (i := 0) rfl) rfl)) rfl (nt_sc _))))) ?k1 (s_one (s_ret (x_bl.is ?f)))) rfl, .inl rfl⟩
    case k1 => rw [inV_nt, inV_nt]; exact z
    case f => unfold isUn; rw [if_pos z]
  · have zb : between ∈ cells := by
      rw [Bool.not_eq_true, Bool.or_eq_false_iff] at z
      exact List.contains_iff_mem.mp (by simpa using z.2)
    have zo : other ∈ cells := by
      rw [Bool.not_eq_true, Bool.or_eq_false_iff] at z
      exact List.contains_iff_mem.mp (by simpa using z.1)
    by_cases y : cells.idxOf between ≤ cells.idxOf other
    · refine to_Pile_mapfold_is_under c fun f fd F => def_ok F sc_Pile_mapfold_is_under rfl fun cdv A outer s' H E hr => ⟨_, s_cons (s_ifF ((xt_w (xw_or (xt_ninR (x_var (i := 2) rfl) (XE.toR (x_fld (cl_Pile_mapfold c) (na_Pile_mapfold_cells c) (x_var (i := 0) rfl) rfl)) rfl (nt_sc _)) fun _ => xw_or1 (xt_ninR (x_var (i := 3) rfl) (XE.toR (x_fld (cl_Pile_mapfold c) (na_Pile_mapfold_cells c) (x_var (i := 0) rfl) rfl)) rfl (nt_sc _))))) ?k1 s_nil)
        (s_end (s_ifT (xt_cmp op_le (nomark _) (x_index (x_fld (cl_Pile_mapfold c) (na_Pile_mapfold_cells c) (x_var (i := 0) rfl) rfl) (x_var (i := 3) rfl) zb) (x_index (x_fld (cl_Pile_mapfold c) (na_Pile_mapfold_cells c) (x_var (i := 0) rfl) rfl) (x_var (i := 2) rfl) zo) rd_B0) ?k2 (s_one (s_ret (x_bl.is ?f)))) rfl), .inl rfl⟩
      case k1 => rw [inV_nt, inV_nt]; exact Bool.eq_false_iff.mpr z
      case k2 => exact decide_eq_true (by omega)
      case f => unfold isUn; rw [if_neg z, if_pos (decide_eq_true y)]
    · refine to_Pile_mapfold_is_under c fun f fd F => def_ok F sc_Pile_mapfold_is_under rfl fun cdv A outer s' H E hr => ⟨_, s_cons (s_ifF ((xt_w (xw_or (xt_ninR (x_var (i := 2) rfl) (XE.toR (x_fld (cl_Pile_mapfold c) (na_Pile_mapfold_cells c) (x_var (i := 0) rfl) rfl)) rfl (nt_sc _)) fun _ => xw_or1 (xt_ninR (x_var (i := 3) rfl) (XE.toR (x_fld (cl_Pile_mapfold c) (na_Pile_mapfold_cells c) (x_var (i := 0) rfl) rfl)) rfl (nt_sc _))))) ?k1 s_nil)
        (s_cons (s_ifF (xt_cmp op_le (nomark _) (x_index (x_fld (cl_Pile_mapfold c) (na_Pile_mapfold_cells c) (x_var (i := 0) rfl) rfl) (x_var (i := 3) rfl) zb) (x_index (x_fld (cl_Pile_mapfold c) (na_Pile_mapfold_cells c) (x_var (i := 0) rfl) rfl) (x_var (i := 2) rfl) zo) rd_B0) ?k2 s_nil)
        (s_forQ (q := (nearL n cell).findSome? fun p => if p.1 == other then some (freeG cells cell (goalL n between p.2)) else none) (v := fun b : Bool => .bl b) (ρ1 := rho0 N_Pile_mapfold_is_under [pileD K ax n told cells, .int cell, .int other, .int between])
          (xi_list (x_ixR (XE.toR (x_fld (cl_Pile_mapfold c) (na_Pile_mapfold_near c) (x_var (i := 0) rfl) rfl)) (x_var (i := 1) rfl) (at_nat (nearD_get ax told hc)))) (pg_tup rfl (pgs_cons (pg_name (i := 4) sc_Pile_mapfold_is_under.nd rfl (Or.inl rfl)) (pgs_cons (pg_name (i := 5) sc_Pile_mapfold_is_under.nd rfl (Or.inl rfl)) (pgs_cons (pg_name (i := 6) sc_Pile_mapfold_is_under.nd rfl (Or.inl rfl)) pgs_nil)))) (vs := [4, 5, 6]) ?l
          (fun q => s_one (s_ret (x_bl.is ?f1))) ?f2)), .inl rfl⟩
      case k1 => rw [inV_nt, inV_nt]; exact Bool.eq_false_iff.mpr z
      case k2 => exact decide_eq_false (by omega)
      case f1 => unfold isUn; rw [if_neg z, if_neg (by simpa using y), q]; rfl
      case f2 => intro o q; unfold isUn; rw [if_neg z, if_neg (by simpa using y), q]; rfl
      case l =>
        refine for_first (entD ax told) _ _ _ _ fun p hp => ⟨_, tg_tup rfl (tgs_cons tg_name (tgs_cons tg_name (tgs_cons tg_name tgs_nil))), ?_⟩
        by_cases x : (p.1 == other) = true
        · rw [if_pos x]
          refine s_end (s_ifT (xt_cmp op_eq (nomark _) (x_var (i := 4) rfl) (x_var (i := 2) rfl) (rd_eq rfl rfl rfl)) ?k3 (s_cons (s_set (i := 7) sc_Pile_mapfold_is_under.nd (x_meth (c_goal c ax cells p.2 (hcs _ zb)) hr (x_var (i := 0) rfl) (xa_cons (x_var (i := 3) rfl) (xa_cons (x_var (i := 5) rfl) xa_nil)) rfl))
            (s_one (s_ret ?r)))) rfl
          case k3 => rw [i_decide]; exact x
          case r =>
            cases e : goalL n between p.2 with
            | none => exact (x_and (k2 := false) (x_notN (x_var (i := 7) rfl)) fun q => by cases q).is rfl
            | some g => exact (x_and (x_notN (x_var (i := 7) rfl)) fun _ => x_and (x_cmp op_ne (nomark _) (x_var (i := 7) rfl) (x_var (i := 1) rfl) (rd_ne rfl rfl rfl)) fun _ => x_one (x_ninR (x_var (i := 7) rfl) (XE.toR (x_fld (cl_Pile_mapfold c) (na_Pile_mapfold_cells c) (x_var (i := 0) rfl) rfl)) rfl (nt_sc _))).is (by
              show Dt.bl (!false && (!decide (Dt.v (.int (g : Int)) = Dt.v (.int (cell : Int))) && !inV (Dt.v (.int (g : Int))) ((nt cells).map Dt.v))) = _
              rw [i_decide, inV_nt]; rfl)
        · rw [if_neg x]
          refine b_fg (s_one (s_ifF (xt_cmp op_eq (nomark _) (x_var (i := 4) rfl) (x_var (i := 2) rfl) (rd_eq rfl rfl rfl)) ?k3 s_nil)) ⟨.inr rfl, .inr rfl, .inr rfl, .inr rfl, .inl rfl, .inl rfl, .inl rfl, .inr rfl, trivial⟩
          case k3 => rw [i_decide]; exact Bool.eq_false_iff.mpr x
/-- something is said, or nothing -/
def rsD (k : Bool) : Dt := if k then .nn else .non
def anyO {α : Type} (k : α → Bool) (xs : List α) : Option Unit := xs.findSome? fun x => if k x then some () else none
theorem anyO_eq {α : Type} (k : α → Bool) : ∀ xs : List α, anyO k xs = if xs.any k then some () else none
  | [] => rfl
  | x :: xs => by
    have ih := anyO_eq k xs
    unfold anyO at ih ⊢
    rw [List.findSome?_cons, List.any_cons]
    cases h : k x with
    | true => rfl
    | false => exact ih
theorem c_reason (c : Fx w K mg) (ax : Bool) {n : Nat} {told : List Nat} {cells : List Nat} {cell : Nat} (h : Td n told) (hc : cell < n) (hcs : ∀ x ∈ cells, x < n) (hl : cells.length ≤ n) : Mt P w K mg base 4 (C_Pile_mapfold K) "reason" (spD K [pileD K ax n told cells, .int cell] (rsD (hasR told cells n cell))) := by
  have hn := h.le
  have e1 := anyO_eq (fun p : Nat × Nat => isCr told cells n cell p.1) (nearL n cell)
  have e2 := anyO_eq (fun p : Nat × Nat => cells.reverse.any fun b => isUn cells n cell p.1 b) (nearL n cell)
  refine to_Pile_mapfold_reason c fun f fd F => def_ok F sc_Pile_mapfold_reason rfl fun cdv A outer s' H E hr => ⟨.rt (rsD (hasR told cells n cell)), s_forQ (q := anyO (fun p : Nat × Nat => isCr told cells n cell p.1) (nearL n cell)) (v := fun _ => .nn) (ρ1 := rho0 N_Pile_mapfold_reason [pileD K ax n told cells, .int cell])
        (xi_list (x_ixR (XE.toR (x_fld (cl_Pile_mapfold c) (na_Pile_mapfold_near c) (x_var (i := 0) rfl) rfl)) (x_var (i := 1) rfl) (at_nat (nearD_get ax told hc)))) (pg_tup rfl (pgs_cons (pg_name (i := 2) sc_Pile_mapfold_reason.nd rfl (Or.inl rfl)) (pgs_cons (pg_name (i := 3) sc_Pile_mapfold_reason.nd rfl (Or.inl rfl)) (pgs_cons (pg_name (i := 3) sc_Pile_mapfold_reason.nd rfl (Or.inl rfl)) pgs_nil)))) (vs := [2, 3]) ?l1
        (fun q => s_forQ (q := anyO (fun p : Nat × Nat => cells.reverse.any fun b => isUn cells n cell p.1 b) (nearL n cell)) (v := fun _ => .nn) (ρ1 := rho0 N_Pile_mapfold_reason [pileD K ax n told cells, .int cell])
          (xi_list (x_ixR (XE.toR (x_fld (cl_Pile_mapfold c) (na_Pile_mapfold_near c) (x_var (i := 0) rfl) rfl)) (x_var (i := 1) rfl) (at_nat (nearD_get ax told hc)))) (pg_tup rfl (pgs_cons (pg_name (i := 2) sc_Pile_mapfold_reason.nd rfl (Or.inl rfl)) (pgs_cons (pg_name (i := 3) sc_Pile_mapfold_reason.nd rfl (Or.inl rfl)) (pgs_cons (pg_name (i := 3) sc_Pile_mapfold_reason.nd rfl (Or.inl rfl)) pgs_nil)))) (vs := [2, 3]) ?l2
          (fun q2 => s_one (s_ret (x_non.is ?f1))) ?f2) ?f3, .inl rfl⟩
  case f1 =>
    rw [e1] at q; rw [e2] at q2
    unfold rsD hasR
    rw [if_neg]
    intro k
    rcases Bool.or_eq_true_iff.mp k with z | z
    · rw [if_pos z] at q; cases q
    · rw [if_pos z] at q2; cases q2
  case f2 =>
    intro u q2
    rw [e2] at q2
    unfold rsD hasR
    rw [if_pos]
    rw [Bool.or_eq_true_iff]
    refine .inr ?_
    cases z : ((nearL n cell).any fun p => cells.reverse.any fun b => isUn cells n cell p.1 b) with
    | true => rfl
    | false => rw [z] at q2; cases q2
  case f3 =>
    intro u q
    rw [e1] at q
    unfold rsD hasR
    rw [if_pos]
    rw [Bool.or_eq_true_iff]
    refine .inl ?_
    cases z : ((nearL n cell).any fun p => isCr told cells n cell p.1) with
    | true => rfl
    | false => rw [z] at q; cases q
  case l1 =>
    refine for_first (entD ax told) (fun _ : Unit => .nn) _ _ _ fun p hp => ⟨_, tg_tup rfl (tgs_cons tg_name (tgs_cons tg_name (tgs_cons tg_name tgs_nil))), ?_⟩
    exact b_fgF (s_ifO (v := fun _ : Unit => .nn) (x := ()) (xt_val (x_meth (c_is_crease c ax cells h hc) hr (x_var (i := 0) rfl) (xa_cons (x_var (i := 1) rfl) (xa_cons (x_var (i := 2) rfl) xa_nil)) rfl))
      fun _ => x_nn (x_tup (xa_cons (x_gstr (v_CREASE c)) (xa_cons (x_var (i := 2) rfl) xa_nil)))) ⟨.inr rfl, .inr rfl, .inl rfl, .inl rfl, .inr rfl, trivial⟩
  case l2 =>
    refine for_first (entD ax told) (fun _ : Unit => .nn) _ _ _ fun p hp => ⟨_, tg_tup rfl (tgs_cons tg_name (tgs_cons tg_name (tgs_cons tg_name tgs_nil))), ?_⟩
    have e3 := anyO_eq (fun b => isUn cells n cell p.1 b) cells.reverse
    rw [← e3]
    refine b_fgF (ρ1 := [some (.im (pileD K ax n told cells)), some (.im (.int (cell : Int))), some (.im (.int (p.1 : Int))), none, none]) (s_one (b_fg0 (ρ1 := [some (.im (pileD K ax n told cells)), some (.im (.int (cell : Int))), some (.im (.int (p.1 : Int))), none, none]) ⟨.inr rfl, .inr rfl, .inr rfl, .inl rfl, .inr rfl, trivial⟩ (s_for (ds := cells.reverse.map fun (n : Nat) => .int (n : Int)) (xi_list ((XN.toD (xn_rev (XE.toR (x_fld (cl_Pile_mapfold c) (na_Pile_mapfold_cells c) (x_var (i := 0) rfl) rfl)))).is ?rv)) (pg_name (i := 4) sc_Pile_mapfold_reason.nd rfl (Or.inl rfl)) (vs := [4]) ?i1))) ⟨.inr rfl, .inr rfl, .inl rfl, .inr rfl, .inr rfl, trivial⟩
    case rv => unfold nt; rw [List.map_reverse]
    case i1 =>
      refine for_firstN (fun _ : Unit => .nn) _ _ _ fun b hb => ⟨_, tg_name, ?_⟩
      exact b_fgF (s_ifO (v := fun _ : Unit => .nn) (x := ()) (xt_val (x_meth (c_is_under c ax h hc hcs) hr (x_var (i := 0) rfl) (xa_cons (x_var (i := 1) rfl) (xa_cons (x_var (i := 2) rfl) (xa_cons (x_var (i := 4) rfl) xa_nil))) rfl))
        fun _ => x_nn (x_tup (xa_cons (x_gstr (v_UNDER c)) (xa_cons (x_var (i := 2) rfl) (xa_cons (x_var (i := 4) rfl) xa_nil))))) ⟨.inr rfl, .inr rfl, .inr rfl, .inr rfl, .inl rfl, trivial⟩
end
end K82
/-! ## part W9 -/
/-! Walks: piles of cells: find, every. -/
namespace K82
open PySem PySem.Spec PyProof.Rows L2
def everyM (told : List Nat) (n : Nat) : Nat → List Nat → List (List Nat)
  | 0, cells => [cells]
  | m + 1, cells => (leftL n cells).flatMap fun cell => if hasR told cells n cell then [] else everyM told n m (cells ++ [cell])
def findM (told : List Nat) (n : Nat) : Nat → List Nat → Option (List Nat)
  | 0, cells => some cells
  | m + 1, cells => (leftL n cells).findSome? fun cell => if hasR told cells n cell then none else findM told n m (cells ++ [cell])
def fsP (K : PySem.W.Frag) (ax : Bool) (n : Nat) (told : List Nat) (c : Addr) : List (Str × Dt) := pileF K ax n told (.ref c)
theorem vw_pile (K : PySem.W.Frag) (ax : Bool) (n : Nat) (told : List Nat) (c : Addr) (cells : List Nat) : .ins (C_Pile_mapfold K) (vwF c (nt cells) (fsP K ax n told c)) = pileD K ax n told cells := by
  unfold fsP pileD pileF
  simp only [vwF, vwD, if_pos]
  rfl
theorem left_len (n : Nat) (cells : List Nat) : (leftL n cells).length ≤ n := by
  unfold leftL
  exact Nat.le_trans (List.length_filter_le _ _) (by rw [List.length_range]; exact Nat.le_refl _)
theorem left_lt {n : Nat} {cells : List Nat} : ∀ x ∈ leftL n cells, x < n := fun x h => List.mem_range.mp (List.mem_filter.mp h).1
theorem flat_le {α β : Type} (g : α → List β) (B : Nat) : ∀ xs : List α, (∀ x ∈ xs, (g x).length ≤ B) → (xs.flatMap g).length ≤ xs.length * B
  | [], _ => by simp
  | x :: xs, h => by
    rw [List.flatMap_cons, List.length_append, List.length_cons, Nat.succ_mul, Nat.add_comm]
    exact Nat.add_le_add (flat_le g B xs fun y hy => h y (List.mem_cons_of_mem _ hy)) (h x List.mem_cons_self)
theorem every_len (told : List Nat) {n : Nat} (hn : n ≤ 6) : ∀ (m : Nat) (cells : List Nat), (everyM told n m cells).length ≤ 6 ^ m
  | 0, _ => Nat.le_refl _
  | m + 1, cells => by
    unfold everyM
    refine Nat.le_trans (flat_le _ (6 ^ m) _ fun x _ => ?_) ?_
    · split
      · exact Nat.zero_le _
      · exact every_len told hn m _
    · rw [Nat.pow_succ, Nat.mul_comm]
      exact Nat.mul_le_mul_left _ (Nat.le_trans (left_len n cells) hn)
theorem nt_app (cells : List Nat) (x : Nat) : nt cells ++ [.int (x : Int)] = nt (cells ++ [x]) := by unfold nt; rw [List.map_append]; rfl
/-- the first item of which q tells ends it -/
theorem for_firstAt {α β : Type} {K : PySem.W.Frag} {g : TG} {vs : List Nat} {tb : TS} (enc : α → Dt) (v : β → Out) (q : α → Option β) (r : Nat → Rho) (hv : ∀ y, (v y).ret = true) : ∀ (xs : List α) (k : Nat), (∀ i x, xs[i]? = some x → ∃ ρ1, TgD K g vs (enc x) (r (k + i)) ρ1 ∧ BsD K tb ρ1 (match q x with | some y => v y | none => .nx (r (k + i + 1)))) →
    ForD K g vs tb (xs.map enc) (r k) (match xs.findSome? q with | some y => v y | none => .nx (r (k + xs.length)))
  | [], k, _ => rfl
  | x :: xs, k, h => by
    obtain ⟨ρ1, h1, h2⟩ := h 0 x rfl
    have ih := for_firstAt (K := K) (g := g) (vs := vs) (tb := tb) enc v q r hv xs (k + 1) fun i y e => by
      have := h (i + 1) y e
      have e1 : k + 1 + i = k + (i + 1) := by omega
      rw [e1]; exact this
    have e2 : k + 1 + xs.length = k + (x :: xs).length := by rw [List.length_cons]; omega
    rw [e2] at ih
    rw [List.findSome?_cons]
    cases hq : q x with
    | some y =>
      rw [hq] at h2
      exact for_ret h1 h2 (hv y)
    | none =>
      rw [hq] at h2
      exact for_cons h1 h2 ih
theorem s_forK {β : Type} {X : Cx} {ρ ρ1 : Rho} {tg iter : Expr} {sts rest : List Stmt} {o : Out} {pos : Pos} {g : TG} {vs : List Nat} {ds : List Dt} {q : Option β} {v : β → Out} (hi : XIt X tg iter ρ ds) (hg : PG X tg g)
    (hf : ForD X.K g vs (wpSs X sts) ds ρ (match q with | some y => v y | none => .nx ρ1)) (hv : ∀ y, (v y).ret = true) (hs : ∀ x, q = some x → o = v x) (hn : q = none → XSs X rest ρ1 o) (hp : PassesOwn (model X.prog X.w) X.A X.env X.xe := by exact PassesOwn.never) (hc : X.calm = true := by rfl)
    (hst : ∀ x, foldedSetIterable iter X.env x = pure x := by intro _; rfl) : XSs X (.For tg iter sts [] pos :: rest) ρ o := by
  cases q with
  | none => exact s_cons (s_for hi hg hf hp hc hst) (hn rfl)
  | some x => rw [hs x rfl]; exact s_end (s_for hi hg hf hp hc hst) (hv x)
theorem b_fgK {K : PySem.W.Frag} {t : TS} {ρ ρ1 ρ2 : Rho} {d : Dt} (h : BsD K t ρ (.rk ρ1 d)) (f : Fg ρ1 ρ2) : BsD K t ρ (.rk ρ2 d) := fun F0 H0 F H σ D S q => h F0 H0 F H σ D S fun v F2 H2 σ2 S2 dv => q v F2 H2 σ2 (S2.fg f) dv
section
variable {P : Program} {w : World} {K : PySem.W.Frag} {mg : Str → Option Value} {base : Heap}
theorem len_eq (a n : Nat) : decide (Dt.v (.int (a : Int)) = Dt.v (.int (n : Int))) = decide (a = n) := by
  rw [i_decide]
  by_cases h : a = n
  · subst h; simp
  · rw [decide_eq_false h, beq_eq_false_iff_ne.mpr h]
theorem c_every (c : Fx w K mg) (ax : Bool) {n : Nat} {told : List Nat} (h : Td n told) : ∀ (m : Nat) (cells : List Nat), cells.length + m = n → (∀ x ∈ cells, x < n) → Mt P w K mg base (5 + m) (C_Pile_mapfold K) "every" (spE K (C_Pile_mapfold K) (fsP K ax n told) cells ((everyM told n m cells).map fun cs => .tup (nt cs)))
  | 0, cells, hm, hcs => by
    refine to_Pile_mapfold_every c fun f fd F => def_okE F sc_Pile_mapfold_every fun p dx a fv cdv A outer s' H E hr => ⟨_, s_end (s_ifT (xt_cmp op_eq (nomark _) (x_lenR (z_len c) (xr_fldS (i := 0) (cl_Pile_mapfold c) (na_Pile_mapfold_cells c) rfl rfl List.mem_cons_self)) (x_fld (cl_Map c) (na_Map_cells c) (x_fldS (i := 0) (cl_Pile_mapfold c) (na_Pile_mapfold_sheet c) rfl rfl) rfl) (rd_eq rfl rfl rfl)) ?k1
      (s_one (s_retKN (xn_lst (xa_cons (x_tupOf (z_tuple c) (xr_fldS (i := 0) (cl_Pile_mapfold c) (na_Pile_mapfold_cells c) rfl rfl List.mem_cons_self)) xa_nil))))) rfl, rfl⟩
    case k1 => rw [nt_len, len_eq]; exact decide_eq_true hm
  | m + 1, cells, hm, hcs => by
    have hn := h.le
    have bl := every_len told hn m
    refine to_Pile_mapfold_every c fun f fd F => def_okE F sc_Pile_mapfold_every fun p dx a fv cdv A outer s' H E hr => ⟨_, s_cons (s_ifF (xt_cmp op_eq (nomark _) (x_lenR (z_len c) (xr_fldS (i := 0) (cl_Pile_mapfold c) (na_Pile_mapfold_cells c) rfl rfl List.mem_cons_self)) (x_fld (cl_Map c) (na_Map_cells c) (x_fldS (i := 0) (cl_Pile_mapfold c) (na_Pile_mapfold_sheet c) rfl rfl) rfl) (rd_eq rfl rfl rfl)) ?k1 s_nil)
      (s_cons (s_setN (i := 1) sc_Pile_mapfold_every.nd (xn_lst xa_nil))
      (s_cons (ρ1 := [some (.isl p dx (C_Pile_mapfold K) fv (fsP K ax n told a) [(a, nt cells)]), some (.mu ((everyM told n (m + 1) cells).map fun cs => .tup (nt cs))), none]) (s_for (xi_list (XN.toD (xn_methS0 (i := 0) (ns := leftL n cells) (by rw [vw_pile]; exact c_left c ax cells hn) hr rfl rfl (by show 1 ≤ 5 + m; omega)))) (pg_name (i := 2) sc_Pile_mapfold_every.nd rfl (Or.inl rfl)) (vs := [2]) ?l)
      (s_one (s_retKM (i := 1) rfl)))), rfl⟩
    case k1 => rw [nt_len, len_eq]; exact decide_eq_false (by omega)
    case l =>
      refine for_at (fun i => [some (.isl p dx (C_Pile_mapfold K) fv (fsP K ax n told a) [(a, nt cells)]), some (.mu ((((leftL n cells).take i).flatMap fun cell => if hasR told cells n cell then [] else everyM told n m (cells ++ [cell])).map fun cs => .tup (nt cs))), none]) (leftL n cells).length (by rw [nt_len]) rfl (by rw [List.take_length]; rfl) fun i d hi hd => ?_
      obtain ⟨cell, hc⟩ : ∃ cell, (leftL n cells)[i]? = some cell := ⟨_, List.getElem?_eq_getElem hi⟩
      have hd' : d = .int (cell : Int) := by
        rw [nt_get hc] at hd
        exact (Option.some.inj hd).symm
      subst hd'
      have hlt : cell < n := left_lt cell (List.mem_of_getElem? hc)
      have et : (leftL n cells).take (i + 1) = (leftL n cells).take i ++ [cell] := by rw [List.take_succ, hc]; rfl
      refine ⟨_, tg_name, ?_⟩
      cases hq : hasR told cells n cell with
      | true =>
        refine b_fg (ρ1 := [some (.isl p dx (C_Pile_mapfold K) fv (fsP K ax n told a) [(a, nt cells)]), some (.mu ((((leftL n cells).take i).flatMap fun cell => if hasR told cells n cell then [] else everyM told n m (cells ++ [cell])).map fun cs => .tup (nt cs))), some (.im (.int (cell : Int)))])
          (s_one (s_ifF (xt_isN (x_methS (i := 0) (by rw [vw_pile]; exact c_reason c ax h hlt hcs (by omega)) hr rfl (xa_cons (x_var (i := 2) rfl) xa_nil) ?lt rfl (by show 4 ≤ 5 + m; omega))) ?k2 s_nil)) ⟨.inr rfl, .inr ?eq, .inl rfl, trivial⟩
        case lt => rw [hq]; rfl
        case k2 => rw [hq]; rfl
        case eq => rw [et, List.flatMap_append, List.flatMap_singleton, if_pos hq, List.append_nil]
      | false =>
        have hcs' : ∀ x ∈ cells ++ [cell], x < n := by
          intro x hx
          rcases List.mem_append.mp hx with z | z
          · exact hcs x z
          · rw [List.mem_singleton] at z; subst z; exact hlt
        refine b_fg (ρ1 := [some (.isl p dx (C_Pile_mapfold K) fv (fsP K ax n told a) [(a, nt cells)]), some (.mu (((((leftL n cells).take i).flatMap fun cell => if hasR told cells n cell then [] else everyM told n m (cells ++ [cell])).map fun cs => .tup (nt cs)) ++ ((everyM told n m (cells ++ [cell])).map fun cs => .tup (nt cs)))), some (.im (.int (cell : Int)))])
          (s_one (s_ifT (xt_isN (x_methS (i := 0) (by rw [vw_pile]; exact c_reason c ax h hlt hcs (by omega)) hr rfl (xa_cons (x_var (i := 2) rfl) xa_nil) ?lt rfl (by show 4 ≤ 5 + m; omega))) ?k2
            (s_cons (ρ1 := [some (.isl p dx (C_Pile_mapfold K) fv (fsP K ax n told a) [(a, nt (cells ++ [cell]))]), some (.mu ((((leftL n cells).take i).flatMap fun cell => if hasR told cells n cell then [] else everyM told n m (cells ++ [cell])).map fun cs => .tup (nt cs))), some (.im (.int (cell : Int)))]) (b_fg (s_appS (i := 0) (cl_Pile_mapfold c) (na_Pile_mapfold_cells c) rfl rfl (x_var (i := 2) rfl) ?len) ⟨.inr ?ea, .inr rfl, .inr rfl, trivial⟩)
            (s_cons (s_ext (i := 1) rfl (XN.toR (xn_every (i := 0) (c_every c ax h m (cells ++ [cell]) (by rw [List.length_append, List.length_singleton]; omega) hcs') hr rfl rfl (by show 5 + m ≤ 5 + m; omega))) ?len2)
            (s_one (b_fg0 (ρ1 := [some (.isl p dx (C_Pile_mapfold K) fv (fsP K ax n told a) [(a, nt cells ++ [.int (cell : Int)])]), some (.mu (((((leftL n cells).take i).flatMap fun cell => if hasR told cells n cell then [] else everyM told n m (cells ++ [cell])).map fun cs => .tup (nt cs)) ++ ((everyM told n m (cells ++ [cell])).map fun cs => .tup (nt cs)))), some (.im (.int (cell : Int)))]) ⟨.inr ?eb, .inr rfl, .inr rfl, trivial⟩ (s_popS (i := 0) (cl_Pile_mapfold c) (na_Pile_mapfold_cells c) rfl rfl))))))) ⟨.inr rfl, .inr ?eq, .inl rfl, trivial⟩
        case lt => rw [hq]; rfl
        case k2 => rw [hq]; rfl
        case len => rw [nt_len]; omega
        case ea => rw [← nt_app]; rfl
        case eb => rw [nt_app]
        case len2 =>
          rw [List.length_map, List.length_map]
          have h1 : (((leftL n cells).take i).flatMap fun cell => if hasR told cells n cell then [] else everyM told n m (cells ++ [cell])).length ≤ 6 * 6 ^ 5 := by
            refine Nat.le_trans (flat_le _ (6 ^ m) _ fun x _ => ?_) ?_
            · split
              · exact Nat.zero_le _
              · exact bl _
            · refine Nat.mul_le_mul ?_ (Nat.pow_le_pow_right (by omega) (by omega))
              rw [List.length_take]
              have := left_len n cells
              omega
          have h2 : (everyM told n m (cells ++ [cell])).length ≤ 6 ^ 5 := Nat.le_trans (bl _) (Nat.pow_le_pow_right (by omega) (by omega))
          omega
        case eq => rw [et, List.flatMap_append, List.flatMap_singleton, if_neg (by rw [hq]; exact Bool.false_ne_true), List.map_append]
def rowD (told cells : List Nat) (n cell : Nat) : Dt := .tup [.int (cell : Int), if hasR told cells n cell then .nn else .tup [.str "then", .nn]]
theorem c_find (c : Fx w K mg) (ax : Bool) {n : Nat} {told : List Nat} (h : Td n told) : ∀ (m : Nat) (cells : List Nat), cells.length + m = n → (∀ x ∈ cells, x < n) → Mt P w K mg base (5 + m) (C_Pile_mapfold K) "find" (spF K (C_Pile_mapfold K) (fsP K ax n told) cells ((findM told n m cells).getD cells) (rsD (findM told n m cells).isNone))
  | 0, cells, hm, hcs => by
    refine to_Pile_mapfold_find c fun f fd F => def_okF F sc_Pile_mapfold_find fun p dx a fv cdv A outer s' H E hr => ⟨_, s_end (s_ifT (xt_cmp op_eq (nomark _) (x_lenR (z_len c) (xr_fldS (i := 0) (cl_Pile_mapfold c) (na_Pile_mapfold_cells c) rfl rfl List.mem_cons_self)) (x_fld (cl_Map c) (na_Map_cells c) (x_fldS (i := 0) (cl_Pile_mapfold c) (na_Pile_mapfold_sheet c) rfl rfl) rfl) (rd_eq rfl rfl rfl)) ?k1
      (s_one (s_retK x_non))) rfl, rfl⟩
    case k1 => rw [nt_len, len_eq]; exact decide_eq_true hm
  | m + 1, cells, hm, hcs => by
    have hn := h.le
    have hcs' : ∀ cell, cell < n → ∀ x ∈ cells ++ [cell], x < n := by
      intro cell hlt x hx
      rcases List.mem_append.mp hx with z | z
      · exact hcs x z
      · rw [List.mem_singleton] at z; subst z; exact hlt
    have hll := left_len n cells
    refine to_Pile_mapfold_find c fun f fd F => def_okF F sc_Pile_mapfold_find fun p dx a fv cdv A outer s' H E hr => ⟨[some (.isl p dx (C_Pile_mapfold K) fv (fsP K ax n told a) [(a, nt ((findM told n (m + 1) cells).getD cells))]), none, none, none, none],
      s_cons (s_ifF (xt_cmp op_eq (nomark _) (x_lenR (z_len c) (xr_fldS (i := 0) (cl_Pile_mapfold c) (na_Pile_mapfold_cells c) rfl rfl List.mem_cons_self)) (x_fld (cl_Map c) (na_Map_cells c) (x_fldS (i := 0) (cl_Pile_mapfold c) (na_Pile_mapfold_sheet c) rfl rfl) rfl) (rd_eq rfl rfl rfl)) ?k1 s_nil)
      (s_cons (s_setN (i := 1) sc_Pile_mapfold_find.nd (xn_lst xa_nil))
      (s_forK (q := findM told n (m + 1) cells) (v := fun y : List Nat => .rk [some (.isl p dx (C_Pile_mapfold K) fv (fsP K ax n told a) [(a, nt y)]), none, none, none, none] .non) (ρ1 := [some (.isl p dx (C_Pile_mapfold K) fv (fsP K ax n told a) [(a, nt cells)]), some (.mu (((leftL n cells).take (0 + (leftL n cells).length)).map (rowD told cells n))), none, none, none])
        (xi_list (XN.toD (xn_methS0 (i := 0) (ns := leftL n cells) (by rw [vw_pile]; exact c_left c ax cells hn) hr rfl rfl (by show 1 ≤ 5 + m; omega)))) (pg_name (i := 2) sc_Pile_mapfold_find.nd rfl (Or.inl rfl)) (vs := [2]) ?l (fun _ => rfl) (fun y q => ?hs)
        (fun q => s_one (b_fgK (s_retK ((x_nn (x_tupOf (z_tuple c) (xr_mu (i := 1) rfl))).is ?nn)) ⟨.inr ?isl, .inl rfl, .inr rfl, .inr rfl, .inr rfl, trivial⟩)))), rfl⟩
    case k1 => rw [nt_len, len_eq]; exact decide_eq_false (by omega)
    case hs => rw [q]; rfl
    case nn => rw [q]; rfl
    case isl => rw [q]; rfl
    case l =>
      refine for_firstAt (fun x : Nat => .int (x : Int)) (fun y : List Nat => .rk [some (.isl p dx (C_Pile_mapfold K) fv (fsP K ax n told a) [(a, nt y)]), none, none, none, none] .non) (fun x : Nat => if hasR told cells n x then none else findM told n m (cells ++ [x])) (fun i => [some (.isl p dx (C_Pile_mapfold K) fv (fsP K ax n told a) [(a, nt cells)]), some (.mu (((leftL n cells).take i).map (rowD told cells n))), none, none, none]) (fun _ => rfl) (leftL n cells) 0 fun i cell hc => ?_
      have hlt : cell < n := left_lt cell (List.mem_of_getElem? hc)
      have et : (leftL n cells).take (0 + i + 1) = (leftL n cells).take (0 + i) ++ [cell] := by rw [List.take_succ, Nat.zero_add, hc]; rfl
      refine ⟨_, tg_name, ?_⟩
      cases hq : hasR told cells n cell with
      | true =>
        rw [if_pos rfl]
        refine b_fg (ρ1 := [some (.isl p dx (C_Pile_mapfold K) fv (fsP K ax n told a) [(a, nt cells)]), some (.mu (((leftL n cells).take (0 + i)).map (rowD told cells n) ++ [rowD told cells n cell])), some (.im (.int (cell : Int))), some (.im (rsD (hasR told cells n cell))), none])
          (s_cons (s_set (i := 3) sc_Pile_mapfold_find.nd (x_methS (i := 0) (by rw [vw_pile]; exact c_reason c ax h hlt hcs (by omega)) hr rfl (xa_cons (x_var (i := 2) rfl) xa_nil) ?lt rfl (by show 4 ≤ 5 + m; omega)))
          (s_cons (s_ifF (xt_isN (x_var (i := 3) rfl)) ?k2 s_nil)
          (s_one (s_app (i := 1) rfl ((x_tup (xa_cons (x_var (i := 2) rfl) (xa_cons (x_var (i := 3) rfl) xa_nil))).is (d2 := rowD told cells n cell) ?rd) ?len)))) ⟨.inr rfl, .inr ?eq, .inl rfl, .inl rfl, .inr rfl, trivial⟩
        case lt => rw [hq]; rfl
        case k2 => rw [hq]; rfl
        case rd => unfold rowD; rw [hq]; rfl
        case len => rw [List.length_map, List.length_take]; omega
        case eq => rw [et, List.map_append]; rfl
      | false =>
        rw [if_neg Bool.false_ne_true]
        have hm' : (cells ++ [cell]).length + m = n := by rw [List.length_append, List.length_singleton]; omega
        cases hf : findM told n m (cells ++ [cell]) with
        | some y =>
          refine s_cons (s_set (i := 3) sc_Pile_mapfold_find.nd (x_methS (i := 0) (by rw [vw_pile]; exact c_reason c ax h hlt hcs (by omega)) hr rfl (xa_cons (x_var (i := 2) rfl) xa_nil) ?lt rfl (by show 4 ≤ 5 + m; omega)))
            (s_end (s_ifT (xt_isN (x_var (i := 3) rfl)) ?k2
              (s_cons (ρ1 := [some (.isl p dx (C_Pile_mapfold K) fv (fsP K ax n told a) [(a, nt (cells ++ [cell]))]), some (.mu (((leftL n cells).take (0 + i)).map (rowD told cells n))), some (.im (.int (cell : Int))), some (.im (rsD (hasR told cells n cell))), none]) (b_fg (s_appS (i := 0) (cl_Pile_mapfold c) (na_Pile_mapfold_cells c) rfl rfl (x_var (i := 2) rfl) ?len) ⟨.inr ?ea, .inr rfl, .inr rfl, .inr rfl, .inr rfl, trivial⟩)
              (s_cons (s_setm (i := 4) sc_Pile_mapfold_find.nd (xm_find (i := 0) (c_find c ax h m (cells ++ [cell]) hm' (hcs' cell hlt)) hr rfl rfl (by show 5 + m ≤ 5 + m; omega)))
              (s_end (s_ifT (xt_isN (x_var (i := 4) rfl)) ?k3 (s_one (b_fgK (s_retK x_non) ⟨.inr ?isl, .inl rfl, .inl rfl, .inl rfl, .inl rfl, trivial⟩))) rfl)))) rfl)
          case lt => rw [hq]; rfl
          case k2 => rw [hq]; rfl
          case len => rw [nt_len]; omega
          case ea => rw [← nt_app]; rfl
          case k3 => rw [hf]; rfl
          case isl => rw [hf]; rfl
        | none =>
          refine b_fg (ρ1 := [some (.isl p dx (C_Pile_mapfold K) fv (fsP K ax n told a) [(a, nt cells)]), some (.mu (((leftL n cells).take (0 + i)).map (rowD told cells n) ++ [rowD told cells n cell])), some (.im (.int (cell : Int))), some (.im (.tup [.str "then", .nn])), some (.im .nn)])
            (s_cons (s_set (i := 3) sc_Pile_mapfold_find.nd (x_methS (i := 0) (by rw [vw_pile]; exact c_reason c ax h hlt hcs (by omega)) hr rfl (xa_cons (x_var (i := 2) rfl) xa_nil) ?lt rfl (by show 4 ≤ 5 + m; omega)))
            (s_cons (ρ1 := [some (.isl p dx (C_Pile_mapfold K) fv (fsP K ax n told a) [(a, nt cells)]), some (.mu (((leftL n cells).take (0 + i)).map (rowD told cells n))), some (.im (.int (cell : Int))), some (.im (.tup [.str "then", .nn])), some (.im .nn)]) (s_ifT (xt_isN (x_var (i := 3) rfl)) ?k2
              (s_cons (ρ1 := [some (.isl p dx (C_Pile_mapfold K) fv (fsP K ax n told a) [(a, nt (cells ++ [cell]))]), some (.mu (((leftL n cells).take (0 + i)).map (rowD told cells n))), some (.im (.int (cell : Int))), some (.im (rsD (hasR told cells n cell))), none]) (b_fg (s_appS (i := 0) (cl_Pile_mapfold c) (na_Pile_mapfold_cells c) rfl rfl (x_var (i := 2) rfl) ?len) ⟨.inr ?ea, .inr rfl, .inr rfl, .inr rfl, .inr rfl, trivial⟩)
              (s_cons (ρ1 := [some (.isl p dx (C_Pile_mapfold K) fv (fsP K ax n told a) [(a, nt cells ++ [.int (cell : Int)])]), some (.mu (((leftL n cells).take (0 + i)).map (rowD told cells n))), some (.im (.int (cell : Int))), some (.im (rsD (hasR told cells n cell))), some (.im .nn)]) (b_fg (s_setm (i := 4) sc_Pile_mapfold_find.nd (xm_find (i := 0) (c_find c ax h m (cells ++ [cell]) hm' (hcs' cell hlt)) hr rfl rfl (by show 5 + m ≤ 5 + m; omega))) ⟨.inr ?isl, .inr rfl, .inr rfl, .inr rfl, .inr ?pp, trivial⟩)
              (s_cons (s_ifF (xt_isN (x_var (i := 4) rfl)) rfl s_nil)
              (s_cons (s_popS (i := 0) (cl_Pile_mapfold c) (na_Pile_mapfold_cells c) rfl rfl)
              (s_one (s_set (i := 3) sc_Pile_mapfold_find.nd (x_tup (xa_cons (x_gstr (v_THEN c)) (xa_cons (x_var (i := 4) rfl) xa_nil))))))))))
            (s_one (s_app (i := 1) rfl ((x_tup (xa_cons (x_var (i := 2) rfl) (xa_cons (x_var (i := 3) rfl) xa_nil))).is (d2 := rowD told cells n cell) ?rd) ?len2)))) ⟨.inr rfl, .inr ?eq, .inl rfl, .inl rfl, .inl rfl, trivial⟩
          case lt => rw [hq]; rfl
          case k2 => rw [hq]; rfl
          case len => rw [nt_len]; omega
          case ea => rw [← nt_app]; rfl
          case isl => rw [hf, nt_app]; rfl
          case pp => rw [hf]; rfl
          case rd => unfold rowD; rw [hq]; rfl
          case len2 => rw [List.length_map, List.length_take]; omega
          case eq => rw [et, List.map_append]; rfl
end
end K82
/-! ## part L -/
/-! A list sorted by a key that a lambda gives. -/
namespace K82
open PySem PySem.Spec PyProof.Rows L2 PySem.W
section
variable {prog : Program} {w : World} {A : Around} {E : Value → Shared → Prop} {s : Shared}
/-- the lambda x: x[0], called with a tuple: it keeps all that was there -/
theorem lam_key {f c' : Addr} {pm ctv : Value} {qual x : Str} {params : Arguments} {scope : Scope} {p1 p2 p3 : Pos} {kd : Nat} {t : Addr} {items : Array Value} {k : Int} {u : Tok} (hroom : A.depth < recursionLimit)
    (ho : s.heap.get? f = some (kla_obj "<lambda>" qual params (.Subscript (.Name x p1) (.Constant (.int 0) kd p2) p3) scope [] pm c' ctv)) (hcd : s.heap.CodeRec (.ref c') qual) (lim : s.heap.NoLimit)
    (hbind : ∀ v : Value, bindArgs (kla_fn "<lambda>" qual params (.Subscript (.Name x p1) (.Constant (.int 0) kd p2) p3) scope [] pm (.ref c') ctv) ⟨[v], []⟩ = pure [(x, v)])
    (hco : scope.isCoroutine = false) (hgen : scope.isGenerator = false) (hk : scope.kind = .function) (hx : scope.names.lookup x = some .local) (hcell : ∀ y ∈ scope.names, y.2 ≠ .cell) (hdb : (x == ("__debug__" : Str)) = false)
    (ht : IsTup s.heap t items) (h0 : items[0]? = some (.int k u)) : wpAny (model prog w) A (call (.ref f) [.ref t]) (KeyPure (.int k) s) E s := by
  have hne : 0 < items.size := (Array.getElem?_eq_some_iff.mp h0).1
  refine wpAny_call (codeAny_mono (kla_callFunE (R := fun r s' => ∃ v, r = .ok (.ret v) ∧ KeyPure (.int k) s v s') hroom ho rfl hco hgen rfl hcd ?_) fun r s' hq => ?_)
  · rw [hbind]
    refine wpAny_pure (wpAny_newFunctionEnv hcell (fun y hy => ?_) (fun h₁ hns hsb => ⟨lim.fresh _ hsb, ?_⟩) hk)
    · rw [List.mem_singleton] at hy
      subst hy
      exact hx
    · have kp : ∀ b o, s.heap.get? b = some o → h₁.get? b = some o := fun b o e => hsb.extBut b o (Nat.ne_of_lt (Heap.lt_size e)) (Heap.get?_push_of_some _ e)
      have ht1 : IsTup h₁ t items := by
        obtain ⟨o, h1, h2⟩ := ht
        exact ⟨o, kp _ _ h1, h2⟩
      refine kla_codeExpr (wpAny_Subscript_Constant_late (wpAny_Name (wpAny_loadName_local (v := .ref t) hk hx hns (by simp) (wpAny_Constant_int ?_)) hdb))
      refine ⟨_, _, slot_tuple_getitem.lookup, IsTup.typeIs ht1, getItem_tuple (j := 0) ht1 (by omega) (by omega) ?_ h0 ?_⟩
      · unfold seqIndex?
        simp [hne]
      · exact ⟨_, rfl, h₁, _, rfl, kp, Reads.int k u⟩
  · obtain ⟨v, rfl, hq⟩ := hq
    exact hq
end
section
variable {X : Cx} {pins : List (Addr × Obj)} {σ : L2.St} {H : Hp} {s : Shared}
theorem tabS_more {H H1 : Hp} {P c' : Addr} {ps : Array Value} {pos : Pos} (hP1 : H1 P = some (.tbl (ps ++ #[rawInt pos.line, rawInt pos.col, .ref c']))) (ht : TriplesOk ps.toList) (ha : ∀ (pos : Pos) (cv : Value), codeAmong pos ps.toList = some cv → ∃ c, cv = .ref c ∧ H c = some (LamX.CodeO c lamQ))
    (k : ∀ a o, a ≠ P → H a = some o → H1 a = some o) (hP : H P = some (.tbl ps)) (hc : H1 c' = some (LamX.CodeO c' lamQ)) : LamX.TabS H1 P lamQ := by
  have eL : (ps ++ #[rawInt pos.line, rawInt pos.col, .ref c']).toList = ps.toList ++ [rawInt pos.line, rawInt pos.col, .ref c'] := by simp
  refine ⟨_, hP1, by rw [eL]; exact PySem.TriplesOk_snoc _ _ _ _ ht, fun p' cv hcv => ?_⟩
  rw [eL] at hcv
  rcases LamX.among_app _ ht hcv with z | z
  · obtain ⟨c0, e1, e2⟩ := ha p' cv z
    exact ⟨c0, e1, k _ _ (fun w => by rw [w, hP] at e2; exact LamX.codeO_ne _ (Option.some.inj e2).symm) e2⟩
  · exact ⟨c', z, hc⟩
/-- the lambda is made; what becomes of the heap -/
theorem lam_make3 {c P : Addr} {params : Arguments} {body : Expr} {scope : Scope} {pos : Pos} {E : Value → Shared → Prop} {Q : Value → Shared → Prop} (I : Inv X pins σ H s) (TB : LamX.TabB X.base X.mg c P) (hcode : X.env.code = .ref c) (hq : X.env.qual ++ "<lambda>" = lamQ)
    (hT : LamX.TabS H P lamQ) (hdef : defaultsOf params X.env = ([], [])) (hfree : ∀ y ∈ scope.names, y.2 = .free → ∃ c, X.env.cells.lookup y.1 = some c)
    (h : ∀ (f c' : Addr) (pm ctv : Value) (H1 : Hp) (s' : Shared), Inv X pins σ H1 s' → (∀ a o, a ≠ P → H a = some o → H1 a = some o) → LamX.TabS H1 P lamQ →
      s'.heap.get? f = some (kla_obj "<lambda>" lamQ params body scope (cloFrom X.env.cells scope.names []) pm c' ctv) → H1 f = none → H1 c' = some (LamX.CodeO c' lamQ) → Q (.ref f) s') :
    wpAny (model X.prog X.w) X.A (eval (.Lambda params body scope pos) X.env) Q E s := by
  obtain ⟨ps, hP, ht, ha⟩ := hT
  have bP : s.heap.BuiltinsAt X.mg P := TB.bm.keeps I.bk
  have hP' : s.heap.get? P = some { cls := .none, data := .fields ps } := I.hok P _ hP
  have hcode' := TB.code.keeps I.bk
  have hglob := I.mod.glob.keeps I.bk
  refine kla_eval hdef ?_
  rw [hq]
  match hc : codeAmong pos ps.toList with
  | none =>
    refine kla_makeFunction (mg := X.mg) (c := c) (P := P) (ps := ps) (closure_ok hfree) I.ok.glob hglob hcode hcode' hP' ht hc TB.gP bP fun c' ctv h' tk hx hge hlt ⟨c2, oc, vs, t, e2, hoc, hd, hv⟩ htb => ?_
    cases e2
    have nC : H c' = none := I.hok.fresh hge
    have hsz : s.heap.objs.size ≤ h'.objs.size := Nat.le_trans hge (Nat.le_of_lt hlt)
    have nPc : P ≠ c' := fun z => by rw [← z, hP] at nC; cases nC
    have I1 := LamX.inv_table (q := lamQ) (t' := tk) (more := #[rawInt pos.line, rawInt pos.col, .ref c']) (h' := h'.push (kla_obj "<lambda>" lamQ params body scope (cloFrom X.env.cells scope.names []) ((X.mg "__name__").getD .none) c' ctv)) I hP
      (fun b o hb e => Heap.get?_push_of_some _ (hx b o hb e)) (Heap.get?_push_of_some _ htb) hge ⟨oc, vs, t, Heap.get?_push_of_some _ hoc, hd, hv⟩
    have k : ∀ a o, a ≠ P → H a = some o → upd (upd H P (.tbl (ps ++ #[rawInt pos.line, rawInt pos.col, .ref c']))) c' (LamX.CodeO c' lamQ) a = some o := fun a o hb e => by
      rw [upd_ne (ne_of_none e nC), upd_ne hb]; exact e
    refine h h'.objs.size c' _ ctv _ _ I1 k (tabS_more (by rw [upd_ne nPc, upd_same]) ht ha k hP upd_same) (Heap.get?_push_size _ rfl) ?_ upd_same
    rw [upd_ne (Nat.ne_of_gt hlt), upd_ne (Nat.ne_of_gt (Nat.lt_of_lt_of_le (Heap.lt_size hP') hsz))]
    exact I.hok.fresh hsz
  | some cv =>
    obtain ⟨c', rfl, hco⟩ := ha pos cv hc
    refine kla_makeFunctionHit (mg := X.mg) (c := c) (P := P) (ps := ps) (closure_ok hfree) I.ok.glob hglob hcode hcode' hP' ht hc bP fun ctv h' tk hx hsz => ?_
    exact h h'.objs.size c' ((X.mg "__name__").getD .none) ctv H _ (I.kept (t' := tk) fun b o e => Heap.get?_push_of_some _ (hx b o e)) (fun _ _ _ e => e) ⟨ps, hP, ht, ha⟩ (Heap.get?_push_size _ rfl) (I.hok.fresh hsz) hco
end
/-- the items are tuples; their first items are the ints ks -/
def KeysOf (K : PySem.W.Frag) (H : Hp) : List V → List Int → Prop
  | [], ks => ks = []
  | x :: xs, ks => ∃ t k rest ks', x = .ref t ∧ SqT K H t (.int k :: rest) ∧ ks = k :: ks' ∧ KeysOf K H xs ks'
theorem KeysOf.mono {K : PySem.W.Frag} {H H1 : Hp} (e : ∀ t xs, SqT K H t xs → SqT K H1 t xs) : ∀ {xs : List V} {ks : List Int}, KeysOf K H xs ks → KeysOf K H1 xs ks
  | [], _, h => h
  | x :: xs, _, h => by
    obtain ⟨t, k, rest, ks', h1, h2, h3, h4⟩ := h
    exact ⟨t, k, rest, ks', h1, e _ _ h2, h3, KeysOf.mono e h4⟩
section
variable {X : Cx} {pins : List (Addr × Obj)} {σ : L2.St} {H : Hp} {s : Shared}
def KeyR (h : Heap) (p : Value × Int) : Prop := ∃ (t : Addr) (items : Array Value) (u : Tok), p.1 = .ref t ∧ IsTup h t items ∧ items[0]? = some (.int p.2 u)
theorem keys_at (I : Inv X pins σ H s) : ∀ {xs : List V} {its : List Value} {ks : List Int}, KeysOf X.K H xs ks → Vals xs its → EachIs (fun v (p : Value × Int) => v = p.1) its (its.zip ks) ∧ (∀ p ∈ its.zip ks, KeyR s.heap p) ∧ (its.zip ks).map (·.2) = ks ∧ (its.zip ks).length = its.length ∧ (its.zip ks).map (·.1) = its
  | [], _, _, h, r => by
    cases r
    have h : _ = [] := h
    subst h
    exact ⟨.nil, fun p hp => (by cases hp), rfl, rfl, rfl⟩
  | x :: xs, _, _, h, r => by
    obtain ⟨t, k, rest, ks', rfl, h2, rfl, h4⟩ := h
    cases r with
    | cons r1 r2 =>
      rename_i u its
      obtain ⟨a1, a2, a3, a4, a5⟩ := keys_at I h4 r2
      obtain rfl : u = Value.ref t := r1
      refine ⟨.cons rfl a1, fun p hp => ?_, by rw [List.zip_cons_cons, List.map_cons, a3], by rw [List.zip_cons_cons, List.length_cons, a4, List.length_cons], by rw [List.zip_cons_cons, List.map_cons, a5]⟩
      rw [List.zip_cons_cons] at hp
      rcases List.mem_cons.mp hp with z | z
      · subst z
        obtain ⟨its2, q1, q2, _⟩ := I.tuple h2
        cases q1 with
        | cons q3 q4 =>
          obtain ⟨tk, e⟩ := q3
          exact ⟨t, _, tk, rfl, q2, by rw [e]; rfl⟩
      · exact a2 p z
theorem each_eq : ∀ {out : List Value} {bs : List (Value × Int)}, EachIs (fun v (p : Value × Int) => v = p.1) out bs → out = bs.map (·.1)
  | _, _, .nil => rfl
  | _, _, .cons h t => by rw [List.map_cons, h, ← each_eq t]
/-- row.sort(key=lambda one: one[0]), the rows stand by their keys -/
def tSortLam (K : PySem.W.Frag) (i : Nat) (P : Addr) : TE := fun σ H Q => ∃ l xs ks, σ[i]? = some (some (.ref l)) ∧ H l = some (.lst xs) ∧ KeysOf K H xs ks ∧ ks.Pairwise (· ≤ ·) ∧ LamX.TabS H P lamQ ∧
  ∀ H1 : Hp, (∀ a o, a ≠ P → H a = some o → H1 a = some o) → LamX.TabS H1 P lamQ → Q .non H1
theorem upd_self {H : Hp} {l : Addr} {o : HO} (h : H l = some o) : upd H l o = H := by
  funext b
  by_cases z : b = l
  · subst z; rw [upd_same, h]
  · rw [upd_ne z]
theorem pe_sortLam {c P : Addr} {i : Nat} {x y : Str} {params : Arguments} {scope : Scope} {p apos cpos lpos kpos p1 p2 p3 : Pos} {kd : Nat} {pl : Sem Bool} (TB : LamX.TabB X.base X.mg c P) (hcode : X.env.code = .ref c) (hq : X.env.qual ++ "<lambda>" = lamQ) (hdep : X.A.in1.depth < recursionLimit) (hu : X.A.units + 64 < cLine)
    (hdef : defaultsOf params X.env = ([], [])) (hfree : ∀ z ∈ scope.names, z.2 ≠ .free) (hclo : cloFrom X.env.cells scope.names [] = [])
    (hbind : ∀ (c' : Addr) (pm ctv : Value) (v : Value), bindArgs (kla_fn "<lambda>" lamQ params (.Subscript (.Name y p1) (.Constant (.int 0) kd p2) p3) scope [] pm (.ref c') ctv) ⟨[v], []⟩ = pure [(y, v)])
    (hco : scope.isCoroutine = false) (hgen : scope.isGenerator = false) (hk : scope.kind = .function) (hy : scope.names.lookup y = some .local) (hcell : ∀ z ∈ scope.names, z.2 ≠ .cell) (hdb : (y == ("__debug__" : Str)) = false)
    (hN : X.N[i]? = some x) (hv : Vis X.env.scope x) (hd : (x == ("__debug__" : Str)) = false) (hcd : (x == ("__classdict__" : Str)) = false)
    (he : eval (.Call (.Attribute (.Name x p) "sort" apos) [] [⟨some "key", .Lambda params (.Subscript (.Name y p1) (.Constant (.int 0) kd p2) p3) scope lpos, kpos⟩] cpos) X.env = (do
      let ov ← eval (.Name x p) X.env
      standAt apos.atName
      let (f, first) ← holding [ov] (getMethod ov "sort" pl)
      callWith cpos f first (backTo cpos (starEach [] X.env)) (backToKw cpos (keywordEach [⟨some "key", .Lambda params (.Subscript (.Name y p1) (.Constant (.int 0) kd p2) p3) scope lpos, kpos⟩] X.env))) := by rfl) :
    PE X (.Call (.Attribute (.Name x p) "sort" apos) [] [⟨some "key", .Lambda params (.Subscript (.Name y p1) (.Constant (.int 0) kd p2) p3) scope lpos, kpos⟩] cpos) (tSortLam X.K i P) := by
  refine ⟨fun pins s σ H Q I h => ?_⟩
  obtain ⟨l, xs, ks, h1, h2, h3, h4, h5, h6⟩ := h
  refine methodCall_KW (thn ((pe_var (pos := p) (i := i) hN hv hd hcd).run pins s σ H (fun v H1 => v = .ref l ∧ H1 = H) I ⟨.ref l, h1, rfl, rfl⟩) fun v s1 ⟨x1, H1, I1, r1, q1⟩ => ?_) he
  obtain ⟨ev, eH⟩ := q1
  subst ev
  subst eH
  obtain rfl : v = Value.ref l := r1
  obtain ⟨ty1, ty2⟩ := tyV_is (T := "list") I1 (x := .ref l) (v := .ref l) rfl (.inl ⟨rfl, xs, SqL.of h2⟩)
  refine getMethod_builtin ty1 PySem.F.plainAttrs_list PySem.F.slot_list_sort PySem.F.type_list_sort ty2 ?_
  show wpAny _ _ (callWith cpos (.builtin "list.sort") [.ref l] (backTo cpos (starEach [] X.env)) (backToKw cpos (keywordEach _ X.env))) _ _ _
  refine PyProof.Rows.callWith_builtin_kwB rfl rfl ?_
  refine evalArgs_kw2_nil rfl ?_
  show wpAny _ _ (evalAll [do let v ← eval (.Lambda params (.Subscript (.Name y p1) (.Constant (.int 0) kd p2) p3) scope lpos) X.env; standAt cpos; pure v]) _ _ s1
  refine wpAny_evalAll_cons (wpAny_bind (lam_make3 I1 TB hcode hq h5 hdef (fun z hz e => absurd e (hfree z hz)) fun f c' pm ctv H2 s2 I2 k2 t2 hf nf hc' => wpAny_bind (wpAny_standAt (wpAny_pure (wpAny_evalAll_nil ?_)))))
  rw [hclo] at hf
  have hPl : l ≠ P := fun z => by
    obtain ⟨ps, e, _⟩ := h5
    rw [← z, h2] at e
    cases e
  have h2' := k2 _ _ hPl h2
  obtain ⟨hz, its, n, rv, hob⟩ := I2.hok l _ h2'
  have tupk : ∀ t xs, SqT X.K H1 t xs → SqT X.K H2 t xs := fun t xs q => by
    rcases q with q | q
    · have nP : ∀ o, H1 t = some o → (∀ ps, o ≠ .tbl ps) → t ≠ P := fun o e n z => by
        obtain ⟨ps, e2, _⟩ := h5
        rw [z, e2] at e
        exact n ps (Option.some.inj e).symm
      rcases q with q | ⟨o, q⟩
      · exact .inl (.inl (k2 _ _ (nP _ q fun _ z => nomatch z) q))
      · exact .inl (.inr ⟨o, k2 _ _ (nP _ q fun _ z => nomatch z) q⟩)
    · exact .inr q
  obtain ⟨b1, b2, b3, b4, b5⟩ := keys_at I2 (h3.mono tupk) rv
  have hs : (its.zip ks).Pairwise (fun a b => decide (a.2 ≤ b.2) = true) := by
    have := h4
    rw [← b3, List.pairwise_map] at this
    exact this.imp fun h => decide_eq_true h
  have hms : (its.zip ks).mergeSort (dataLe false fun p : Value × Int => PyData.int p.2) = its.zip ks := by
    rw [dataLe_int]
    exact List.mergeSort_of_pairwise hs
  have nfl : f ≠ l := fun z => by rw [z, h2'] at nf; cases nf
  refine list_sort_key_data (b := false) (R := fun v (p : Value × Int) => v = p.1) (fun p : Value × Int => PyData.int p.2) hob b1 (AllAlike.of fun _ _ => by simp [alike]) ?so ?len (fun p _ => ?un) (ksk_l1 _ _) (ksk_t1 _ _) (fun v p hv hp h' tk kp => ?turn) fun out c2 h' tk kp ho hol eo => ?fin
  case so =>
    refine .inr fun d hd => ?_
    obtain ⟨q, _, rfl⟩ := List.mem_map.mp hd
    exact ⟨fun z => (nomatch z), fun _ z => (nomatch z)⟩
  case len => rw [b4, ← rv.length]; exact hz
  case un => show X.A.units + 1 + 0 < cLine; omega
  case turn =>
    subst hv
    obtain ⟨t, items, u, e1, ⟨o, g1, g2, g3⟩, e3⟩ := b2 p hp
    rw [e1]
    obtain ⟨⟨oc, vs, tq, m1, m2, m3⟩, _, _⟩ := I2.hok c' _ hc'
    have nc : c' ≠ l := fun z => by
      rw [z, h2'] at hc'
      exact codeO_lst hc'
    have nt : t ≠ l := fun z => by
      rw [z, hob] at g1
      rw [← Option.some.inj g1] at g2
      exact absurd (Value.type.inj g2) (by decide)
    exact lam_key (s := { s2 with heap := h', toks := tk }) hdep (kp _ _ nfl hf) ⟨c', oc, vs, tq, rfl, kp _ _ nc m1, m2, m3⟩ (I2.ok.mod.nolimit.keeps fun b o e => kp b o (fun z => by have := (I2.bs b o e).2; rw [z, h2'] at this; cases this) (I2.bk b o e))
      (hbind c' pm ctv) hco hgen hk hy hcell hdb ⟨o, kp _ _ nt g1, g2, g3⟩ e3
  case fin =>
    rw [hms] at eo
    have eo' : out = its := (each_eq eo).trans b5
    subst eo'
    exact ⟨.non, upd H2 l (.lst xs), I2.write (x := l) (e := l) (t' := tk) (by rw [h2']; trivial) (.inl rfl) (fun b u hb hu => kp b u hb hu) ⟨_, ho⟩ ⟨hz, out, c2, rv, ho⟩, rfl, by rw [upd_self h2']; exact h6 H2 k2 t2⟩
end
/-! ### statements behind which the table of the lambda's code object stands -/
def BsDT (P : Addr) (K : PySem.W.Frag) (t : TS) (ρ : Rho) (o : Out) : Prop := ∀ F0 H0 F H σ D, F0 P = none → LamX.TabS H0 P lamQ → Sta K F0 H0 F H σ ρ → OutOk K F0 H0 F D o → t D σ H
abbrev XST (X : Cx) (P : Addr) (st : Stmt) (ρ : Rho) (o : Out) : Prop := BsDT P X.K (wpS X st) ρ o
abbrev XSsT (X : Cx) (P : Addr) (st : List Stmt) (ρ : Rho) (o : Out) : Prop := BsDT P X.K (wpSs X st) ρ o
theorem BsD.t {P : Addr} {K : PySem.W.Frag} {t : TS} {ρ : Rho} {o : Out} (h : BsD K t ρ o) : BsDT P K t ρ o := fun F0 H0 F H σ D _ _ S q => h F0 H0 F H σ D S q
section
variable {X : Cx} {P : Addr} {ρ ρ1 ρ2 : Rho} {st : Stmt} {sts : List Stmt} {o : Out}
theorem sT_cons (h : XST X P st ρ (.nx ρ1)) (t : XSsT X P sts ρ1 o) : XSsT X P (st :: sts) ρ o := fun F0 H0 F H σ D f ta S q => wpSs_of (pss_cons ps_wp pss_wp) (h F0 H0 F H σ _ f ta S fun F2 H2 σ2 S2 e2 => t F0 H0 F2 H2 σ2 D f ta S2 (q.mono e2))
theorem sT_one (h : XST X P st ρ o) : XSsT X P [st] ρ o := fun F0 H0 F H σ D f ta S q => wpSs_of (pss_one ps_wp) (h F0 H0 F H σ D f ta S q)
theorem sT_nil : XSsT X P [] ρ (.nx ρ) := (s_nil : XSs X [] ρ (.nx ρ)).t
theorem sT_ex {R : Rho → Prop} (h : R ρ) : XSsT X P [] ρ (.ex R) := fun F0 H0 F H σ D _ _ S q => wpSs_of pss_nil (q ρ F H σ h S (Ex.refl _))
end
end K82
/-! ## part N -/
/-! Islands with lists of lists. -/
namespace K82
open PySem PySem.Spec PyProof.Rows L2
section
variable {X : Cx} {P : Addr} {ρ ρ1 ρ2 : Rho} {e a b k : Expr} {es : List Expr} {pos px pos' p3 apos cpos : Pos} {d d1 d2 : Dt} {ds ds1 ds2 refs : List Dt} {x y m n f : Str} {st : Stmt} {sts sts2 : List Stmt} {o : Out}
  {i j : Nat} {p dx C c L l : Addr} {fv : List (Str × V)} {fs : List (Str × Dt)} {os : List (Addr × List Dt)} {z : Int}
/-- self.f = a new list: an island from now on -/
theorem s_fldIs (cl : Cls X.K C) (na : NoAttr X.K C f) (he : ρ[i]? = some (some (.mi (some (p, dx)) C fs))) (h : XN X e ρ ds) (hr : ∀ c fv, XSsT X P sts (ρ.set i (some (.isl p dx C fv (putD f (.ref c) fs) [(c, ds)]))) o) (hfew : fs.length < 1000 := by exact Nat.le_of_ble_eq_true rfl)
    (hN : X.N[i]? = some x := by rfl) (hv : Vis X.env.scope x := by first | exact Or.inl rfl | exact Or.inr (Or.inl rfl) | exact Or.inr (Or.inr rfl)) (hd : (x == ("__debug__" : Str)) = false := by decide)
    (hcd : (x == ("__classdict__" : Str)) = false := by decide) (hs : swapsWith e (some (.Attribute (.Name x px) f pos')) pos.line X.env = pure false := by rfl) : XSsT X P (.Assign [.Attribute (.Name x px) f pos'] e pos :: sts) ρ o :=
  fun F0 H0 F H σ D f0 t0 S q => wpSs_of (pss_cons (ps_fld (pe_var hN hv hd hcd) pe_wp hs) pss_wp) (h F0 H0 F H σ S _ fun l xs F2 H2 g n1 n2 n3 n4 => by
    obtain ⟨w, h1, a, dx', fv, rfl, h3, h4, h5, h6, h7⟩ := (S.mono g).ok i _ he
    have h8 := h7 _ rfl
    cases h8
    have hne : l ≠ p := fun z => by subst z; rw [n3] at h5; cases h5
    have hi : i < ρ.length := (List.getElem?_eq_some_iff.mp he).1
    have Sm := S.mono g
    -- the field is written: the slot forgets, then takes the island
    refine ⟨_, h1, p, C, dx, fv, rfl, h5, cl, na, by rw [h6.length]; exact hfew, ?_⟩
    have S2 : Sta X.K F0 H0 F2 (upd H2 p (.ins C dx (putF f (.ref l) fv))) σ (ρ.set i (some (.mi (some (p, dx)) C (putD f (.ref l) fs)))) :=
      Sm.write he rfl h1 ⟨p, dx, _, rfl, h3, h4, upd_same, DenF.put (by simp only [Den]) h6, h7⟩
    have hlen : i < σ.length := by rw [Sm.len]; exact hi
    have S3 := S2.put (i := i) (s := .isl p dx C (putF f (.ref l) fv) (putD f (.ref l) fs) [(l, ds)]) (v := .ref p) (by rw [List.length_set]; exact hi) ⟨rfl, h3, h4, upd_same, DenF.put (by simp only [Den]) h6, fun c' ds' hm => ?_, by simp⟩ (fun j t b hj e w1 w2 => ?_)
    · have e1 : σ.set i (some (.ref p)) = σ := by
        apply List.ext_getElem?
        intro t
        by_cases zt : i = t
        · subst zt
          rw [List.getElem?_set_self hlen, h1]
        · rw [List.getElem?_set_ne zt]
      rw [e1, List.set_set] at S3
      exact hr l _ F0 H0 F2 _ σ D f0 t0 S3 (q.mono g.f)
    · cases hm with
      | head => exact ⟨S.g.h.none n1, n2, xs, by rw [upd_ne hne]; exact n3, n4⟩
      | tail _ hm => cases hm
    · rw [List.getElem?_set_ne (Ne.symm hj)] at e
      rcases w2 with ⟨_, w2⟩ | w2
      · rw [List.getElem?_set_self hlen] at w2
        cases w2
        exact Sm.dis i j _ t p (Ne.symm hj) he e (own_mut rfl h1) w1
      · rw [Sv.ox, List.map_cons, List.map_nil, List.mem_singleton] at w2
        subst w2
        exact S.some_ e w1 n1)
/-- self.f[k].append(e) -/
theorem s_appN (cl : Cls X.K C) (na : NoAttr X.K C f) (he : ρ[i]? = some (some (.isl p dx C fv fs os))) (hl : fs.lookup f = some (.ref L)) (hL : (L, refs) ∈ os) (hk : XE X k ρ (.int z)) (ha : atI refs z = some (.ref l)) (hj : os[j]? = some (l, ds)) (h : XE X e ρ d) (hz : ds.length ≤ 100000) (hs0 : PlainIx k := by intro _ _; rfl)
    (hN : X.N[i]? = some x := by rfl) (hv : Vis X.env.scope x := by first | exact Or.inl rfl | exact Or.inr (Or.inl rfl) | exact Or.inr (Or.inr rfl)) (hd : (x == ("__debug__" : Str)) = false := by decide)
    (hcd : (x == ("__classdict__" : Str)) = false := by decide) (hb : attributeBase (.Name x px) f X.env (eval (.Name x px) X.env) = eval (.Name x px) X.env := by rfl) (hbase : attributeBase (.Subscript (.Attribute (.Name x px) f pos') k p3) "append" X.env (eval (.Subscript (.Attribute (.Name x px) f pos') k p3) X.env) = eval (.Subscript (.Attribute (.Name x px) f pos') k p3) X.env := by rfl)
    (hfew : ((backTo cpos (starEach [e] X.env)).all (fun x => !x.1) && (backToKw cpos (keywordEach [] X.env)).all (fun x => x.1.isSome)
      && decide ([e].length + ([] : List Keyword).length + (if ([] : List Keyword).isEmpty then 0 else 1) < 30)) = true := by rfl)
    (hline : (apos.endLine == cpos.line) = true := by rfl) (hs : starEach [e] X.env = (false, eval e X.env) :: starEach [] X.env := by rfl) (hplain : (backTo cpos (starEach [] X.env)).any (·.1) = false := by rfl)
    (hsw : swapsWith (.Call (.Attribute (.Subscript (.Attribute (.Name x px) f pos') k p3) "append" apos) [e] [] cpos) none pos.line X.env = pure false := by rfl) :
    XS X (.Expr (.Call (.Attribute (.Subscript (.Attribute (.Name x px) f pos') k p3) "append" apos) [e] [] cpos) pos) ρ (.nx (ρ.set i (some (.isl p dx C fv fs (os.set j (l, ds ++ [d])))))) :=
  BsD.of (ps_expr (pe_bm PySem.F.plainAttrs_list PySem.F.slot_list_append PySem.F.type_list_append mt_append (pe_ix ix_list (pe_fld (pe_var hN hv hd hcd) hb) pe_wp hs0) (pa_cons pe_wp pa_nil hs) hbase hfew hline hs hplain) hsw) fun F0 H0 F H σ D S q => by
    obtain ⟨v, h1, rfl, h3, h4, h5, h6, h7, h8⟩ := S.ok i _ he
    obtain ⟨w, k3, k4⟩ := h6.look hl
    simp only [Den] at k4
    subst k4
    obtain ⟨_, _, xsL, mL, dL⟩ := h7 L refs hL
    refine ⟨_, h1, p, C, dx, fv, _, rfl, h5, cl, na, k3, hk F0 H0 F H σ S _ fun kv F2 H2 g dk => ?_⟩
    simp only [Den] at dk
    subst dk
    have aL : atI xsL z = some (.ref l) := by
      unfold atI at ha ⊢
      rw [dL.length]
      cases hx : ixN refs.length z with
      | none => rw [hx] at ha; cases ha
      | some t =>
        rw [hx] at ha
        obtain ⟨u, u1, u2⟩ := dL.get ha
        simp only [Den] at u2
        subst u2
        exact u1
    refine ⟨L, xsL, z, .ref l, rfl, rfl, SqL.of (g.h.lst mL), aL, ?_⟩
    have hm : (l, ds) ∈ os := List.mem_of_getElem? hj
    obtain ⟨m1, m2, xs, m3, m4⟩ := h7 l ds hm
    refine ⟨.inl ⟨rfl, _, SqL.of (g.h.lst m3)⟩, h F0 H0 F2 H2 σ (S.mono g) _ fun v F3 H3 g3 dv => ?_⟩
    have gg := g.trans g3
    have hjl : j < os.length := (List.getElem?_eq_some_iff.mp hj).1
    have hmap : (os.set j (l, ds ++ [d])).map (·.1) = os.map (·.1) := by
      rw [List.map_set]
      apply List.ext_getElem?
      intro t
      by_cases zt : j = t
      · subst zt
        rw [List.getElem?_set_self (by rw [List.length_map]; exact hjl), List.getElem?_map, hj]; rfl
      · rw [List.getElem?_set_ne zt]
    refine ⟨l, xs, v, rfl, rfl, gg.h.lst m3, Nat.lt_of_le_of_lt (by rw [m4.length]; exact hz) (by decide), q F3 _ σ ((S.mono gg).writeO he (a := l) (.inr (List.mem_map_of_mem (f := (·.1)) hm)) h1 ?_ ?_) gg.f⟩
    · have hne : p ≠ l := fun z => by subst z; rw [m3] at h5; cases h5
      refine ⟨rfl, h3, gg.free h4 h5, by rw [upd_ne hne]; exact gg.h.ins h5, h6.mono gg.f, fun c' ds' hm' => ?_, by rw [hmap]; exact h8⟩
      obtain ⟨t, ht⟩ := List.mem_iff_getElem?.mp hm'
      by_cases zt : j = t
      · subst zt
        rw [List.getElem?_set_self hjl] at ht
        cases ht
        exact ⟨m1, gg.free m2 m3, _, upd_same, (m4.mono gg.f).append (DenL.cons dv DenL.nil)⟩
      · rw [List.getElem?_set_ne zt] at ht
        obtain ⟨r1, r2, xs', r3, r4⟩ := h7 c' ds' (List.mem_of_getElem? ht)
        have hcl : c' ≠ l := fun w => by
          subst w
          have e1 : (os.map (·.1))[t]? = some c' := by rw [List.getElem?_map, ht]; rfl
          have e2 : (os.map (·.1))[j]? = some c' := by rw [List.getElem?_map, hj]; rfl
          have := (List.getElem?_inj (by rw [List.length_map]; exact hjl) h8).mp (e2.trans e1.symm)
          exact zt this
        exact ⟨r1, gg.free r2 r3, xs', by rw [upd_ne hcl]; exact gg.h.lst r3, r4.mono gg.f⟩
    · intro b w
      rcases w with w | w
      · exact .inl w
      · refine .inr ?_
        have w' : b ∈ (os.set j (l, ds ++ [d])).map (·.1) := w
        rw [hmap] at w'
        exact w'
end
section
variable {ρ : Rho}
/-- [[] for ..]: new lists, all different -/
theorem lc_near {K : PySem.W.Frag} {wi : TI} {g : TG} {vs : List Nat} {tt : TT} {te : TE} {ds : List Dt} (hi : IwD K wi ρ ds) (hl : ds.length ≤ 1000) (hf : ∀ d ∈ ds, ∃ ρ1, TgD K g vs d (wipeR ρ vs) ρ1 ∧ EvT K tt ρ1 true ∧ EvN K te ρ1 []) {F0 H0 F H : Hp} {σ : L2.St} (S : Sta K F0 H0 F H σ ρ) {Q : VK}
    (q : ∀ L ls F2 H2, Gr F H F2 H2 → H L = none → F2 L = none → H2 L = some (.lst (ls.map V.ref)) → (∀ l ∈ ls, H l = none ∧ F2 l = none ∧ H2 l = some (.lst [])) → (L :: ls).Nodup → ls.length = ds.length → Q (.ref L) H2) : tLc wi g tt te vs σ H Q := hi F0 H0 F H σ S _ fun J F2 H2 g2 w => by
  intro Dl hD
  have hfD : F2 Dl = none := g2.s.none hD
  refine ⟨fun i m H' => i + m = ds.length ∧ ∃ F' ls, Gr F2 H2 F' H' ∧ F' Dl = none ∧ H' Dl = some (.lst (ls.map V.ref)) ∧ (∀ l ∈ ls, H2 l = none ∧ F' l = none ∧ H' l = some (.lst [])) ∧ (Dl :: ls).Nodup ∧ ls.length = i,
    ⟨ds.length, by omega, F2, [], Gr.loose g2.s hD, hfD, upd_same, fun l hl => (by cases hl), by simp, rfl⟩, fun i m H' ⟨em, F', ls, g3, hd, hx, hls, hnd, hlen⟩ => ?_⟩
  obtain ⟨wg, ws⟩ := w F' H' g3.f g3.s
  by_cases hlt : i < ds.length
  · obtain ⟨d, hd'⟩ : ∃ d, ds[i]? = some d := ⟨ds[i], List.getElem?_eq_getElem hlt⟩
    obtain ⟨go, yl⟩ := wg i d hd'
    obtain ⟨ρ1, ht, h1, hv⟩ := hf d (List.mem_of_getElem? hd')
    refine .inr ⟨go, fun H' => ∃ m', m' < m ∧ i + 1 + m' = ds.length ∧ ∃ F' ls, Gr F2 H2 F' H' ∧ F' Dl = none ∧ H' Dl = some (.lst (ls.map V.ref)) ∧ (∀ l ∈ ls, H2 l = none ∧ F' l = none ∧ H' l = some (.lst [])) ∧ (Dl :: ls).Nodup ∧ ls.length = i + 1, fun H' ⟨m', h1, h2, h3⟩ => ⟨m', h1, h2, h3⟩, fun x H'' hy => ?_⟩
    obtain ⟨F'', g4, dx⟩ := yl x H'' hy
    have S4 : Sta K F0 H0 F'' H'' (wipe σ vs) (wipeR ρ vs) := ((S.mono g2).mono (g3.trans g4)).wipe vs
    refine ht F0 H0 F'' H'' _ S4 x dx _ fun σ2 S2 l2 e2 => ⟨wipe_back l2 e2, ?_⟩
    refine h1 F0 H0 F'' H'' σ2 S2 _ fun F5 H5 g5 => iteT (hv F0 H0 F5 H5 σ2 (S2.mono g5) _ fun l xs F6 H6 g6 n1 n2 n3 n4 => ?_)
    have exs : xs = [] := by simp only [DenL] at n4; exact n4
    subst exs
    have gg := ((g3.trans g4).trans g5).trans g6
    have g46 := (g4.trans g5).trans g6
    have hx6 := g46.h.lst hx
    have hne : l ≠ Dl := fun z => by subst z; rw [(g4.trans g5).h.lst hx] at n1; cases n1
    refine ⟨ls.map V.ref, hx6, Nat.lt_of_le_of_lt (by rw [List.length_map, hlen]; omega : (ls.map V.ref).length ≤ 1000) (by decide), m - 1, by omega, by omega, F6, ls ++ [l], ⟨gg.h.updL hD hx6, gg.f, gg.s.upd2 (g46.free hd hx), gg.n⟩, g46.free hd hx, by rw [upd_same, List.map_append]; rfl, fun l' hl' => ?_, ?_, by rw [List.length_append, List.length_singleton, hlen]⟩
    · rcases List.mem_append.mp hl' with w | w
      · obtain ⟨q1, q2, q3⟩ := hls l' w
        have hne' : l' ≠ Dl := fun z => by subst z; exact (List.nodup_cons.mp hnd).1 w
        exact ⟨q1, g46.free q2 q3, by rw [upd_ne hne']; exact g46.h.lst q3⟩
      · rw [List.mem_singleton] at w
        subst w
        exact ⟨((g3.trans g4).trans g5).h.none n1, n2, by rw [upd_ne hne]; exact n3⟩
    · have hnl : l ∉ ls := fun w => by
        have := (g4.trans g5).h.lst (hls l w).2.2
        rw [n1] at this
        cases this
      rw [← List.cons_append, List.nodup_append]
      refine ⟨hnd, by simp, fun a ha b hb => ?_⟩
      rw [List.mem_singleton] at hb
      subst hb
      intro z
      subst z
      rcases List.mem_cons.mp ha with w | w
      · exact hne w
      · exact hnl w
  · have ei : i = ds.length := by omega
    subst ei
    refine .inl ⟨ws, ?_⟩
    exact q Dl ls F' H' (g2.trans ⟨(Ex.refl _).t, Ex.refl _, g2.s, fun _ _ w => .inl w⟩ |>.trans g3) (g2.h.none hD) hd hx (fun l hl => ⟨g2.h.none (hls l hl).1, (hls l hl).2⟩) hnd hlen
end
section
variable {X : Cx} {P : Addr} {ρ ρ1 ρ2 : Rho} {e a b k : Expr} {es : List Expr} {pos px pos' p3 apos cpos spos : Pos} {d d1 d2 : Dt} {ds ds1 ds2 refs : List Dt} {x y m n f : Str} {st : Stmt} {sts sts2 : List Stmt} {o : Out}
  {i j : Nat} {p dx C c L l : Addr} {fv : List (Str × V)} {fs : List (Str × Dt)} {os : List (Addr × List Dt)} {z : Int}
/-- the lists of a list of lists -/
def nearO (L : Addr) (ls : List Addr) (g : Nat → List Dt) : List (Addr × List Dt) := (L, ls.map Dt.ref) :: (ls.zipIdx.map fun q => (q.1, g q.2))
theorem denL_refs {K : PySem.W.Frag} {F : Hp} : ∀ ls : List Addr, DenL K F (ls.map Dt.ref) (ls.map V.ref)
  | [] => DenL.nil
  | l :: ls => DenL.cons (by simp only [Den]) (denL_refs ls)
theorem nearO_fst (L : Addr) (ls : List Addr) (g : Nat → List Dt) : (nearO L ls g).map (·.1) = L :: ls := by
  unfold nearO
  rw [List.map_cons, List.map_map]
  congr 1
  exact List.zipIdx_map_fst 0 ls
/-- self.f = [[] for ..] -/
theorem s_fldNear {tg iter : Expr} {scope : Scope} {own : List (Str × Nat)} {g : TG} {ep : Pos} (cl : Cls X.K C) (na : NoAttr X.K C f) (he : ρ[i]? = some (some (.isl p dx C fv fs os))) (nd : X.N.Nodup) (hi : XIt X tg iter ρ ds) (hle : ds.length ≤ 1000) (ok : BlkOk X.N X.env.scope scope own)
    (hg : ∀ (s : Shared) (H : Hp) (C : Addr) (cl : List (Str × Addr)) (fp : List Addr), PG (X.blk s H scope (compEnvC scope cl C X.env) fp) tg g) (ht : ∀ d ∈ ds, ∃ ρ1, TgD X.K g (own.map (·.2)) d (wipeR ρ (own.map (·.2))) ρ1)
    (hr : ∀ L ls fv, ls.length = ds.length → XSsT X P sts (ρ.set i (some (.isl p dx C fv (putD f (.ref L) fs) (os ++ nearO L ls fun _ => [])))) o) (hfew : fs.length < 1000 := by exact Nat.le_of_ble_eq_true rfl)
    (hN : X.N[i]? = some x := by rfl) (hv : Vis X.env.scope x := by first | exact Or.inl rfl | exact Or.inr (Or.inl rfl) | exact Or.inr (Or.inr rfl)) (hd : (x == ("__debug__" : Str)) = false := by decide)
    (hcd : (x == ("__classdict__" : Str)) = false := by decide) (hs : swapsWith (.ListComp (.List [] ep) [⟨tg, iter, [], 0⟩] scope pos) (some (.Attribute (.Name x px) f pos')) spos.line X.env = pure false := by rfl)
    (hc : X.calm = true := by rfl) (hst : ∀ x, foldedSetIterable iter X.env x = pure x := by intro _; rfl) :
    XSsT X P (.Assign [.Attribute (.Name x px) f pos'] (.ListComp (.List [] ep) [⟨tg, iter, [], 0⟩] scope pos) spos :: sts) ρ o := by
  obtain ⟨wi, i1, i2⟩ := hi.ex
  intro F0 H0 F H σ D f0 t0 S q
  refine wpSs_of (pss_cons (ps_fld (pe_var hN hv hd hcd) (pe_lc (tt := wpTsB X scope []) (te := wpEB X scope (.List [] ep)) hc nd i1 ok hg (fun s H C cl fp => ⟨fun pins s' σ H' Q I q => q s H C cl fp pins s' I⟩) (fun s H C cl fp => ⟨fun pins s' σ H' Q I q => q s H C cl fp pins s' I⟩) hst) hs) pss_wp) ?_
  unfold tSeq sFld
  refine lc_near i2 hle (fun d hd => ?_) S fun L ls F2 H2 gr n1 n2 n3 n4 n5 n6 => ?_
  · obtain ⟨ρ1, t1⟩ := ht d hd
    exact ⟨ρ1, t1, tsB_nil, fun F0 H0 F H σ S Q q s H' C cl fp => (xn_lst xa_nil : XN (X.blk s H' scope (compEnvC scope cl C X.env) fp) (.List [] ep) ρ1 []) F0 H0 F H σ S Q q⟩
  · have Sm := S.mono gr
    obtain ⟨w, h1, rfl, h3, h4, h5, h6, h7, h8⟩ := Sm.ok i _ he
    have hi : i < ρ.length := (List.getElem?_eq_some_iff.mp he).1
    have hlen : i < σ.length := by rw [Sm.len]; exact hi
    obtain ⟨_, _, _, _, _, g5, _, g7, _⟩ := S.ok i _ he
    have nL : L ≠ p := fun z => by rw [z, g5] at n1; cases n1
    have nls : ∀ l ∈ ls, l ≠ p := fun l hl z => by have := (n4 l hl).1; rw [z, g5] at this; cases this
    have old : ∀ c ds, (c, ds) ∈ os → ∃ xs, H c = some (.lst xs) := fun c ds hm => by obtain ⟨_, _, xs, r, _⟩ := g7 c ds hm; exact ⟨xs, r⟩
    refine ⟨_, h1, p, C, dx, fv, rfl, h5, cl, na, by rw [h6.length]; exact hfew, ?_⟩
    have hf' := DenF.put (f := f) (d := .ref L) (v := .ref L) (by simp only [Den]) h6
    have S2 := Sm.writeO (s := .isl p dx C (putF f (.ref L) fv) (putD f (.ref L) fs) os) (o := .ins C dx (putF f (.ref L) fv)) he (a := p) (own_mut rfl h1) h1 ⟨rfl, h3, h4, upd_same, hf', fun c ds hm => ?_, h8⟩ (fun b w => w)
    · have S3 := S2.put (i := i) (s := .isl p dx C (putF f (.ref L) fv) (putD f (.ref L) fs) (os ++ nearO L ls fun _ => [])) (v := .ref p) (by rw [List.length_set]; exact hi) ⟨rfl, h3, h4, upd_same, hf', fun c ds hm => ?_, ?_⟩ (fun j t b hj e w1 w2 => ?_)
      · have e1 : σ.set i (some (.ref p)) = σ := by
          apply List.ext_getElem?
          intro t
          by_cases zt : i = t
          · subst zt
            rw [List.getElem?_set_self hlen, h1]
          · rw [List.getElem?_set_ne zt]
        rw [e1, List.set_set] at S3
        exact hr L ls _ n6 F0 H0 F2 _ σ D f0 t0 S3 (q.mono gr.f)
      · rcases List.mem_append.mp hm with w | w
        · obtain ⟨r1, r2, xs, r3, r4⟩ := h7 c ds w
          have hne : c ≠ p := fun z => by rw [z, h5] at r3; cases r3
          exact ⟨r1, r2, xs, by rw [upd_ne hne]; exact r3, r4⟩
        · unfold nearO at w
          rcases List.mem_cons.mp w with w | w
          · cases w
            exact ⟨S.g.h.none n1, n2, _, by rw [upd_ne nL]; exact n3, denL_refs ls⟩
          · obtain ⟨⟨l, t⟩, wl, e⟩ := List.mem_map.mp w
            cases e
            have hl : l ∈ ls := by
              have := (List.mem_zipIdx wl).2.2
              rw [this]; exact List.getElem_mem _
            obtain ⟨r1, r2, r3⟩ := n4 l hl
            exact ⟨S.g.h.none r1, r2, [], by rw [upd_ne (nls l hl)]; exact r3, DenL.nil⟩
      · rw [List.map_append, nearO_fst, List.nodup_append]
        refine ⟨h8, n5, fun a ha b hb z => ?_⟩
        subst z
        obtain ⟨⟨c, ds⟩, hm, e⟩ := List.mem_map.mp ha
        subst e
        obtain ⟨xs, r⟩ := old c ds hm
        rcases List.mem_cons.mp hb with w | w
        · have w : c = L := w
          rw [w, n1] at r; cases r
        · have w : c ∈ ls := w
          rw [(n4 c w).1] at r; cases r
      · rw [List.getElem?_set_ne (Ne.symm hj)] at e
        have w1' : Own σ j t b := w1
        rcases w2 with ⟨_, w2⟩ | w2
        · rw [List.getElem?_set_self hlen] at w2
          cases w2
          exact Sm.dis i j _ t p (Ne.symm hj) he e (own_mut rfl h1) w1'
        · rw [Sv.ox, List.map_append, nearO_fst] at w2
          rcases List.mem_append.mp w2 with w3 | w3
          · exact Sm.dis i j _ t b (Ne.symm hj) he e (.inr w3) w1'
          · have nb : H b = none := by
              rcases List.mem_cons.mp w3 with w4 | w4
              · rw [w4]; exact n1
              · exact (n4 b w4).1
            exact S.some_ e w1' nb
    · obtain ⟨r1, r2, xs, r3, r4⟩ := h7 c ds hm
      have hne : c ≠ p := fun z => by rw [z, h5] at r3; cases r3
      exact ⟨r1, r2, xs, by rw [upd_ne hne]; exact r3, r4⟩
end
end K82
/-! ## part T -/
/-! Statements behind which the table of the lambda's code object stands. -/
namespace K82
open PySem PySem.Spec PyProof.Rows L2
theorem Sta.tab {K : PySem.W.Frag} {F0 H0 F H : Hp} {σ : L2.St} {ρ : Rho} (S : Sta K F0 H0 F H σ ρ) {P : Addr} (f : F0 P = none) (t : LamX.TabS H0 P lamQ) : F P = none ∧ LamX.TabS H P lamQ := by
  obtain ⟨ps, h, _⟩ := t
  exact ⟨S.g.free f h, S.g.h.tabs P ⟨ps, h, by assumption⟩⟩
theorem gr_tab {F H H1 : Hp} {P : Addr} (e : Ex F H) (f : F P = none) (t : LamX.TabS H P lamQ) (k : ∀ a o, a ≠ P → H a = some o → H1 a = some o) (t1 : LamX.TabS H1 P lamQ) : Gr F H F H1 := by
  have nP : ∀ {a o}, H a = some o → (∀ ps, o ≠ .tbl ps) → a ≠ P := fun {a o} q n z => by
    obtain ⟨ps, h, _⟩ := t
    rw [z, h] at q
    exact n ps (Option.some.inj q).symm
  refine ⟨⟨fun a o q n => k a o (nP q n) q, fun a ps q => ?_, fun p q => ?_⟩, Ex.refl _, fun a o q => k a o (fun z => by rw [z, f] at q; cases q) (e a o q), fun _ _ w => .inl w⟩
  · by_cases z : a = P
    · obtain ⟨ps', h, _⟩ := t1
      exact ⟨ps', by rw [z]; exact h⟩
    · exact ⟨ps, k a _ z q⟩
  · by_cases z : p = P
    · rw [z]; exact t1
    · obtain ⟨ps, h1, h2, h3⟩ := q
      refine ⟨ps, k _ _ z h1, h2, fun pos cv hc => ?_⟩
      obtain ⟨c, e1, e2⟩ := h3 pos cv hc
      exact ⟨c, e1, k _ _ (nP e2 fun ps w => LamX.codeO_ne ps w) e2⟩
section
variable {X : Cx} {P : Addr} {ρ ρ1 ρ2 : Rho} {e a b k : Expr} {es : List Expr} {pos px pos' p3 apos cpos spos : Pos} {d d1 d2 : Dt} {ds ds1 ds2 refs : List Dt} {x y m n f : Str} {st : Stmt} {sts sts2 : List Stmt} {o : Out}
  {i j : Nat} {p dx C c L l : Addr} {fv : List (Str × V)} {fs : List (Str × Dt)} {os : List (Addr × List Dt)} {z : Int}
/-- the keys of the rows -/
def KsD : List Dt → List Int → Prop
  | [], ks => ks = []
  | d :: ds, ks => ∃ k rest ks', d = .tup (.int k :: rest) ∧ ks = k :: ks' ∧ KsD ds ks'
theorem ksD_keys {K : PySem.W.Frag} {F H : Hp} (e : Ex F H) : ∀ {ds : List Dt} {ks : List Int} {xs : List V}, KsD ds ks → DenL K F ds xs → KeysOf K H xs ks
  | [], _, _, h, q => by
    simp only [DenL] at q; subst q; exact h
  | d :: ds, _, _, h, q => by
    obtain ⟨k, rest, ks', rfl, rfl, h3⟩ := h
    simp only [DenL] at q
    obtain ⟨x, r, rfl, q1, q2⟩ := q
    simp only [Den] at q1
    obtain ⟨a, ys, rfl, q3, q4⟩ := q1
    simp only [DenL] at q4
    obtain ⟨y, r2, rfl, q5, _⟩ := q4
    simp only [Den] at q5
    subst q5
    exact ⟨a, k, r2, ks', rfl, ex_t e q3, rfl, ksD_keys e h3 q2⟩
theorem denL_refs_eq {K : PySem.W.Frag} {F : Hp} : ∀ {ls : List Addr} {xs : List V}, DenL K F (ls.map Dt.ref) xs → xs = ls.map V.ref
  | [], _, h => by simp only [List.map, DenL] at h; exact h
  | l :: ls, _, h => by
    simp only [List.map, DenL] at h
    obtain ⟨x, r, rfl, h2, h3⟩ := h
    simp only [Den] at h2
    rw [h2, denL_refs_eq h3]; rfl
/-- for row in self.f: row.sort(key=..): the rows stand by their keys -/
theorem sT_sortAll {r : Nat} {ls : List Addr} {g0 : List Stmt} {tg : Expr} (cl : Cls X.K C) (na : NoAttr X.K C f) (he : ρ[i]? = some (some (.isl p dx C fv fs os))) (hl : fs.lookup f = some (.ref L)) (hL : (L, ls.map Dt.ref) ∈ os) (hir : i ≠ r) (hr : ρ[r]? = some none)
    (hk : ∀ l ∈ ls, ∃ ds ks, (l, ds) ∈ os ∧ KsD ds ks ∧ ks.Pairwise (· ≤ ·)) (hg : PG X tg (gName r)) (hb : PSs X g0 (tDrop (tSortLam X.K r P)))
    (hp : PassesOwn (model X.prog X.w) X.A X.env X.xe := by exact PassesOwn.never) (hc : X.calm = true := by rfl) (hst : ∀ v, foldedSetIterable (.Attribute (.Name x px) f pos') X.env v = pure v := by intro _; rfl)
    (hN : X.N[i]? = some x := by rfl) (hv : Vis X.env.scope x := by first | exact Or.inl rfl | exact Or.inr (Or.inl rfl) | exact Or.inr (Or.inr rfl)) (hd : (x == ("__debug__" : Str)) = false := by decide)
    (hcd : (x == ("__classdict__" : Str)) = false := by decide) (hba : attributeBase (.Name x px) f X.env (eval (.Name x px) X.env) = eval (.Name x px) X.env := by rfl) :
    XST X P (.For tg (.Attribute (.Name x px) f pos') g0 [] pos) ρ (.nx ρ) := fun F0 H0 F H σ D f0 t0 S q => by
  refine wpS_of (ps_for hp hc (pi_list (pe_fld (pe_var hN hv hd hcd) hba)) hg hb hst) ?_
  have rd : ∀ {F' H' σ'}, Sta X.K F0 H0 F' H' σ' ρ → H' L = some (.lst (ls.map V.ref)) := fun {F' H' σ'} S' => by
    obtain ⟨v, h1, rfl, h3, h4, h5, h6, h7, _⟩ := S'.ok i _ he
    obtain ⟨_, _, xs, k5, k6⟩ := h7 L _ hL
    rw [denL_refs_eq k6] at k5
    exact k5
  obtain ⟨v, h1, rfl, h3, h4, h5, h6, h7, _⟩ := S.ok i _ he
  obtain ⟨w, k3, k4⟩ := h6.look hl
  simp only [Den] at k4
  subst k4
  refine ⟨_, h1, p, C, dx, fv, _, rfl, h5, cl, na, k3, L, rfl, ⟨_, SqL.of (rd S)⟩, ?_⟩
  refine ⟨fun t m σ' H' => t + m = ls.length ∧ ∃ F', Sta X.K F0 H0 F' H' σ' ρ ∧ Ex F F', ⟨ls.length, by omega, F, S, Ex.refl _⟩, fun t m σ' H' ⟨em, F', S', ef⟩ => ?_⟩
  have hH := rd S'
  by_cases hlt : t < ls.length
  · obtain ⟨l, hl'⟩ : ∃ l, ls[t]? = some l := ⟨ls[t], List.getElem?_eq_getElem hlt⟩
    have hx : (ls.map V.ref)[t]? = some (.ref l) := by rw [List.getElem?_map, hl']; rfl
    have sq : SqL X.K H' L (ls.map V.ref) := SqL.of hH
    refine .inr ⟨⟨_, _, sq, hx⟩, fun σ' H' => ∃ m', m' < m ∧ t + 1 + m' = ls.length ∧ ∃ F', Sta X.K F0 H0 F' H' σ' ρ ∧ Ex F F', fun σ' H' ⟨m', h1, h2, h3⟩ => ⟨m', h1, h2, h3⟩, fun y H'' ⟨e, hy⟩ => ?_⟩
    have wy := hy _ sq
    rw [hx] at wy
    cases wy
    subst e
    have hrl : r < ρ.length := (List.getElem?_eq_some_iff.mp hr).1
    have S1 := S'.set (d := .ref l) (v := .ref l) hrl (by simp only [Den])
    have hrσ : r < σ'.length := by rw [S'.len]; exact hrl
    obtain ⟨ds, ks, o1, o2, o3⟩ := hk l (List.mem_of_getElem? hl')
    obtain ⟨_, j1, rfl, j3, j4, j5, j6, j7, _⟩ := S'.ok i _ he
    obtain ⟨_, _, xs, j8, j9⟩ := j7 l ds o1
    obtain ⟨fP, tP⟩ := S'.tab f0 t0
    unfold gName
    dsimp only
    unfold tDrop tSortLam
    refine ⟨l, xs, ks, List.getElem?_set_self hrσ, j8, ksD_keys S'.ex o2 j9, o3, tP, fun H1 k1 t1 => ?_⟩
    refine ⟨m - 1, by omega, by omega, F', ?_, ef⟩
    have S2 := S1.mono (gr_tab S'.ex fP tP k1 t1)
    refine S2.weak (by rw [List.length_set]; exact S'.len) fun t' s' e' => ?_
    have ne : t' ≠ r := fun z => by rw [z, hr] at e'; cases e'
    exact ⟨by rw [List.getElem?_set_ne (Ne.symm ne)]; exact e', rfl⟩
  · have et : t = ls.length := by omega
    subst et
    exact .inl ⟨⟨_, SqL.of hH, by rw [List.length_map]; exact Nat.le_refl _⟩, q F' H' σ' S' ef⟩
end
end K82
/-! ## part W10 -/
/-! Walks: a pile of cells is made. -/
namespace K82
open PySem PySem.Spec PyProof.Rows L2
abbrev dfP : He.Defn := ("Pile_mapfold", some "__init__")
/-- the code object of Pile.__init__, its table -/
abbrev CT (K : PySem.W.Frag) : Addr := (He.cT K dfP).1
abbrev PT (K : PySem.W.Frag) : Addr := (He.cT K dfP).2
/-! ### lists of lists -/
theorem nearO_get {L : Addr} {ls : List Addr} {g : Nat → List Dt} {j : Nat} {l : Addr} (h : ls[j]? = some l) : (nearO L ls g)[j + 1]? = some (l, g j) := by
  unfold nearO
  rw [List.getElem?_cons_succ, List.getElem?_map, List.getElem?_zipIdx, h]
  simp
theorem nearO_congr {L : Addr} {ls : List Addr} {g g' : Nat → List Dt} (h : ∀ j, j < ls.length → g j = g' j) : nearO L ls g = nearO L ls g' := by
  unfold nearO
  congr 1
  apply List.map_congr_left
  intro q hq
  have := (List.mem_zipIdx hq).2.1
  rw [h q.2 (by simpa using this)]
theorem nearO_set {L : Addr} {ls : List Addr} {g : Nat → List Dt} {j : Nat} {l : Addr} {ds : List Dt} (h : ls[j]? = some l) : (nearO L ls g).set (j + 1) (l, ds) = nearO L ls (fun t => if t = j then ds else g t) := by
  apply List.ext_getElem?
  intro t
  cases t with
  | zero => unfold nearO; rfl
  | succ t =>
    by_cases z : j = t
    · subst z
      have hj : j < ls.length := (List.getElem?_eq_some_iff.mp h).1
      rw [List.getElem?_set_self (by unfold nearO; rw [List.length_cons, List.length_map, List.length_zipIdx]; omega), nearO_get h, if_pos rfl]
    · rw [List.getElem?_set_ne (by omega)]
      cases hl : ls[t]? with
      | none =>
        have : ls.length ≤ t := List.getElem?_eq_none_iff.mp hl
        rw [List.getElem?_eq_none (by unfold nearO; rw [List.length_cons, List.length_map, List.length_zipIdx]; omega), List.getElem?_eq_none (by unfold nearO; rw [List.length_cons, List.length_map, List.length_zipIdx]; omega)]
      | some u => rw [nearO_get hl, nearO_get hl, if_neg fun w => z w.symm]
theorem denL_lsts {K : PySem.W.Frag} {F : Hp} : ∀ qs : List (Addr × List Dt), (∀ q ∈ qs, ∃ xs, F q.1 = some (.lst xs) ∧ DenL K F q.2 xs) → DenL K F (qs.map fun q => .lst q.2) (qs.map fun q => .ref q.1)
  | [], _ => DenL.nil
  | q :: qs, h => by
    obtain ⟨xs, h1, h2⟩ := h q List.mem_cons_self
    exact DenL.cons (den_lst h1 h2) (denL_lsts qs fun q hq => h q (List.mem_cons_of_mem _ hq))
/-! ### __init__ of an island -/
def spIs (K : PySem.W.Frag) (C : Addr) (ds : List Dt) (fsOf : Addr → List (Str × Dt)) : Sp := fun vs H Q _ => ∃ F p dx rest, vs = .ref p :: rest ∧ Ex F H ∧ F p = none ∧ H p = some (.ins C dx []) ∧ F (PT K) = none ∧ LamX.TabS H (PT K) lamQ ∧ DenL K F ds rest ∧
  ∀ c fv F2 H2, Gr F (rm H p) F2 H2 → F2 p = none → H c = none → F2 c = none → H2 p = some (.ins C dx fv) → H2 c = some (.lst []) → DenF K F2 (fsOf c) fv → Q .non H2
def nearL' (ls : List Addr) (g : Nat → List Dt) : List Dt := (ls.zipIdx.map fun q => (q.1, g q.2)).map fun q => .lst q.2
section
variable {P : Program} {w : World} {K : PySem.W.Frag} {mg : Str → Option Value} {base : Heap}
theorem def_okIs {k : Nat} {N : List Str} {fd : FuncData} {d near : Dt} (F : F_Pile_mapfold_init K (He.ma K (C_Pile_mapfold K) "__init__") fd) (S : FnScope N p_Pile_mapfold_init (defScope s_Pile_mapfold_init))
    (h : ∀ (p dx : Addr) (A : Around) (outer : List Env) (s : Shared) (H : Hp) (E : XK), Room k (A.deeper (envOfC "Pile.__init__" (defScope s_Pile_mapfold_init) s.heap.objs.size (He.ma K (C_Pile_mapfold K) "__init__") (.ref (CT K)))) →
      XSsT (cxD P w K mg base N "Pile.__init__" (defScope s_Pile_mapfold_init) (He.ma K (C_Pile_mapfold K) "__init__") (.ref (CT K)) A outer s H E) (PT K) (defBody s_Pile_mapfold_init) (rhoS N (.mi (some (p, dx)) (C_Pile_mapfold K) []) [d])
        (.ex fun ρ => ∃ c fv L ls g, ρ[0]? = some (some (.isl p dx (C_Pile_mapfold K) fv [("sheet", d), ("cells", .ref c), ("near", .ref L)] ([(c, [])] ++ nearO L ls g))) ∧ near = .lst (nearL' ls g))) :
    FnOk P w K mg base CX0 (k + 1) (He.ma K (C_Pile_mapfold K) "__init__") fd p_Pile_mapfold_init (spIs K (C_Pile_mapfold K) [d] fun c => [("sheet", d), ("cells", .ref c), ("near", near)]) := by
  obtain ⟨oc, od, dV, kV, doc, pm, an, cdv, ct, osl, rfl, lk, hcd, _, _⟩ := F.ex
  obtain ⟨cc, rfl⟩ := He.codeIn_ref hcd
  have ecc : He.codeOf K dfP = cc := He.codeOf_eq lk rfl
  subst ecc
  refine fn_of lk hcd S (fun vs H Q E h => ?_) fun A outer s H vs Q E hr hq => ?_
  · obtain ⟨F, p, dx, rest, rfl, _, _, _, _, _, h1, _⟩ := h
    rw [List.length_cons, h1.length]; rfl
  · obtain ⟨F, p, dx, rest, rfl, e, hp, hh, f0, t0, h1, q⟩ := hq
    have hPp : PT K ≠ p := fun z => by
      obtain ⟨ps, w, _⟩ := t0
      rw [z, hh] at w; cases w
    have t0' : LamX.TabS (rm H p) (PT K) lamQ := tabS_off t0 fun b u e n1 n2 => by
      rw [rm_ne fun z => by subst z; rw [hh] at e; cases e; exact (n2 _ _ _ rfl).elim]
      exact e
    refine ⟨_, PSs.nox pss_wp, h p dx A outer s H E hr F (rm H p) F H _ _ f0 t0' (staI e hp hh h1) ?_⟩
    intro ρ F2 H2 σ ⟨c, fv, L, ls, g, h0, en⟩ S2 _
    obtain ⟨_, _, rfl, k1, k2, k3, k4, k5, k6⟩ := S2.ok 0 _ h0
    have g2 := S2.g
    have hos : ∀ l ds, (l, ds) ∈ nearO L ls g → rm H p l = none ∧ F2 l = none ∧ ∃ xs, H2 l = some (.lst xs) ∧ DenL K F2 ds xs := fun l ds hm => k5 l ds (List.mem_append_right _ hm)
    obtain ⟨c1, c2, xc, c3, c4⟩ := k5 c [] List.mem_cons_self
    have exc : xc = [] := by simp only [DenL] at c4; exact c4
    subst exc
    have hcp : c ≠ p := fun z => by rw [z, k3] at c3; cases c3
    have hcH : H c = none := by rw [rm_ne hcp] at c1; exact c1
    have inL : ∀ b, b ∈ L :: ls → rm H p b = none ∧ F2 b = none ∧ ∃ xs, H2 b = some (.lst xs) := fun b hb => by
      rw [← nearO_fst L ls g] at hb
      obtain ⟨⟨l, ds⟩, hm, rfl⟩ := List.mem_map.mp hb
      obtain ⟨a1, a2, xs, a3, _⟩ := hos l ds hm
      exact ⟨a1, a2, xs, a3⟩
    have hpL : p ∉ L :: ls := fun z => by obtain ⟨_, _, xs, w⟩ := inL p z; rw [k3] at w; cases w
    have hcL : c ∉ L :: ls := fun z => by
      rw [List.map_append, nearO_fst] at k6
      exact (List.nodup_cons.mp k6).1 z
    let F' : Hp := fun b => if b ∈ L :: ls then H2 b else F2 b
    have F'in : ∀ b, b ∈ L :: ls → F' b = H2 b := fun b hb => if_pos hb
    have F'out : ∀ b, b ∉ L :: ls → F' b = F2 b := fun b hb => if_neg hb
    have e2 : Ex F2 F' := fun b u hb => by
      rw [F'out b fun z => by rw [(inL b z).2.1] at hb; cases hb]; exact hb
    have e3 : Ex F' H2 := fun b u hb => by
      by_cases z : b ∈ L :: ls
      · rw [F'in b z] at hb; exact hb
      · rw [F'out b z] at hb; exact g2.s b u hb
    refine q c fv F' H2 ⟨g2.h, g2.f.trans e2, e3, fun b u hb => ?_⟩ (by rw [F'out p hpL]; exact k2) hcH (by rw [F'out c hcL]; exact c2) k3 c3 ?_
    · by_cases z : b ∈ L :: ls
      · exact .inr (inL b z).1
      · rw [F'out b z] at hb; exact g2.n b u hb
    · simp only [DenF] at k4 ⊢
      obtain ⟨x1, r1, rfl, d1, x2, r2, rfl, d2, x3, r3, rfl, d3, rfl⟩ := k4
      refine ⟨x1, _, rfl, d1.mono e2, x2, _, rfl, d2.mono e2, x3, _, rfl, ?_, rfl⟩
      simp only [Den] at d3
      subst d3
      obtain ⟨_, _, xs, a3, a4⟩ := hos L _ List.mem_cons_self
      rw [denL_refs_eq a4] at a3
      rw [en]
      refine den_lst (xs := ls.map V.ref) (by rw [F'in L List.mem_cons_self]; exact a3) ?_
      have ez : ls.map V.ref = (ls.zipIdx.map fun q => (q.1, g q.2)).map fun q => V.ref q.1 := by
        rw [List.map_map]
        show ls.map V.ref = ls.zipIdx.map fun q => V.ref q.1
        have := congrArg (List.map V.ref) (List.zipIdx_map_fst 0 ls)
        rw [List.map_map] at this
        exact this.symm
      rw [ez]
      unfold nearL'
      refine denL_lsts _ fun q hq => ?_
      obtain ⟨l, ds⟩ := q
      obtain ⟨_, _, xs, b3, b4⟩ := hos l ds (List.mem_cons_of_mem _ hq)
      have hl : l ∈ L :: ls := by
        rw [← nearO_fst L ls g]
        exact List.mem_map_of_mem (f := (·.1)) (List.mem_cons_of_mem _ hq)
      exact ⟨xs, by rw [F'in l hl]; exact b3, b4.mono e2⟩
/-- the rows behind k creases -/
def gP (k j : Nat) : List (Nat × Nat) := (if 0 < j ∧ j ≤ k then [(j - 1, j - 1)] else []) ++ (if j < k then [(j + 1, j)] else [])
def gK (ax : Bool) (told : List Nat) (k j : Nat) : List Dt := (gP k j).map (entD ax told)
theorem gP_near {n j : Nat} (h : j < n) : gP (n - 1) j = nearL n j := by
  unfold gP nearL
  congr 1
  · by_cases z : 0 < j
    · rw [if_pos ⟨z, by omega⟩, if_pos z]
    · rw [if_neg (by omega), if_neg z]
  · by_cases z : j + 1 < n
    · rw [if_pos (by omega), if_pos z]
    · rw [if_neg (by omega), if_neg z]
theorem gP_0 (j : Nat) : gP 0 j = [] := by
  unfold gP
  rw [if_neg (by omega), if_neg (by omega)]
  rfl
theorem gP_a (k : Nat) : gP k k ++ [(k + 1, k)] = gP (k + 1) k := by
  unfold gP
  rw [if_neg (by omega : ¬ k < k), if_pos (by omega : k < k + 1)]
  by_cases z : 0 < k
  · rw [if_pos ⟨z, by omega⟩, if_pos ⟨z, by omega⟩]; rfl
  · rw [if_neg (by omega), if_neg (by omega)]; rfl
theorem gP_b (k : Nat) : gP k (k + 1) ++ [(k, k)] = gP (k + 1) (k + 1) := by
  unfold gP
  rw [if_neg (by omega), if_neg (by omega), if_pos (by omega : 0 < k + 1 ∧ k + 1 ≤ k + 1), if_neg (by omega)]
  rfl
theorem gP_c {k j : Nat} (h1 : j ≠ k) (h2 : j ≠ k + 1) : gP k j = gP (k + 1) j := by
  unfold gP
  congr 1
  · by_cases z : 0 < j ∧ j ≤ k
    · rw [if_pos z, if_pos ⟨z.1, by omega⟩]
    · rw [if_neg z, if_neg (by omega)]
  · by_cases z : j < k
    · rw [if_pos z, if_pos (by omega)]
    · rw [if_neg z, if_neg (by omega)]
theorem near_ks (ax : Bool) (told : List Nat) {n j : Nat} (h : j < n) : ∃ ks, KsD ((nearL n j).map (entD ax told)) ks ∧ ks.Pairwise (· ≤ ·) := by
  have key : ∀ ps : List (Nat × Nat), KsD (ps.map (entD ax told)) (ps.map fun p => (p.1 : Int)) := by
    intro ps
    induction ps with
    | nil => rfl
    | cons p ps ih => exact ⟨_, _, _, rfl, rfl, ih⟩
  refine ⟨_, key _, ?_⟩
  unfold nearL
  by_cases z : 0 < j <;> by_cases y : j + 1 < n <;> simp [z, y] <;> omega
theorem nearL'_eq (ax : Bool) (told : List Nat) {n : Nat} {ls : List Addr} (h : ls.length = n) : nearL' ls (gK ax told (n - 1)) = nearD ax n told := by
  unfold nearL' nearD
  apply List.ext_getElem?
  intro t
  rw [List.getElem?_map, List.getElem?_map, List.getElem?_zipIdx, List.getElem?_map]
  by_cases z : t < n
  · obtain ⟨l, hl⟩ : ∃ l, ls[t]? = some l := ⟨ls[t], List.getElem?_eq_getElem (by omega)⟩
    rw [hl, List.getElem?_range z]
    simp only [Option.map_some, Nat.zero_add]
    unfold gK
    rw [gP_near z]
  · rw [List.getElem?_eq_none (l := ls) (by omega), List.getElem?_eq_none (l := List.range n) (by rw [List.length_range]; omega)]
    rfl
theorem qual_eq : ("Pile.__init__" : Str) ++ (".<locals>." : Str) ++ ("<lambda>" : Str) = lamQ := by decide +kernel
theorem c_Pile_init (c : Fx w K mg) (tb : LamX.TabB base mg (CT K) (PT K)) (ax : Bool) {n : Nat} {told : List Nat} (ht : Td n told) : Mk' P w K mg base 3 "Pile_mapfold" (C_Pile_mapfold K) (spIs K (C_Pile_mapfold K) [mapD K ax n told] (fsP K ax n told)) := by
  have hn : n ≤ 6 := ht.le
  have hp : 1 ≤ n := ht.pos
  obtain ⟨fd, F⟩ := fd_Pile_mapfold_init c
  refine ⟨⟨_, fd, _, mk_Pile_mapfold c, def_okIs F sc_Pile_mapfold_init (near := .lst (nearD ax n told)) fun p dx A outer s' H E hr => ?_, g_Pile_mapfold c, bi_Pile_mapfold_init F⟩⟩
  refine sT_cons (BsD.t (s_fldM (i := 0) (cl_Pile_mapfold c) (na_Pile_mapfold_sheet c) rfl (x_var (i := 1) rfl)))
    (s_fldIs (i := 0) (cl_Pile_mapfold c) (na_Pile_mapfold_cells c) rfl (xn_lst xa_nil) fun ca fv0 =>
    (s_fldNear (i := 0) (own := [("_", 7)]) (g := gName 7) (cl_Pile_mapfold c) (na_Pile_mapfold_near c) rfl sc_Pile_mapfold_init.nd (xi_range1 (z_range c) (x_fld (cl_Map c) (na_Map_cells c) (x_var (i := 1) rfl) rfl) ?r1 ?r2) ?hle (blkOk_by (N := N_Pile_mapfold_init) (sc := defScope s_Pile_mapfold_init) (by decide +kernel)) (fun _ _ _ _ _ => pg_name (i := 7) sc_Pile_mapfold_init.nd rfl (Or.inl rfl)) (fun d hd => ⟨_, tg_name⟩) fun L ls fv hls => ?rest))
  case r1 => omega
  case r2 => omega
  case hle => rw [rgD_length]; omega
  case rest =>
    have hl : ls.length = n := by rw [hls, rgD_length]; omega
    refine sT_cons (ρ1 := [some (.isl p dx (C_Pile_mapfold K) fv [("sheet", mapD K ax n told), ("cells", .ref ca), ("near", .ref L)] ([(ca, [])] ++ nearO L ls (gK ax told (n - 1)))), some (.im (mapD K ax n told)), none, none, none, none, none, none])
      (BsD.t (s_for (xi_tup (x_call (c_creases c ax ht) hr (xa_cons (x_var (i := 1) rfl) xa_nil))) (pg_tup rfl (pgs_cons (pg_name (i := 3) sc_Pile_mapfold_init.nd rfl (Or.inl rfl)) (pgs_cons (pg_name (i := 4) sc_Pile_mapfold_init.nd rfl (Or.inl rfl)) (pgs_cons (pg_name (i := 5) sc_Pile_mapfold_init.nd rfl (Or.inl rfl)) (pgs_cons (pg_name (i := 6) sc_Pile_mapfold_init.nd rfl (Or.inl rfl)) pgs_nil))))) (vs := [3, 4, 5, 6]) ?l))
      (sT_cons (sT_sortAll (i := 0) (r := 2) (L := L) (ls := ls) (cl_Pile_mapfold c) (na_Pile_mapfold_near c) rfl rfl (List.mem_cons_of_mem _ List.mem_cons_self) (by decide) rfl ?hk (pg_name (i := 2) sc_Pile_mapfold_init.nd rfl (Or.inl rfl)) ?hb) (sT_ex ⟨ca, fv, L, ls, gK ax told (n - 1), rfl, ?near⟩))
    case near => rw [nearL'_eq ax told hl]
    case hk =>
      intro l hm
      obtain ⟨j, hj⟩ := List.mem_iff_getElem?.mp hm
      have hjn : j < n := by rw [← hl]; exact (List.getElem?_eq_some_iff.mp hj).1
      obtain ⟨ks, k1, k2⟩ := near_ks ax told hjn
      refine ⟨_, ks, List.mem_cons_of_mem _ (List.mem_of_getElem? (nearO_get hj)), ?_, k2⟩
      unfold gK
      rw [gP_near hjn]
      exact k1
    case hb =>
      exact pss_one (ps_expr (pe_sortLam (i := 2) (c := CT K) (P := PT K) tb rfl qual_eq hr.depth hr.units rfl (by decide +kernel) (by rfl) (fun _ _ _ _ => by rfl) rfl rfl rfl rfl (by decide +kernel) (by decide) rfl (Or.inl rfl) (by decide) (by decide)))
    case l =>
      refine for_at (fun k => [some (.isl p dx (C_Pile_mapfold K) fv [("sheet", mapD K ax n told), ("cells", .ref ca), ("near", .ref L)] ([(ca, [])] ++ nearO L ls (gK ax told k))), some (.im (mapD K ax n told)), none, none, none, none, none, none]) (n - 1) (crsD_len _ _ _) ?e0 rfl fun k d hk hd => ?_
      case e0 =>
        have : gK ax told 0 = fun _ => [] := by funext j; unfold gK; rw [gP_0]; rfl
        rw [this]
        rfl
      have ed : d = crD ax told k := by
        unfold crsD at hd
        rw [List.getElem?_map, List.getElem?_range hk] at hd
        exact (Option.some.inj hd).symm
      subst ed
      obtain ⟨l1, hl1⟩ : ∃ l, ls[k]? = some l := ⟨ls[k], List.getElem?_eq_getElem (by omega)⟩
      obtain ⟨l2, hl2⟩ : ∃ l, ls[k + 1]? = some l := ⟨ls[k + 1], List.getElem?_eq_getElem (by omega)⟩
      have a1 : (ls.map Dt.ref)[k]? = some (.ref l1) := by rw [List.getElem?_map, hl1]; rfl
      have a2 : (ls.map Dt.ref)[k + 1]? = some (.ref l2) := by rw [List.getElem?_map, hl2]; rfl
      have o1 : ([(ca, ([] : List Dt))] ++ nearO L ls (gK ax told k))[k + 1 + 1]? = some (l1, gK ax told k k) := nearO_get (L := L) hl1
      have o2 : ([(ca, ([] : List Dt))] ++ nearO L ls (fun t => if t = k then gK ax told k k ++ [entD ax told (k + 1, k)] else gK ax told k t))[k + 1 + 1 + 1]? = some (l2, gK ax told k (k + 1)) := by
        have := nearO_get (L := L) (g := fun t => if t = k then gK ax told k k ++ [entD ax told (k + 1, k)] else gK ax told k t) hl2
        rw [if_neg (by omega)] at this
        exact this
      refine ⟨_, tg_tup rfl (tgs_cons tg_name (tgs_cons tg_name (tgs_cons tg_name (tgs_cons tg_name tgs_nil)))), ?_⟩
      refine b_fg (s_cons (ρ1 := [some (.isl p dx (C_Pile_mapfold K) fv [("sheet", mapD K ax n told), ("cells", .ref ca), ("near", .ref L)] ([(ca, [])] ++ nearO L ls (fun t => if t = k then gK ax told k k ++ [entD ax told (k + 1, k)] else gK ax told k t))), some (.im (mapD K ax n told)), none, some (.im (.int (k : Int))), some (.im (.int ((k : Int) + 1))), some (.im (.str (side ax k))), some (.im (.str (ltr (told.getD k 0)))), none])
          (b_fg (s_appN (i := 0) (L := L) (refs := ls.map Dt.ref) (l := l1) (cl_Pile_mapfold c) (na_Pile_mapfold_near c) rfl rfl (List.mem_cons_of_mem _ List.mem_cons_self) (x_var (i := 3) rfl) (at_nat a1) o1 ((x_tup (xa_cons (x_var (i := 4) rfl) (xa_cons (x_var (i := 5) rfl) (xa_cons (x_var (i := 6) rfl) xa_nil)))).is (d2 := entD ax told (k + 1, k)) rfl) ?z1) ⟨.inr ?w1, .inr rfl, .inr rfl, .inr rfl, .inr rfl, .inr rfl, .inr rfl, .inr rfl, trivial⟩)
        (s_one (s_appN (i := 0) (L := L) (refs := ls.map Dt.ref) (l := l2) (cl_Pile_mapfold c) (na_Pile_mapfold_near c) rfl rfl (List.mem_cons_of_mem _ List.mem_cons_self) (x_var (i := 4) rfl) (at_nat (i := k + 1) a2) o2 ((x_tup (xa_cons (x_var (i := 3) rfl) (xa_cons (x_var (i := 5) rfl) (xa_cons (x_var (i := 6) rfl) xa_nil)))).is (d2 := entD ax told (k, k)) rfl) ?z2))) ⟨.inr ?w2, .inr rfl, .inr rfl, .inl rfl, .inl rfl, .inl rfl, .inl rfl, .inr rfl, trivial⟩
      case z1 => unfold gK gP; split <;> split <;> simp
      case z2 => unfold gK gP; split <;> split <;> simp
      case w1 =>
        have := nearO_set (L := L) (g := gK ax told k) (ds := gK ax told k k ++ [entD ax told (k + 1, k)]) hl1
        rw [← this]
        rfl
      case w2 =>
        have := nearO_set (L := L) (g := fun t => if t = k then gK ax told k k ++ [entD ax told (k + 1, k)] else gK ax told k t) (ds := gK ax told k (k + 1) ++ [entD ax told (k, k)]) hl2
        have e3 : nearO L ls (gK ax told (k + 1)) = nearO L ls (fun t => if t = k + 1 then gK ax told k (k + 1) ++ [entD ax told (k, k)] else if t = k then gK ax told k k ++ [entD ax told (k + 1, k)] else gK ax told k t) := by
          refine nearO_congr fun j hj => ?_
          by_cases z1 : j = k + 1
          · rw [if_pos z1, z1]
            unfold gK
            rw [← gP_b, List.map_append]; rfl
          · rw [if_neg z1]
            by_cases z2 : j = k
            · rw [if_pos z2, z2]
              unfold gK
              rw [← gP_a, List.map_append]; rfl
            · rw [if_neg z2]
              unfold gK
              rw [gP_c z2 z1]
        rw [e3, ← this]
        rfl
end
end K82
/-! ## part W11 -/
/-! Walks: folded maps, states of maps. -/
namespace K82
open PySem PySem.Spec PyProof.Rows L2
def EvDT (P : Addr) (K : PySem.W.Frag) (te : TE) (ρ : Rho) (d : Dt) : Prop := ∀ F0 H0 F H σ, F0 P = none → LamX.TabS H0 P lamQ → Sta K F0 H0 F H σ ρ → ∀ Q : VK, (∀ v F2 H2, Gr F H F2 H2 → Den K F2 d v → Q v H2) → te σ H Q
def EvNT (P : Addr) (K : PySem.W.Frag) (te : TE) (ρ : Rho) (ds : List Dt) : Prop := ∀ F0 H0 F H σ, F0 P = none → LamX.TabS H0 P lamQ → Sta K F0 H0 F H σ ρ → ∀ Q : VK, (∀ l xs F2 H2, Gr F H F2 H2 → H l = none → F2 l = none → H2 l = some (.lst xs) → DenL K F2 ds xs → Q (.ref l) H2) → te σ H Q
abbrev XET (X : Cx) (P : Addr) (e : Expr) (ρ : Rho) (d : Dt) : Prop := EvDT P X.K (wpE X e) ρ d
abbrev XNT (X : Cx) (P : Addr) (e : Expr) (ρ : Rho) (ds : List Dt) : Prop := EvNT P X.K (wpE X e) ρ ds
theorem EvNT.d {P : Addr} {K : PySem.W.Frag} {te : TE} {ρ : Rho} {ds : List Dt} (h : EvNT P K te ρ ds) : EvDT P K te ρ (.lst ds) := fun F0 H0 F H σ f0 t0 S Q q =>
  h F0 H0 F H σ f0 t0 S Q fun l xs F2 H2 g hl fl h2 hd => by
    have eF : Ex F2 (upd F2 l (.lst xs)) := Ex.new fl
    refine q _ (upd F2 l (.lst xs)) H2 ⟨g.h, g.f.trans eF, fun b u w => ?_, fun b u w => ?_⟩ (den_lst upd_same (hd.mono eF))
    · by_cases z : b = l
      · subst z; rw [upd_same] at w; cases w; exact h2
      · rw [upd_ne z] at w; exact g.s b u w
    · by_cases z : b = l
      · subst z; exact Or.inr hl
      · rw [upd_ne z] at w; exact g.n b u w
/-- contracts for defs that make piles of cells -/
def spDT (K : PySem.W.Frag) (ds : List Dt) (r : Dt) : Sp := fun vs H Q _ => ∃ F, Ex F H ∧ F (PT K) = none ∧ LamX.TabS H (PT K) lamQ ∧ DenL K F ds vs ∧ ∀ v F2 H2, Gr F H F2 H2 → Den K F2 r v → Q v H2
def spNT (K : PySem.W.Frag) (ds rs : List Dt) : Sp := fun vs H Q _ => ∃ F, Ex F H ∧ F (PT K) = none ∧ LamX.TabS H (PT K) lamQ ∧ DenL K F ds vs ∧ ∀ l xs F2 H2, Gr F H F2 H2 → H l = none → F2 l = none → H2 l = some (.lst xs) → DenL K F2 rs xs → Q (.ref l) H2
section
variable {X : Cx} {ρ ρ1 ρ2 : Rho} {e a b : Expr} {es : List Expr} {pos p pos' apos cpos : Pos} {d d1 d2 : Dt} {ds ds1 ds2 : List Dt} {x y m : Str} {st : Stmt} {sts sts2 : List Stmt} {o : Out} {i k j : Nat} {C : Addr} {fsOf : Addr → List (Str × Dt)}
theorem sT_ret (h : XET X P e ρ d) : XST X P (.Return (some e) pos) ρ (.rt d) := fun F0 H0 F H σ D f0 t0 S q => wpS_of (ps_ret pe_wp) (h F0 H0 F H σ f0 t0 S _ fun v F2 H2 g dv => q v F2 H2 (S.g.trans g) dv)
theorem sT_retN (h : XNT X P e ρ ds) : XST X P (.Return (some e) pos) ρ (.rn ds) := fun F0 H0 F H σ D f0 t0 S q => wpS_of (ps_ret pe_wp) (h F0 H0 F H σ f0 t0 S _ fun l xs F2 H2 g h1 h2 h3 h4 => q l xs F2 H2 (S.g.trans g) (S.g.h.none h1) h2 h3 h4)
theorem sT_asg {tg : Expr} {g : TG} {vs : List Nat} (h : XET X P e ρ d) (hg : PG X tg g) (ht : TgD X.K g vs d ρ ρ1) (hs : swapsWithSole [tg] e pos.line X.env = pure false := by rfl) (hw : swappedStores [tg] e X.env = pure none := by rfl)
    (h1 : (assignEach [tg] X.env).map (·.2) = [assign tg X.env] := by rfl) : XST X P (.Assign [tg] e pos) ρ (.nx ρ1) := fun F0 H0 F H σ D f0 t0 S q =>
  wpS_of (ps_asg pe_wp hg hs hw h1) (h F0 H0 F H σ f0 t0 S _ fun v F2 H2 g dv => ht F0 H0 F2 H2 σ (S.mono g) v dv _ fun σ' S' _ _ => q F2 H2 σ' S' g.f)
theorem x_callT (cl : Cl X.prog X.w X.K X.mg X.base k x (spDT X.K ds d)) (hr : Room j X.A) (ha : XA X (e :: es) ρ ds) (hk : k ≤ j := by decide) (hg : Gl X x := by rfl)
    (hdb : (x == ("__debug__" : Str)) = false := by decide) (he : starEach (e :: es) X.env = (false, eval e X.env) :: starEach es X.env := by rfl) (hpl : (backTo pos (starEach es X.env)).any (·.1) = false := by rfl) : XET X (PT X.K) (.Call (.Name x p) (e :: es) [] pos) ρ d := fun F0 H0 F H σ f0 t0 S Q q => by
  obtain ⟨f, fd, ps, h1, h2, h3, h4⟩ := cl.ex
  refine wpE_of (pe_call h1 (hr.mono hk) hg h2 h3 h4 .nil pass0 pa_wp hdb he hpl) (ha F0 H0 F H σ S _ fun vs F2 H2 g dv => ?_)
  rw [List.append_nil]
  obtain ⟨fP, tP⟩ := (S.mono g).tab f0 t0
  exact ⟨F2, g.s, fP, tP, dv, fun v F3 H3 g3 d3 => q v F3 H3 (g.trans g3) d3⟩
theorem xn_callT (cl : Cl X.prog X.w X.K X.mg X.base k x (spNT X.K ds ds1)) (hr : Room j X.A) (ha : XA X (e :: es) ρ ds) (hk : k ≤ j := by decide) (hg : Gl X x := by rfl)
    (hdb : (x == ("__debug__" : Str)) = false := by decide) (he : starEach (e :: es) X.env = (false, eval e X.env) :: starEach es X.env := by rfl) (hpl : (backTo pos (starEach es X.env)).any (·.1) = false := by rfl) : XNT X (PT X.K) (.Call (.Name x p) (e :: es) [] pos) ρ ds1 := fun F0 H0 F H σ f0 t0 S Q q => by
  obtain ⟨f, fd, ps, h1, h2, h3, h4⟩ := cl.ex
  refine wpE_of (pe_call h1 (hr.mono hk) hg h2 h3 h4 .nil pass0 pa_wp hdb he hpl) (ha F0 H0 F H σ S _ fun vs F2 H2 g dv => ?_)
  rw [List.append_nil]
  obtain ⟨fP, tP⟩ := (S.mono g).tab f0 t0
  exact ⟨F2, g.s, fP, tP, dv, fun l xs F3 H3 g3 k1 k2 k3 k4 => q l xs F3 H3 (g.trans g3) (g.h.none k1) k2 k3 k4⟩
/-- a == b, where a makes piles of cells -/
theorem x_cmpT {op : CmpOp} {r : R2} {P : Addr} (ho : OpR X (compareOp op) r) (hm : behindInMarks op b = false) (ha : XET X P a ρ d1) (hb : XE X b ρ d2) (hr : RD X.K r d1 d2 d) : XET X P (.Compare a [op] [b] pos) ρ d := fun F0 H0 F H σ f0 t0 S Q q =>
  wpE_of (pe_cmpR ho pe_wp pe_wp hm) (ha F0 H0 F H σ f0 t0 S _ fun x F2 H2 g1 dx => hb F0 H0 F2 H2 σ (S.mono g1) _ fun y F3 H3 g2 dy =>
    hr F3 H3 x y g2.s (dx.mono g2.f) dy Q fun v F4 H4 g3 dv => q v F4 H4 ((g1.trans g2).trans g3) dv)
/-- Pile(sheet) -/
theorem makeIs (mk : Mk' X.prog X.w X.K X.mg X.base k x C (spIs X.K C ds fsOf)) (hr : Room j X.A) (ha : XA X (e :: es) ρ ds) (hk : k + 1 ≤ j := by decide) (hg : Gl X x := by rfl)
    (hdb : (x == ("__debug__" : Str)) = false := by decide) (he : starEach (e :: es) X.env = (false, eval e X.env) :: starEach es X.env := by rfl) (hpl : (backTo pos (starEach es X.env)).any (·.1) = false := by rfl) {F0 H0 F H : Hp} {σ : L2.St} (f0 : F0 (PT X.K) = none) (t0 : LamX.TabS H0 (PT X.K) lamQ) (S : Sta X.K F0 H0 F H σ ρ) {Q : VK}
    (q : ∀ p dx c fv F2 H2, Gr F H F2 H2 → H p = none → F2 p = none → H c = none → F2 c = none → H2 p = some (.ins C dx fv) → H2 c = some (.lst []) → DenF X.K F2 (fsOf c) fv → Q (.ref p) H2) : wpE X (.Call (.Name x p) (e :: es) [] pos) σ H Q := by
  obtain ⟨f, fd, ps, h1, h2, h3, h4⟩ := mk.ex
  refine wpE_of (pe_make h1 h2 (hr.mono hk) hg h3 h4 .nil pass0 pa_wp hdb he hpl) (ha F0 H0 F H σ S _ fun vs F2 H2 g dv => ?_)
  intro t dx nt ndx hne
  have ne' : t ≠ dx := Ne.symm hne
  rw [List.append_nil]
  obtain ⟨fP, tP⟩ := (S.mono g).tab f0 t0
  have keep : ∀ b o, H2 b = some o → upd (upd H2 dx (.own t)) t (.ins C dx []) b = some o := fun b o w => by
    rw [upd_ne (ne_of_none w nt), upd_ne (ne_of_none w ndx)]; exact w
  refine ⟨F2, t, dx, vs, rfl, fun b o w => keep b o (g.s _ _ w), g.s.none nt, upd_same, fP, tP.ext keep, dv, fun c fv F3 H3 g3 k1 k2 k3 k4 k5 k6 => ⟨rfl, ?_⟩⟩
  have key : ∀ b o, H2 b = some o → rm (upd (upd H2 dx (.own t)) t (.ins C dx [])) t b = some o := fun b o w => by
    rw [rm_ne (ne_of_none w nt)]; exact keep b o w
  have hc : H2 c = none := by
    cases hh : H2 c with
    | none => rfl
    | some u => rw [keep c u hh] at k2; cases k2
  have g4 : Gr F2 H2 F3 H3 := ⟨(Ex.t key).trans g3.h, g3.f, g3.s, fun b o w => by
    rcases g3.n b o w with z | z
    · exact .inl z
    · refine .inr ?_
      cases hh : H2 b with
      | none => rfl
      | some u => rw [key b u hh] at z; cases z⟩
  exact q t dx c fv F3 H3 (g.trans g4) (g.h.none nt) k1 (g.h.none hc) k3 k4 k5 k6
/-- x = Pile(sheet) -/
theorem sT_setIs (nd : X.N.Nodup) (mk : Mk' X.prog X.w X.K X.mg X.base k y C (spIs X.K C ds fsOf)) (hr : Room j X.A) (ha : XA X (e :: es) ρ ds) (hq : ∀ p dx c fv, XSsT X (PT X.K) sts (ρ.set i (some (.isl p dx C fv (fsOf c) [(c, [])]))) o) (hk : k + 1 ≤ j := by decide) (hg : Gl X y := by rfl)
    (hdb : (y == ("__debug__" : Str)) = false := by decide) (he : starEach (e :: es) X.env = (false, eval e X.env) :: starEach es X.env := by rfl) (hpl : (backTo cpos (starEach es X.env)).any (·.1) = false := by rfl)
    (hi : X.N[i]? = some x := by rfl) (hl : i < ρ.length := by exact Nat.le_of_ble_eq_true rfl) (hx : Loc X.env.scope x := by first | exact Or.inl rfl | exact Or.inr rfl) (hs : swapsWith (.Call (.Name y p) (e :: es) [] cpos) (some (.Name x pos')) pos.line X.env = pure false := by rfl)
    (hf : X.fn x = true ∨ X.env.scope.names.lookup x = some .local := by first | exact .inl rfl | exact .inr rfl) : XSsT X (PT X.K) (.Assign [.Name x pos'] (.Call (.Name y p) (e :: es) [] cpos) pos :: sts) ρ o := fun F0 H0 F H σ D f0 t0 S q => by
  refine wpSs_of (pss_cons (ps_set nd hi hx pe_wp hs hf) pss_wp) ?_
  refine makeIs mk hr ha hk hg hdb he hpl f0 t0 S fun pp dx c fv F2 H2 g n1 n2 n3 n4 n5 n6 n7 => ?_
  have hi' : i < σ.length := by rw [S.len]; exact hl
  refine hq pp dx c fv F0 H0 F2 H2 _ D f0 t0 ((S.mono g).put hl ⟨rfl, S.g.h.none n1, n2, n5, n7, fun c' ds' hm => ?_, by simp⟩ fun t u b ht e w1 w2 => ?_) (q.mono g.f)
  · cases hm with
    | head => exact ⟨S.g.h.none n3, n4, [], n6, DenL.nil⟩
    | tail _ hm => cases hm
  · rcases w2 with ⟨_, w2⟩ | w2
    · rw [List.getElem?_set_self hi'] at w2
      cases w2
      exact S.some_ e w1 n1
    · rw [Sv.ox, List.map_cons, List.map_nil, List.mem_singleton] at w2
      subst w2
      exact S.some_ e w1 n3
/-- Pile(sheet).every() -/
theorem xn_makeEvery {k2 : Nat} {rs : List Dt} (mk : Mk' X.prog X.w X.K X.mg X.base k y C (spIs X.K C ds fsOf)) (mt : Mt X.prog X.w X.K X.mg X.base k2 C m (spE X.K C fsOf [] rs)) (hr : Room j X.A) (ha : XA X (e :: es) ρ ds) (hno : ∀ c, (fsOf c).lookup m = none) (hk : k + 1 ≤ j := by decide) (hk2 : k2 ≤ j := by decide) (hg : Gl X y := by rfl)
    (hdb : (y == ("__debug__" : Str)) = false := by decide) (he : starEach (e :: es) X.env = (false, eval e X.env) :: starEach es X.env := by rfl) (hpl : (backTo cpos (starEach es X.env)).any (·.1) = false := by rfl) {pl : Sem Bool}
    (ht : eval (.Call (.Attribute (.Call (.Name y p) (e :: es) [] cpos) m apos) [] [] pos) X.env = (do
      let ov ← eval (.Call (.Name y p) (e :: es) [] cpos) X.env
      standAt apos.atName
      let (f, first) ← holding [ov] (getMethod ov m pl)
      callWith pos f first (backTo pos (starEach [] X.env)) (backToKw pos (keywordEach [] X.env))) := by rfl) : XNT X (PT X.K) (.Call (.Attribute (.Call (.Name y p) (e :: es) [] cpos) m apos) [] [] pos) ρ rs := fun F0 H0 F H σ f0 t0 S Q q => by
  obtain ⟨f, fd, ps, h0, h1, h2, h4⟩ := mt.ex
  refine wpE_of (pe_meth0 pe_wp h0 h1 h2 (hr.mono hk2) h4 .nil pass0 ht) ?_
  unfold tMeth
  refine makeIs mk hr ha hk hg hdb he hpl f0 t0 S fun pp dx c fv F2 H2 g n1 n2 n3 n4 n5 n6 n7 => ?_
  refine ⟨pp, dx, fv, rfl, n5, n7.no (hno c), ?_⟩
  exact ⟨F2, pp, dx, c, fv, rfl, g.s, n2, n4, n5, n6, n7, fun l xs F3 H3 g3 k1 k2 k3 k4 => q l xs F3 H3 (g.trans g3) (g.h.none k1) k2 k3 k4⟩
end
section
variable {P : Program} {w : World} {K : PySem.W.Frag} {mg : Str → Option Value} {base : Heap} {qual nm : Str} {params : Arguments} {body : List Stmt} {scope : Scope} {f : Addr} {fd : FuncData} {N ps : List Str} {k : Nat} {ds : List Dt} {r : Dt}
theorem def_okT (D : FunD K nm qual params body scope [] [] f fd) (S : FnScope N ps scope) (hl : ds.length = ps.length) (h : ∀ (cdv : Value) (A : Around) (outer : List Env) (s : Shared) (H : Hp) (E : XK), Room k (A.deeper (envOfC qual scope s.heap.objs.size f cdv)) →
    XSsT (cxD P w K mg base N qual scope f cdv A outer s H E) (PT K) body (rho0 N ds) (.rt r)) : FnOk P w K mg base CX0 (k + 1) f fd ps (spDT K ds r) := by
  refine D.ok S (fun vs H Q E h => ?_) (fun cdv A outer s H vs Q E hr hq => ?_)
  · obtain ⟨F, _, _, _, h1, _⟩ := h
    rw [h1.length, hl]
  · obtain ⟨F, e, f0, t0, h1, q⟩ := hq
    exact ⟨_, PSs.nox pss_wp, h cdv A outer s H E hr F H F H _ _ f0 t0 (sta0 e h1) fun v F2 H2 g dv => q v F2 H2 g dv⟩
theorem def_okNT {rs : List Dt} (D : FunD K nm qual params body scope [] [] f fd) (S : FnScope N ps scope) (hl : ds.length = ps.length) (h : ∀ (cdv : Value) (A : Around) (outer : List Env) (s : Shared) (H : Hp) (E : XK), Room k (A.deeper (envOfC qual scope s.heap.objs.size f cdv)) →
    XSsT (cxD P w K mg base N qual scope f cdv A outer s H E) (PT K) body (rho0 N ds) (.rn rs)) : FnOk P w K mg base CX0 (k + 1) f fd ps (spNT K ds rs) := by
  refine D.ok S (fun vs H Q E h => ?_) (fun cdv A outer s H vs Q E hr hq => ?_)
  · obtain ⟨F, _, _, _, h1, _⟩ := h
    rw [h1.length, hl]
  · obtain ⟨F, e, f0, t0, h1, q⟩ := hq
    exact ⟨_, PSs.nox pss_wp, h cdv A outer s H E hr F H F H _ _ f0 t0 (sta0 e h1) fun l xs F2 H2 g k1 k2 k3 k4 => q l xs F2 H2 g k1 k2 k3 k4⟩
theorem c_states_of (c : Fx w K mg) (tb : LamX.TabB base mg (CT K) (PT K)) (ax : Bool) {n : Nat} {told : List Nat} (ht : Td n told) : Cl P w K mg base 12 "states_of" (spNT K [mapD K ax n told] ((everyM told n n []).map fun cs => .tup (nt cs))) := by
  have hn : n ≤ 6 := ht.le
  refine to_states_of c fun f fd F => def_okNT F sc_states_of rfl fun cdv A outer s' H E hr => sT_cons (BsD.t (s_ifF (xt_cmp op_gt (nomark _) (x_fld (cl_Map c) (na_Map_cells c) (x_var (i := 0) rfl) rfl) (x_gint (v_MOST_LISTED c)) rd_B0) ?k1 s_nil))
    (sT_one (sT_retN (xn_makeEvery (c_Pile_init c tb ax ht) (c_every c ax ht n [] (by simp) (fun x hx => by cases hx)) hr (xa_cons (x_var (i := 0) rfl) xa_nil) (fun _ => rfl) (by decide) ?k2)))
  case k1 => exact decide_eq_false (by omega)
  case k2 => omega
theorem c_folded_mapfold (c : Fx w K mg) (tb : LamX.TabB base mg (CT K) (PT K)) (ax : Bool) {n : Nat} {told cs : List Nat} (ht : Td n told) (hf : findM told n n [] = some cs) : Cl P w K mg base 12 "folded_mapfold" (spDT K [mapD K ax n told] (.tup [.str "state", .tup (nt cs)])) := by
  have hn : n ≤ 6 := ht.le
  have e1 : (findM told n n []).getD [] = cs := by rw [hf]; rfl
  have e2 : (findM told n n []).isNone = false := by rw [hf]; rfl
  have cf := c_find (P := P) (w := w) (base := base) c ax ht n [] (by simp) (fun x hx => by cases hx)
  rw [e1, e2] at cf
  refine to_folded_mapfold c fun f fd F => def_okT F sc_folded_mapfold rfl fun cdv A outer s' H E hr => sT_cons (BsD.t (s_ifF (xt_cmp op_gt (nomark _) (x_fld (cl_Map c) (na_Map_cells c) (x_var (i := 0) rfl) rfl) (x_gint (v_MOST_FOLDED c)) rd_B0) ?k1 s_nil))
    (sT_setIs (i := 1) sc_folded_mapfold.nd (c_Pile_init c tb ax ht) hr (xa_cons (x_var (i := 0) rfl) xa_nil) fun p dx a fv =>
      BsD.t (s_cons (s_setm (i := 2) sc_folded_mapfold.nd (xm_find (i := 1) (fsOf := fsP K ax n told) (ns := []) (ns' := cs) cf hr rfl rfl ?k2))
        (s_one (s_ret (x_ifE (xt_isN (x_var (i := 2) rfl)) (fun _ => x_tup (xa_cons x_str (xa_cons (x_tupOf (z_tuple c) (xr_fldS (i := 1) (cl_Pile_mapfold c) (na_Pile_mapfold_cells c) rfl rfl List.mem_cons_self)) xa_nil))) (fun h => by cases h))))))
  case k1 => exact decide_eq_false (by omega)
  case k2 => omega
theorem c_folded_map (c : Fx w K mg) (tb : LamX.TabB base mg (CT K) (PT K)) (ax : Bool) {n : Nat} {told cs : List Nat} (ht : Td n told) (hf : findM told n n [] = some cs) : Cl P w K mg base 13 "folded_map" (spDT K [mapD K ax n told] (.tup [.str "state", .tup (nt cs)])) := by
  refine to_folded_map c fun f fd F => def_okT F sc_folded_map rfl fun cdv A outer s' H E hr => sT_one (sT_ret (x_callT (c_folded_mapfold c tb ax ht hf) hr (xa_cons (x_var (i := 0) rfl) xa_nil)))
end
end K82
/-! ## part V1 -/
/-! Walks of the law's own helpers: within, places, shows, fault. -/
namespace K82
open PySem PySem.Spec PyProof.Rows L2
/-! ### range with a step -/
def rgC (lo c : Int) (n : Nat) : List Dt := (List.range n).map fun (i : Nat) => Dt.int (lo + (i : Int) * c)
theorem rgC_length (lo c : Int) (n : Nat) : (rgC lo c n).length = n := by unfold rgC; rw [List.length_map, List.length_range]
theorem wk_rangeC {K : PySem.W.Frag} {F2 : Hp} {lo c : Int} {n : Nat} : Wk K (Itc lo c n) F2 (rgC lo c n) := fun F' H' e1 e2 => ⟨fun i d hd => by
  have hi : i < n := by have := (List.getElem?_eq_some_iff.mp hd).1; rw [rgC_length] at this; exact this
  have ed : d = .int (lo + (i : Int) * c) := by
    unfold rgC at hd
    rw [List.getElem?_map, List.getElem?_range hi] at hd
    exact (Option.some.inj hd).symm
  refine ⟨hi, fun x H'' ⟨e, hx⟩ => ?_⟩
  subst e ed
  exact ⟨F', Gr.refl e2, by simp only [Den]; exact hx⟩, by rw [rgC_length]; exact Nat.le_refl _⟩
theorem xi_range3 {X : Cx} {ρ : Rho} {a b e : Expr} {p pos : Pos} {tg : Expr} {lo hi c : Int} {n : Nat} (hm : X.mg "range" = none) (ha : XA X [a, b, e] ρ [.int lo, .int hi, .int c]) (hr : RgC lo hi c n) (hg : Gl X "range" := by rfl)
    (hs : starEach [a, b, e] X.env = (false, eval a X.env) :: starEach [b, e] X.env := by rfl) (hpl : (backTo pos (starEach [b, e] X.env)).any (·.1) = false := by rfl) :
    XIt X tg (.Call (.Name "range" p) [a, b, e] [] pos) ρ (rgC lo c n) := ⟨_, pi_range3 hg hm pa_wp hs hpl, fun F0 H0 F H σ S R q => ha F0 H0 F H σ S _ fun vs F2 H2 g dv => by
  simp only [DenL, Den] at dv
  obtain ⟨v, r, rfl, rfl, v2, r2, rfl, rfl, v3, r3, rfl, rfl, rfl⟩ := dv
  exact ⟨lo, hi, c, n, rfl, hr, q _ F2 H2 g wk_rangeC⟩⟩
/-- how many m there are behind k -/
def cnt (n k : Nat) : Nat := (n - 1 - (k + 2) + 1) / 2
theorem rgc_ok : ∀ n : Nat, n < 7 → ∀ k : Nat, k < 6 → RgC ((k : Int) + 2) ((n : Int) - 1) 2 (cnt n k) := by
  unfold RgC
  decide +kernel
/-! ### what they compute -/
def ins (xs : List Nat) (x : Nat) : Bool := xs.contains x
def rowL (s : List Nat) (k m : Nat) : List Nat := s.filter fun x => ins [k, k + 1, m, m + 1] x
def crossL (s : List Nat) (k m : Nat) : Bool :=
  let r := rowL s k m
  (ins [k, k + 1] (r.getD 0 0) == ins [k, k + 1] (r.getD 2 0)) && (ins [k, k + 1] (r.getD 0 0) != ins [k, k + 1] (r.getD 1 0))
def faultL (s : List Nat) (n : Nat) : Option (Nat × Nat) := (List.range (n - 1)).findSome? fun k => (List.range (cnt n k)).findSome? fun i => if crossL s k (k + 2 + 2 * i) then some (k, k + 2 + 2 * i) else none
def showL (s : List Nat) (k : Nat) : Nat := if decide (s.idxOf k < s.idxOf (k + 1)) == decide (k % 2 = 0) then 1 else 0
theorem Pm.mem {n : Nat} {s : List Nat} (h : Pm n s) {x : Nat} (hx : x < n) : x ∈ s := h.perm.mem_iff.mpr (List.mem_range.mpr hx)
theorem row_len {n : Nat} {s : List Nat} (h : Pm n s) {k i : Nat} (hi : i < cnt n k) : (rowL s k (k + 2 + 2 * i)).length = 4 := by
  unfold rowL
  rw [(h.perm.filter _).length_eq]
  have h6 := h.le
  have hc : ∀ n, n < 7 → ∀ k, k < 6 → ∀ i, i < cnt n k → ((List.range n).filter fun x => ins [k, k + 1, k + 2 + 2 * i, k + 2 + 2 * i + 1] x).length = 4 := by decide +kernel
  exact hc n (by omega) k (by unfold cnt at hi; omega) i hi
section
variable {P : Program} {w : World} {K : PySem.W.Frag} {mg : Str → Option Value} {base : Heap}
theorem c_u_law_within (c : Fx w K mg) (a x b : Nat) : Cl P w K mg base 1 "_law_within" (spD K [.int a, .int x, .int b] (.bl (within a b x))) := by
  refine to_u_law_within c fun f fd F => def_ok F sc_u_law_within rfl fun cdv A outer s H E hr => ⟨_, s_one (s_ret ((x_chain op_lt op_lt (x_min2 (z_min c) (xa_cons (x_var (i := 0) rfl) (xa_cons (x_var (i := 2) rfl) xa_nil))) (x_var (i := 1) rfl) rd_B0 (fun _ => x_max2 (z_max c) (xa_cons (x_var (i := 0) rfl) (xa_cons (x_var (i := 2) rfl) xa_nil))) fun _ => rd_B0).is ?f)), .inl rfl⟩
  congr 1
  unfold within
  congr 1
  · refine decide_eq_decide.mpr ?_
    split <;> omega
  · refine decide_eq_decide.mpr ?_
    split <;> omega
theorem c_u_law_places (c : Fx w K mg) (n : Nat) (hn : n ≤ 6) : Cl P w K mg base 1 "_law_places" (spN K [.tup (nt (List.replicate n 1))] (nt (par (n + 1)))) := by
  refine to_u_law_places c fun f fd F => def_okN F sc_u_law_places rfl fun cdv A outer s H E hr => s_cons (s_setN (i := 1) sc_u_law_places.nd (xn_lst (xa_cons x_int xa_nil))) (s_cons (ρ1 := [some (.im (.tup (nt (List.replicate n 1)))), some (.mu (nt (par (n + 1)))), none])
    (s_for (xi_range1 (z_range c) (x_lenT (z_len c) (x_var (i := 0) rfl)) ?r1 ?r2) (pg_name (i := 2) sc_u_law_places.nd rfl (Or.inl rfl)) (vs := [2]) ?l)
    (s_one (s_retM (i := 1) rfl)))
  case r1 => rw [nt_len, List.length_replicate]; omega
  case r2 => rw [nt_len, List.length_replicate]; omega
  case l =>
    refine for_at (fun i => [some (.im (.tup (nt (List.replicate n 1)))), some (.mu (nt (par (i + 1)))), none]) n (by rw [rgD_length, nt_len, List.length_replicate, Int.toNat_natCast]) rfl rfl fun i d hi hd => ?_
    have e : d = .int (i : Int) := by
      rw [rgD_nt, nt_len, List.length_replicate, Int.toNat_natCast] at hd
      unfold nt at hd
      rw [List.getElem?_map, List.getElem?_range hi] at hd
      exact (Option.some.inj hd).symm
    subst e
    refine ⟨_, tg_name, b_fg (s_one (s_app (i := 1) rfl ((x_bin op_add (x_ixR (i := -1) (d := .int ((i % 2 : Nat) : Int)) (xr_mu (i := 1) rfl) (x_neg x_int) ?_) (x_bin op_mul (x_ixR (d := .int (if i % 2 = 0 then 1 else -1)) (XN.toR (xn_lst (xa_cons x_int (xa_cons (x_neg x_int) xa_nil)))) (x_bin op_mod (x_var (i := 2) rfl) x_int (rd_I (by decide))) ?_) (x_ixT (d := .int 1) (x_var (i := 0) rfl) (x_var (i := 2) rfl) ?_) (rd_I ?_)) rd_I0).is (d2 := .int (((i + 1) % 2 : Nat) : Int)) ?_) ?_)) ?_⟩
    · rw [par_succ]; unfold nt; rw [List.map_append]; exact atI_last _ _
    · rcases (by omega : i % 2 = 0 ∨ i % 2 = 1) with h | h
      · rw [show (i : Int) % 2 = ((0 : Nat) : Int) by omega, if_pos h]; rfl
      · rw [show (i : Int) % 2 = ((1 : Nat) : Int) by omega, if_neg (by omega)]; rfl
    · exact at_nt (by rw [List.getElem?_replicate, if_pos hi])
    · exact .inr (by decide)
    · congr 1
      rcases (by omega : i % 2 = 0 ∨ i % 2 = 1) with h | h
      · rw [if_pos h]; omega
      · rw [if_neg (by omega)]; omega
    · rw [nt_len]; unfold par; rw [List.length_map, List.length_range]; omega
    · refine ⟨.inr rfl, .inr ?_, .inl rfl, trivial⟩
      rw [par_succ (i + 1)]
      unfold nt
      rw [List.map_append]
      rfl
theorem c_u_law_shows (c : Fx w K mg) {n : Nat} {s : List Nat} (h : Pm n s) (k : Nat) (hk : k + 1 < n) : Cl P w K mg base 1 "_law_shows" (spD K [.etup (nt s), .int k] (.str (ltr (showL s k)))) := by
  refine to_u_law_shows c fun f fd F => def_ok F sc_u_law_shows rfl fun cdv A outer s' H E hr => ⟨_, s_one (s_ret ((x_ifS (xt_cmp op_eq (nomark _) (x_cmp op_lt (nomark _) (x_indexE (x_var (i := 0) rfl) (x_var (i := 1) rfl) (h.mem (by omega))) (x_indexE (x := k + 1) (x_var (i := 0) rfl) (x_bin op_add (x_var (i := 1) rfl) x_int rd_I0) (h.mem (by omega))) rd_B0)
    (x_cmp op_eq (nomark _) (x_bin op_mod (x_var (i := 1) rfl) x_int (rd_I (by decide))) x_int (rd_eq rfl rfl rfl)) (rd_eq rfl rfl rfl)) (fun _ => x_str) (fun _ => x_str)).is ?f)), .inl rfl⟩
  have e1 : decide (Dt.v (.int ((k : Int) % 2)) = Dt.v (.int 0)) = decide (k % 2 = 0) := decide_eq_decide.mpr ⟨fun q => by have q' : (k : Int) % 2 = 0 := V.int.inj q; omega, fun q => congrArg V.int (by omega)⟩
  have e2 : decide (((s.idxOf k : Nat) : Int) < ((s.idxOf (k + 1) : Nat) : Int)) = decide (s.idxOf k < s.idxOf (k + 1)) := decide_eq_decide.mpr (by omega)
  have e3 : ∀ k1 k2 : Bool, decide (Dt.v (.bl k1) = Dt.v (.bl k2)) = (k1 == k2) := by decide
  rw [e1, e2, e3]
  unfold showL
  cases decide (s.idxOf k < s.idxOf (k + 1)) == decide (k % 2 = 0) <;> rfl
end
end K82
/-! ## part V2 -/
/-! Walk of the law's own helper: fault. -/
namespace K82
open PySem PySem.Spec PyProof.Rows L2
theorem ins_v (x : Nat) : ∀ ns : List Nat, inV (Dt.v (.int (x : Int))) ((nt ns).map Dt.v) = ins ns x := by
  intro ns
  unfold ins
  induction ns with
  | nil => rfl
  | cons n ns ih =>
    show (eqV (Dt.v (.int (n : Int))) (Dt.v (.int (x : Int))) || inV (Dt.v (.int (x : Int))) ((nt ns).map Dt.v)) = _
    rw [ih, List.contains_cons]
    congr 1
    show decide _ = _
    by_cases h : x = n
    · subst h; simp [Dt.v]
    · rw [show (x == n) = false from beq_eq_false_iff_ne.mpr h]
      exact decide_eq_false fun z => h (by omega)
theorem nt_scal (ns : List Nat) : (nt ns).all Dt.sc = true := by
  unfold nt
  rw [List.all_map]
  exact List.all_eq_true.mpr fun _ _ => rfl
section
variable {X : Cx} {ρ : Rho} {a b : Expr} {pos : Pos}
theorem x_insT {ns : List Nat} {x : Nat} (ha : XE X a ρ (.int (x : Int))) (hb : XE X b ρ (.tup (nt ns))) (hm : behindInMarks .In b = false := by rfl) : XE X (.Compare a [.In] [b] pos) ρ (.bl (ins ns x)) := by
  have h := x_cmp (pos := pos) op_in_seq hm ha hb (rd_inT (neg := false) rfl (nt_scal ns))
  simp only [Bool.false_eq_true, if_false] at h
  rw [ins_v] at h
  exact h
theorem xt_insT {ns : List Nat} {x : Nat} (ha : XE X a ρ (.int (x : Int))) (hb : XE X b ρ (.tup (nt ns))) (hm : behindInMarks .In b = false := by rfl) : XT X (.Compare a [.In] [b] pos) ρ (ins ns x) := by
  have h := xt_cmp (pos := pos) op_in_seq hm ha hb (rd_inT (neg := false) rfl (nt_scal ns))
  simp only [Bool.false_eq_true, if_false] at h
  rw [ins_v] at h
  exact h
end
theorem d_bl (k1 k2 : Bool) : decide (Dt.v (.bl k1) = Dt.v (.bl k2)) = (k1 == k2) := by revert k1 k2; decide
section
variable {P : Program} {w : World} {K : PySem.W.Frag} {mg : Str → Option Value} {base : Heap}
theorem c_u_law_fault (c : Fx w K mg) {n : Nat} {s : List Nat} (h : Pm n s) : Cl P w K mg base 2 "_law_fault" (spD K [.tup (nt (List.replicate n 1)), .etup (nt s)] (optD pairD (faultL s n))) := by
  have hn : n ≤ 6 := h.le
  have hp : 1 ≤ n := h.pos
  have hl := h.len
  have e0 : ((n : Int) - 1).toNat = n - 1 := by omega
  have el : (nt (List.replicate n 1)).length = n := by rw [nt_len, List.length_replicate]
  refine to_u_law_fault c fun f fd F => def_ok F sc_u_law_fault rfl fun cdv A outer s' H E hr => ⟨_, s_cons (s_par (i := 3) (j := 4) (d1 := .int (n : Int)) sc_u_law_fault.nd (xa_cons ((x_lenT (z_len c) (x_var (i := 0) rfl)).is ?e1) (xa_cons (XN.toD (xn_call (c_u_law_places c n hn) hr (xa_cons (x_var (i := 0) rfl) xa_nil))) xa_nil)))
    (s_consK (s_for (xi_range1 (z_range c) (x_bin op_sub (x_var (i := 3) rfl) x_int rd_I0) ?r1 ?r2) (pg_name (i := 2) sc_u_law_fault.nd rfl (Or.inr rfl)) (vs := [2]) ?l1)
    (s_forQ (q := faultL s n) (v := pairD) (ρ1 := [some (.im (.tup (nt (List.replicate n 1)))), some (.im (.etup (nt s))), none, some (.im (.int (n : Int))), some (.im (.lst (nt (par (n + 1))))), none, none, none, none]) (xi_range1 (z_range c) (x_bin op_sub (x_var (i := 3) rfl) x_int rd_I0) ?r3 ?r4) (pg_name (i := 2) sc_u_law_fault.nd rfl (Or.inr rfl)) (vs := [2]) ?l2
      (fun q => s_one (s_ret (x_non.is ?f1))) ?f2)), .inl rfl⟩
  case e1 => rw [el]
  case r1 => omega
  case r2 => omega
  case r3 => omega
  case r4 => omega
  case f1 => rw [q]; rfl
  case f2 => intro a q; rw [q]; rfl
  case l1 =>
    refine for_all _ _ fun d hd => ?_
    rw [rgD_nt] at hd
    unfold nt at hd
    obtain ⟨k, hk, rfl⟩ := List.mem_map.mp hd
    have hk : k < ((n : Int) - 1).toNat := List.mem_range.mp hk
    refine ⟨_, tg_name, b_fg (ρ1 := [some (.im (.tup (nt (List.replicate n 1)))), some (.im (.etup (nt s))), some (.im (.int (k : Int))), some (.im (.int (n : Int))), some (.im (.lst (nt (par (n + 1))))), none, none, none, none])
      (s_one (s_for (xi_range1 (z_range c) (x_var (i := 3) rfl) (by omega) (by omega)) (pg_name (i := 5) sc_u_law_fault.nd rfl (Or.inl rfl)) (vs := [5]) ?i1)) ⟨.inr rfl, .inr rfl, .inl rfl, .inr rfl, .inr rfl, .inr rfl, .inr rfl, .inr rfl, .inr rfl, trivial⟩⟩
    case i1 =>
      refine for_all _ _ fun d hd => ?_
      rw [rgD_nt, Int.toNat_natCast] at hd
      unfold nt at hd
      obtain ⟨j, hj, rfl⟩ := List.mem_map.mp hd
      have hj : j < n := List.mem_range.mp hj
      refine ⟨_, tg_name, b_fg (s_one (s_ifF (xt_w (xw_and (xt_val (x_call (c_u_law_within c (s.idxOf k) (s.idxOf j) (s.idxOf (k + 1))) hr (xa_cons (x_indexE (x_var (i := 1) rfl) (x_var (i := 2) rfl) (h.mem (by omega))) (xa_cons (x_indexE (x_var (i := 1) rfl) (x_var (i := 5) rfl) (h.mem hj)) (xa_cons (x_indexE (x := k + 1) (x_var (i := 1) rfl) (x_bin op_add (x_var (i := 2) rfl) x_int rd_I0) (h.mem (by omega))) xa_nil)))))
        fun _ => xw_and1 (xt_val (x_call (c_u_law_within c (j % 2) ((k + 1) % 2) ((j + 1) % 2)) hr (xa_cons (x_ixR (XE.toR (x_var (i := 4) rfl)) (x_var (i := 5) rfl) (at_nt (par_get (by omega)))) (xa_cons (x_ixR (XE.toR (x_var (i := 4) rfl)) (x_bin op_add (x_var (i := 2) rfl) x_int rd_I0) (at_nt1 (par_get (by omega)))) (xa_cons (x_ixR (XE.toR (x_var (i := 4) rfl)) (x_bin op_add (x_var (i := 5) rfl) x_int rd_I0) (at_nt1 (par_get (by omega)))) xa_nil))))))) ?hk s_nil)) ⟨.inr rfl, .inr rfl, .inr rfl, .inr rfl, .inr rfl, .inl rfl, .inr rfl, .inr rfl, .inr rfl, trivial⟩⟩
      have ew : ∀ x y z : Nat, x < 2 → y < 2 → z < 2 → within x y z = false := by
        intro x y z h1 h2 h3
        unfold within
        rw [Bool.and_eq_false_iff]
        rcases (by omega : z = 0 ∨ z = 1) with w | w
        · left; exact decide_eq_false (by omega)
        · right; exact decide_eq_false (by omega)
      rw [ew _ _ _ (Nat.mod_lt _ (by decide)) (Nat.mod_lt _ (by decide)) (Nat.mod_lt _ (by decide)), Bool.and_false]
  case l2 =>
    rw [rgD_nt, e0]
    refine for_firstN pairD _ _ _ fun k hk => ?_
    have hk : k < n - 1 := List.mem_range.mp hk
    refine ⟨_, tg_name, b_fgF (ρ1 := [some (.im (.tup (nt (List.replicate n 1)))), some (.im (.etup (nt s))), some (.im (.int (k : Int))), some (.im (.int (n : Int))), some (.im (.lst (nt (par (n + 1))))), none, none, none, none])
      (s_one (s_for (xi_range3 (n := cnt n k) (z_range c) (xa_cons (x_bin op_add (x_var (i := 2) rfl) x_int rd_I0) (xa_cons (x_bin op_sub (x_var (i := 3) rfl) x_int rd_I0) (xa_cons x_int xa_nil))) (rgc_ok n (by omega) k (by omega))) (pg_name (i := 6) sc_u_law_fault.nd rfl (Or.inr rfl)) (vs := [6]) ?i1)) ⟨.inr rfl, .inr rfl, .inl rfl, .inr rfl, .inr rfl, .inr rfl, .inr rfl, .inr rfl, .inr rfl, trivial⟩⟩
    case i1 =>
      unfold rgC
      refine for_first (fun (i : Nat) => Dt.int ((k : Int) + 2 + (i : Int) * 2)) pairD _ _ _ fun i hi => ?_
      have hi : i < cnt n k := List.mem_range.mp hi
      have hm : k + 2 + 2 * i + 1 < n := by unfold cnt at hi; omega
      have cast : ((k : Int) + 2 + (i : Int) * 2) = ((k + 2 + 2 * i : Nat) : Int) := by omega
      rw [cast]
      generalize em : k + 2 + 2 * i = m at hm
      have r4 : (rowL s k m).length = 4 := by rw [← em]; exact row_len h hi
      have hp2 : (m + 1) % 2 = (k + 1) % 2 := by omega
      refine ⟨_, tg_name, b_fgF (ρ1 := [some (.im (.tup (nt (List.replicate n 1)))), some (.im (.etup (nt s))), some (.im (.int (k : Int))), some (.im (.int (n : Int))), some (.im (.lst (nt (par (n + 1))))), none, some (.im (.int (m : Int))), some (.mu (nt (rowL s k m))), none])
        (s_one (s_ifT (xt_cmp op_eq (nomark _) (x_ixR (XE.toR (x_var (i := 4) rfl)) (x_bin op_add (x_var (i := 2) rfl) x_int rd_I0) (at_nt1 (par_get (by omega)))) (x_ixR (XE.toR (x_var (i := 4) rfl)) (x_bin op_add (x_var (i := 6) rfl) x_int rd_I0) (at_nt1 (par_get (by omega)))) (rd_eq rfl rfl rfl)) ?hk2
          (s_cons (s_setLc (i := 7) (own := [("one", 8)]) sc_u_law_fault.nd (xi_tup (x_et (x_var (i := 1) rfl))) ?l0 (blkOk_by (N := N_u_law_fault) (sc := defScope s_u_law_fault) (by decide +kernel)) (fun _ _ _ _ _ => pg_name (i := 8) sc_u_law_fault.nd rfl (Or.inl rfl)) ?lc (sw_true rfl rfl rfl (by decide +kernel)))
          (s_ifO (v := pairD) (x := (k, m)) (k := crossL s k m) ((xt_w (xw_and (xt_cmp op_eq (nomark _) (x_insT (ns := [k, k + 1]) (x := (rowL s k m).getD 0 0) (x_ixR (i := 0) (xr_mu (i := 7) rfl) x_int ?a0) (x_tup (xa_cons (x_var (i := 2) rfl) (xa_cons (x_bin op_add (x_var (i := 2) rfl) x_int rd_I0) xa_nil)))) (x_insT (ns := [k, k + 1]) (x := (rowL s k m).getD 2 0) (x_ixR (i := 2) (xr_mu (i := 7) rfl) x_int ?a2) (x_tup (xa_cons (x_var (i := 2) rfl) (xa_cons (x_bin op_add (x_var (i := 2) rfl) x_int rd_I0) xa_nil)))) (rd_eq rfl rfl rfl))
            fun _ => xw_and1 (xt_cmp op_ne (nomark _) (x_insT (ns := [k, k + 1]) (x := (rowL s k m).getD 0 0) (x_ixR (i := 0) (xr_mu (i := 7) rfl) x_int ?a0) (x_tup (xa_cons (x_var (i := 2) rfl) (xa_cons (x_bin op_add (x_var (i := 2) rfl) x_int rd_I0) xa_nil)))) (x_insT (ns := [k, k + 1]) (x := (rowL s k m).getD 1 0) (x_ixR (i := 1) (xr_mu (i := 7) rfl) x_int ?a1) (x_tup (xa_cons (x_var (i := 2) rfl) (xa_cons (x_bin op_add (x_var (i := 2) rfl) x_int rd_I0) xa_nil)))) (rd_ne rfl rfl rfl)))).is ?cr)
            fun _ => x_tup (xa_cons x_str (xa_cons (x_var (i := 2) rfl) (xa_cons (x_var (i := 6) rfl) xa_nil))))))) ⟨.inr rfl, .inr rfl, .inr rfl, .inr rfl, .inr rfl, .inr rfl, .inl rfl, .inl rfl, .inr rfl, trivial⟩⟩
      case hk2 => rw [hp2]; simp
      case l0 => rw [nt_len, hl]; omega
      case a0 => exact at_nt (i := 0) (getD_get (by omega))
      case a1 => exact at_nt (i := 1) (getD_get (by omega))
      case a2 => exact at_nt (i := 2) (getD_get (by omega))
      case cr =>
        rw [d_bl, d_bl]
        rfl
      case lc =>
        unfold rowL
        exact lc_filter (fun x : Nat => .int (x : Int)) (fun x : Nat => .int (x : Int)) (fun x => ins [k, k + 1, m, m + 1] x) (fun x : Nat => (wipeR [some (.im (.tup (nt (List.replicate n 1)))), some (.im (.etup (nt s))), some (.im (.int (k : Int))), some (.im (.int (n : Int))), some (.im (.lst (nt (par (n + 1))))), none, some (.im (.int (m : Int))), none, none] [8]).set 8 (some (.im (.int x)))) s fun x hx =>
          ⟨tg_name, tsB_one fun _ _ _ _ _ => (xt_insT (ns := [k, k + 1, m, m + 1]) (x_var (i := 8) rfl) (x_tup (xa_cons (x_var (i := 2) rfl) (xa_cons (x_bin op_add (x_var (i := 2) rfl) x_int rd_I0) (xa_cons (x_var (i := 6) rfl) (xa_cons (x_bin op_add (x_var (i := 6) rfl) x_int rd_I0) xa_nil)))))), fun _ => eB fun _ _ _ _ _ => x_var (i := 8) rfl⟩
end
end K82
/-! ## part V3 -/
/-! Sorted data, membership of data; walk of the law's own helper: order. -/
namespace K82
open PySem PySem.Spec PyProof.Rows L2
/-! ### sorted -/
theorem each_den {α : Type} {K : PySem.W.Frag} {F : Hp} (enc : α → Dt) : ∀ {xs : List α} {vs : List V}, DenL K F (xs.map enc) vs → PySem.W.EachIs (fun v x => Den K F (enc x) v ∧ x ∈ xs) vs xs
  | [], _, h => by simp only [List.map, DenL] at h; subst h; exact .nil
  | x :: xs, _, h => by
    simp only [List.map, DenL] at h
    obtain ⟨v, r, rfl, h1, h2⟩ := h
    exact .cons ⟨h1, List.mem_cons_self⟩ ((each_den enc h2).mono fun v y ⟨q1, q2⟩ => ⟨q1, List.mem_cons_of_mem _ q2⟩)
theorem den_each {α : Type} {K : PySem.W.Frag} {F : Hp} (enc : α → Dt) {R : α → Prop} : ∀ {xs : List α} {vs : List V}, PySem.W.EachIs (fun v x => Den K F (enc x) v ∧ R x) vs xs → DenL K F (xs.map enc) vs
  | [], _, h => by cases h; exact DenL.nil
  | x :: xs, _, h => by
    cases h with
    | cons h1 h2 => exact DenL.cons h1.1 (den_each enc h2)
theorem each_imp {α β : Type} {P Q : α → β → Prop} (h : ∀ a b, P a b → Q a b) {xs : List α} {ys : List β} (e : PySem.W.EachIs P xs ys) : PySem.W.EachIs Q xs ys := e.mono h
def rSortE (K : PySem.W.Frag) {β : Type} (enc : β → PyData) : List V → Hp → VK → Prop := fun vs H Q => ∃ P : V → β → Prop, K82M.rSortD K P enc vs H Q
theorem cr_sortE {X : Cx} {β : Type} {enc : β → PyData} (hu : X.A.units + 64 < cLine) : CallR X (.builtin "sorted") (rSortE X.K enc) := by
  intro pins s σ H vs us Q I r h
  obtain ⟨P, h⟩ := h
  exact K82M.cr_sortD (P := P) hu pins s σ H vs us Q I r h
theorem xn_sortG {X : Cx} {ρ : Rho} {e : Expr} {p pos : Pos} {α : Type} (enc : α → Dt) {xs : List α} (hm : X.mg "sorted" = none) (hu : X.A.units + 64 < cLine) (h : XE X e ρ (.lst (xs.map enc))) (hp : ∀ x ∈ xs, (enc x).pure = true) (hal : PySem.W.AllAlike (xs.map fun x => (enc x).py)) (hk : PySem.W.Sortable (xs.map fun x => (enc x).py)) (hz : xs.length ≤ 1000) (hd : ∀ x ∈ xs, (enc x).py.depth ≤ 60)
    (hg : Gl X "sorted" := by rfl) (hs : starEach [e] X.env = (false, eval e X.env) :: starEach [] X.env := by rfl) (hpl : (backTo pos (starEach [] X.env)).any (·.1) = false := by rfl) :
    XN X (.Call (.Name "sorted" p) [e] [] pos) ρ ((xs.mergeSort (PySem.W.dataLe false fun x => (enc x).py)).map enc) :=
  xn_callB (cr_sortE (enc := fun x => (enc x).py) hu) hm (by decide +kernel) (xa_one h hs) (fun F H vs e k Q q => by
    simp only [DenL, Den] at k
    obtain ⟨v, r, rfl, ⟨a, ys, rfl, k2, k3⟩, rfl⟩ := k
    refine ⟨fun v x => Den X.K F (enc x) v ∧ x ∈ xs, a, ys, xs, rfl, .inl (SqL.of (e _ _ k2)), each_den enc k3, fun v x hx => Den.dp e _ hx.1 (hp x hx.2), hal, hk, hz, hd, fun zs p hy hp => ?_⟩
    exact q p _ F _ (Gr.loose e hp) hp (e.none hp) upd_same (den_each enc hy)) hg (by decide) (by decide) hs hpl
/-! ### x in a list of data -/
def rNotIn2 (K : PySem.W.Frag) : R2 := fun x y H Q => ∃ d ds, Dp K H x d ∧ Dp K H y (.list ds) ∧ SeqAt.shaped d = true ∧ SeqAt.shaped (.list ds) = true ∧ d.depth ≤ 60 ∧ Q (.bl (!ds.any fun z => PyData.eqv z d)) H
theorem op_notIn2 {X : Cx} (hu : X.A.units + 64 < cLine) : OpR X (compareOp .NotIn) (rNotIn2 X.K) := by
  intro pins s σ H x y v u Q I rx ry h
  obtain ⟨d, ds, hd, he, sd, se, hz, q⟩ := h
  obtain ⟨as, r1⟩ := Dp.reads I d x v hd rx
  obtain ⟨bs, r2⟩ := Dp.reads I (.list ds) y u he ry
  exact SeqAt.notIn_list_reads r2 r1 (SeqAt.canLay_of_shaped se) (SeqAt.canLay_of_shaped sd) (by have : min (PyData.depthAll ds) d.depth ≤ d.depth := Nat.min_le_right _ _; omega) ⟨.bl _, H, I, rfl, q⟩
section
variable {X : Cx} {ρ : Rho} {a b e : Expr} {es : List Expr} {pos p apos cpos : Pos} {d : Dt} {ds ds1 ds2 : List Dt}
/-- it is in it -/
theorem xt_notInF (hu : X.A.units + 64 < cLine) (ha : XE X a ρ d) (hb : XR X b ρ ds) (hd : d.sh 60 = true) (hds : Dt.shL 60 ds = true) (hin : d ∈ ds) (hm : behindInMarks .NotIn b = false := by rfl) : XT X (.Compare a [.NotIn] [b] pos) ρ false :=
  EvT.of (pt_cmpR (op_notIn2 hu) pe_wp pe_wp hm) fun F0 H0 F H σ S Q q => ha F0 H0 F H σ S _ fun x F2 H2 g1 k1 => hb F0 H0 F2 H2 σ (S.mono g1) _ fun y F3 H3 g2 k2 => by
    obtain ⟨l, xs, rfl, k3, k4⟩ := k2
    obtain ⟨p1, p2, p3⟩ := sh_ok 60 d hd
    obtain ⟨q1, q2, q3⟩ := shL_ok 60 ds hds
    refine ⟨d.py, Dt.pyL ds, Den.dp g2.s d (k1.mono g2.f) p1, .lst (SqL.of k3) (DenL.dp g2.s ds k4 q1), ?_, ?_, p3, _, rfl, ?_⟩
    · unfold SeqAt.shaped
      rw [p2, decide_eq_true (by omega)]; rfl
    · unfold SeqAt.shaped
      simp only [PyData.canLay0, PyData.depth, q2, Bool.true_and]
      exact decide_eq_true (by omega)
    · have hany : ((Dt.pyL ds).any fun z => PyData.eqv z d.py) = true := by
        refine List.any_eq_true.mpr ⟨d.py, ?_, SeqAt.eqv_refl _ p2⟩
        clear hds k4 q1 q2 q3 hb
        induction ds with
        | nil => cases hin
        | cons z zs ih =>
          simp only [Dt.pyL]
          rcases List.mem_cons.mp hin with w | w
          · rw [w]; exact List.mem_cons_self
          · exact List.mem_cons_of_mem _ (ih w)
      rw [hany]
      exact q F3 H3 (g1.trans g2)
/-! ### exact tuples, forgotten -/
theorem denL_et {α : Type} {K : PySem.W.Frag} {F : Hp} (f : α → List Dt) : ∀ {xs : List α} {vs : List V}, DenL K F (xs.map fun x => .etup (f x)) vs → DenL K F (xs.map fun x => .tup (f x)) vs
  | [], _, h => h
  | x :: xs, _, h => by
    simp only [List.map, DenL] at h ⊢
    obtain ⟨v, r, h1, h2, h3⟩ := h
    exact ⟨v, r, h1, den_et (by simp only [Den]; simp only [Den] at h2; exact h2), denL_et f h3⟩
theorem xr_et {α : Type} {f : α → List Dt} {xs : List α} (h : XR X e ρ (xs.map fun x => .etup (f x))) : XR X e ρ (xs.map fun x => .tup (f x)) := fun F0 H0 F H σ S Q q => h F0 H0 F H σ S Q fun v F2 H2 g ⟨a, ys, h1, h2, h3⟩ => q v F2 H2 g ⟨a, ys, h1, h2, denL_et f h3⟩
/-- t + u, u not empty and exact -/
def rCatE2 (K : PySem.W.Frag) : R2 := fun x y H Q => ∃ a b xs ys, x = .ref a ∧ y = .ref b ∧ SqT K H a xs ∧ SqT K H b ys ∧ ys ≠ [] ∧ xs.length + ys.length ≤ sizeLine ∧
  (xs = [] → Q (.ref b) H) ∧ (xs ≠ [] → ∀ p o, o.dict = none → H p = none → Q (.ref p) (upd H p (.frz o (.tup (xs ++ ys)))))
theorem op_catE2 : OpR X (binaryOp .Add) (rCatE2 X.K) := by
  intro pins s σ H x y v u Q I rx ry h
  obtain ⟨a, b, xs, ys, rfl, rfl, ha, hb, hy, hz, q1, q2⟩ := h
  by_cases hx : xs = []
  · subst hx
    cases rx
    cases ry
    obtain ⟨its, r1, p1, _⟩ := I.tuple ha
    obtain ⟨its2, r2, p2, _⟩ := I.tuple hb
    cases r1
    exact cat_tup0 p1 p2 ⟨.ref b, H, I, rfl, q1 rfl⟩
  · exact op_catE pins s σ H _ _ v u Q I rx ry ⟨a, b, xs, ys, rfl, rfl, ha, hb, hx, hz, fun z => absurd z hy, fun _ => q2 hx⟩
theorem x_catE2 (ha : XE X a ρ (.tup ds1)) (hb : XE X b ρ (.etup ds2)) (hne : ds2 ≠ []) (hl : ds1.length + ds2.length ≤ 1000) : XE X (.BinOp a .Add b pos) ρ (.etup (ds1 ++ ds2)) := EvD.of (pe_op op_catE2 pe_wp pe_wp) fun F0 H0 F H σ S Q q =>
  ha F0 H0 F H σ S _ fun x F2 H2 g1 k1 => hb F0 H0 F2 H2 σ (S.mono g1) _ fun y F3 H3 g2 k2 => by
    have k1' := Den.mono g2.f _ k1
    simp only [Den] at k1'
    have k2' := k2
    simp only [Den] at k2'
    obtain ⟨t, xs, rfl, f1, f2⟩ := k1'
    obtain ⟨u, o, ys, rfl, f3, f4, f5⟩ := k2'
    have hy : ys ≠ [] := fun z => hne (List.length_eq_zero_iff.mp (by rw [← f5.length, z]; rfl))
    refine ⟨t, u, xs, ys, rfl, rfl, ex_t g2.s f1, .inl (.inr ⟨o, g2.s _ _ f3⟩), hy, by rw [f2.length, f5.length]; exact Nat.le_of_lt (small1000 hl), fun z => ?_, fun z p o' ho hp => ?_⟩
    · have e1 : ds1 = [] := List.length_eq_zero_iff.mp (by rw [← f2.length, z]; rfl)
      rw [e1, List.nil_append] at q
      exact q _ F3 H3 (g1.trans g2) k2
    · exact q _ _ _ ((g1.trans g2).trans (Gr.new g2.s hp)) (den_etNew (g2.s.none hp) ho (f2.append f5))
end
/-! ### data in order -/
def leP (p q : Nat × Nat) : Bool := decide ((p.1 : Int) < q.1 ∨ ((p.1 : Int) = q.1 ∧ (p.2 : Int) ≤ q.2))
def prD (p : Nat × Nat) : Dt := .tup [.int (p.1 : Int), .int (p.2 : Int)]
def stD' (s : List Nat) : Dt := .tup (nt s)
def icast (s : List Nat) : List Int := s.map fun (n : Nat) => (n : Int)
def leS (s t : List Nat) : Bool := decide (icast s ≤ icast t)
theorem pyL_nt (s : List Nat) : Dt.pyL (nt s) = (icast s).map PyData.int := by
  unfold nt icast
  induction s with
  | nil => simp [Dt.pyL]
  | cons n s ih => simp only [List.map, Dt.pyL, Dt.py, ih]
theorem prD_py (p : Nat × Nat) : (prD p).py = .tuple [.int (p.1 : Int), .int (p.2 : Int)] := by simp only [prD, Dt.py, Dt.pyL]
theorem stD_py (s : List Nat) : (stD' s).py = .tuple ((icast s).map .int) := by simp only [stD', Dt.py, pyL_nt]
theorem le_prD : (PySem.W.dataLe false fun x : Nat × Nat => (prD x).py) = leP := by
  have e : (fun x : Nat × Nat => (prD x).py) = fun x => .tuple [.int (x.1 : Int), .int (x.2 : Int)] := funext prD_py
  rw [e, PySem.W.dataLe_ii]
  rfl
theorem le_stD : (PySem.W.dataLe false fun s : List Nat => (stD' s).py) = leS := by
  have e : (fun s : List Nat => (stD' s).py) = fun s => .tuple ((icast s).map .int) := funext stD_py
  rw [e]
  funext p q
  show (!PySem.W.dataLt (.tuple ((icast q).map .int)) (.tuple ((icast p).map .int))) = _
  rw [PySem.W.dataLt_tuple]
  show (!PySem.W.rowLt ((icast q).map .int) ((icast p).map .int)) = _
  rw [PySem.W.dataLt_ints]
  unfold leS
  by_cases h : icast q < icast p
  · have h' : ¬ icast p ≤ icast q := fun r => List.not_lt.mpr r h
    simp [h, h']
  · have h' : icast p ≤ icast q := List.not_lt.mp h
    simp [h, h']
theorem alike_ints : ∀ xs ys : List Int, PySem.W.alikeAll (xs.map .int) (ys.map .int) = true
  | [], _ => by simp [PySem.W.alikeAll]
  | _ :: _, [] => by simp [PySem.W.alikeAll]
  | x :: xs, y :: ys => by simp only [List.map, PySem.W.alikeAll, PySem.W.alike, alike_ints xs ys]; rfl
theorem depth_ints : ∀ xs : List Int, PyData.depthAll (xs.map .int) = 0
  | [] => by simp [PyData.depthAll]
  | x :: xs => by simp only [List.map, PyData.depthAll, PyData.depth, depth_ints xs]; rfl
section
variable {X : Cx} {ρ : Rho} {e : Expr} {p pos : Pos}
/-- sorted of pairs -/
theorem xn_sortP {xs : List (Nat × Nat)} (hm : X.mg "sorted" = none) (hu : X.A.units + 64 < cLine) (h : XE X e ρ (.lst (xs.map prD))) (hz : xs.length ≤ 1000) (hg : Gl X "sorted" := by rfl) (hs : starEach [e] X.env = (false, eval e X.env) :: starEach [] X.env := by rfl) (hpl : (backTo pos (starEach [] X.env)).any (·.1) = false := by rfl) :
    XN X (.Call (.Name "sorted" p) [e] [] pos) ρ ((xs.mergeSort leP).map prD) := by
  have := xn_sortG (pos := pos) (p := p) prD hm hu h (fun x _ => by simp [prD, Dt.pure, Dt.pureL]) ?_ ?_ hz (fun x _ => by rw [prD_py]; simp [PyData.depth, PyData.depthAll]) hg hs hpl
  · rw [le_prD] at this
    exact this
  · intro d hd d' hd'
    obtain ⟨x, _, rfl⟩ := List.mem_map.mp hd
    obtain ⟨y, _, rfl⟩ := List.mem_map.mp hd'
    rw [prD_py, prD_py]
    simp [PySem.W.alike, PySem.W.alikeAll]
  · refine .inl fun d hd => ?_
    obtain ⟨x, _, rfl⟩ := List.mem_map.mp hd
    exact ⟨_, _, prD_py x⟩
/-- sorted of states -/
theorem xn_sortS {xs : List (List Nat)} (hm : X.mg "sorted" = none) (hu : X.A.units + 64 < cLine) (h : XE X e ρ (.lst (xs.map stD'))) (hz : xs.length ≤ 1000) (hne : ∀ s ∈ xs, s ≠ []) (hg : Gl X "sorted" := by rfl) (hs : starEach [e] X.env = (false, eval e X.env) :: starEach [] X.env := by rfl) (hpl : (backTo pos (starEach [] X.env)).any (·.1) = false := by rfl) :
    XN X (.Call (.Name "sorted" p) [e] [] pos) ρ ((xs.mergeSort leS).map stD') := by
  have := xn_sortG (pos := pos) (p := p) stD' hm hu h (fun x _ => by
    have : (stD' x).sh 64 = true := by simp only [stD', Dt.sh]; exact shL_nt _ _
    exact (sh_ok 64 _ this).1) ?_ ?_ hz (fun x _ => by rw [stD_py]; simp [PyData.depth, depth_ints]) hg hs hpl
  · rw [le_stD] at this
    exact this
  · intro d hd d' hd'
    obtain ⟨x, _, rfl⟩ := List.mem_map.mp hd
    obtain ⟨y, _, rfl⟩ := List.mem_map.mp hd'
    rw [stD_py, stD_py]
    simp only [PySem.W.alike]
    exact alike_ints _ _
  · refine .inl fun d hd => ?_
    obtain ⟨x, hx, rfl⟩ := List.mem_map.mp hd
    cases x with
    | nil => exact absurd rfl (hne _ hx)
    | cons n s => exact ⟨_, _, stD_py _⟩
end
/-! ### an order -/
def orderP (ds : List Nat) (n : Nat) : List (Nat × Nat) := (List.range n).map fun k => (ds.getD k 0, k)
def orderL (ds : List Nat) (n : Nat) : List Nat := ((orderP ds n).mergeSort leP).map (·.2)
theorem order_pm (ds : List Nat) {n : Nat} (h1 : 1 ≤ n) (h6 : n ≤ 6) : Pm n (orderL ds n) := by
  refine ⟨h1, h6, ?_⟩
  unfold orderL
  refine ((List.mergeSort_perm _ _).map _).trans ?_
  unfold orderP
  rw [List.map_map]
  have e : ((fun p : Nat × Nat => p.2) ∘ fun k => (ds.getD k 0, k)) = id := rfl
  rw [e, List.map_id]
section
variable {P : Program} {w : World} {K : PySem.W.Frag} {mg : Str → Option Value} {base : Heap}
theorem c_u_law_order (c : Fx w K mg) (ds : List Nat) (n : Nat) (hn : n ≤ 6) (hd : n ≤ ds.length) : Cl P w K mg base 1 "_law_order" (spD K [.lst (nt ds), .int n] (.etup (nt (orderL ds n)))) := by
  refine to_u_law_order c fun f fd F => def_ok F sc_u_law_order rfl fun cdv A outer s H E hr => ⟨_, s_cons (s_set (i := 2) sc_u_law_order.nd (XN.toD (xn_sortP (xs := orderP ds n) (z_sorted c) hr.units (XN.toD (xn_lc (own := [("k", 3)]) sc_u_law_order.nd (xi_range1 (z_range c) (x_var (i := 1) rfl) ?r1 ?r2) ?l1 (blkOk_by (N := N_u_law_order) (sc := defScope s_u_law_order) (by decide +kernel)) (fun _ _ _ _ _ => pg_name (i := 3) sc_u_law_order.nd rfl (Or.inl rfl)) ?lc1)) ?z1)))
    (s_one (s_ret (x_etupOf (z_tuple c) (XN.toR (xn_lc (own := [("row", 4)]) sc_u_law_order.nd (xi_list (x_var (i := 2) rfl)) ?l2 (blkOk_by (N := N_u_law_order) (sc := defScope s_u_law_order) (by decide +kernel)) (fun _ _ _ _ _ => pg_name (i := 4) sc_u_law_order.nd rfl (Or.inl rfl)) ?lc2))))), .inl rfl⟩
  case r1 => omega
  case r2 => omega
  case l1 => rw [rgD_length]; omega
  case z1 => unfold orderP; rw [List.length_map, List.length_range]; omega
  case l2 => rw [List.length_map, List.length_mergeSort]; unfold orderP; rw [List.length_map, List.length_range]; omega
  case lc1 =>
    rw [rgD_nt, Int.toNat_natCast]
    unfold orderP
    rw [List.map_map]
    exact lc_map (fun x : Nat => .int (x : Int)) (fun x : Nat => prD (ds.getD x 0, x)) (fun x : Nat => (wipeR (rho0 N_u_law_order [.lst (nt ds), .int n]) [3]).set 3 (some (.im (.int x)))) (List.range n) fun x hx =>
      ⟨tg_name, tsB_nil, eB fun _ _ _ _ _ => x_tup (xa_cons (x_int1 (z_int c) (x_ixR (XE.toR (x_var (i := 0) rfl)) (x_var (i := 3) rfl) (at_nt (getD_get (by have := List.mem_range.mp hx; omega))))) (xa_cons (x_var (i := 3) rfl) xa_nil))⟩
  case lc2 =>
    unfold orderL nt
    rw [List.map_map]
    exact lc_map prD (fun p : Nat × Nat => .int (p.2 : Int)) (fun p : Nat × Nat => (wipeR [some (.im (.lst (nt ds))), some (.im (.int n)), some (.im (.lst (((orderP ds n).mergeSort leP).map prD))), none, none] [4]).set 4 (some (.im (prD p)))) _ fun x hx =>
      ⟨tg_name, tsB_nil, eB fun _ _ _ _ _ => x_ixT (i := 1) (x_var (i := 4) rfl) x_int rfl⟩
end
end K82
/-! ## part V4 -/
/-! Walk of the law's own helper: states. -/
namespace K82
open PySem PySem.Spec PyProof.Rows L2
def putL (row : List Nat) (k : Nat) : List (List Nat) := (List.range (row.length + 1)).map fun a => row.take a ++ [k] ++ row.drop a
def longerL (rows : List (List Nat)) (k : Nat) : List (List Nat) := rows.flatMap fun row => putL row k
/-- the states that can be, of i + 1 segments -/
def RL : Nat → List (List Nat)
  | 0 => [[0]]
  | i + 1 => (longerL (RL i) (i + 1)).filter fun row => (faultL row (i + 2)).isNone
def fact : Nat → Nat
  | 0 => 1
  | n + 1 => (n + 1) * fact n
theorem putL_mem {row x : List Nat} {k : Nat} (h : x ∈ putL row k) : x.Perm (k :: row) := by
  unfold putL at h
  obtain ⟨a, _, rfl⟩ := List.mem_map.mp h
  have h1 : (row.take a ++ [k] ++ row.drop a).Perm ([k] ++ row.take a ++ row.drop a) := List.Perm.append_right _ List.perm_append_comm
  refine h1.trans ?_
  rw [List.append_assoc, List.take_append_drop]
  exact List.Perm.refl _
theorem RL_pm : ∀ i, i < 6 → ∀ s ∈ RL i, Pm (i + 1) s
  | 0, _, s, hs => by
    have e : s = [0] := by simpa [RL] using hs
    subst e
    exact ⟨by decide, by decide, List.Perm.refl _⟩
  | i + 1, hi, s, hs => by
    have h1 := (List.mem_filter.mp hs).1
    obtain ⟨row, h2, h3⟩ := List.mem_flatMap.mp h1
    have ih := RL_pm i (by omega) row h2
    refine ⟨by omega, by omega, ((putL_mem h3).trans (List.Perm.cons _ ih.perm)).trans ?_⟩
    rw [List.range_succ (n := i + 1)]
    exact (List.perm_append_comm (l₁ := [i + 1])).trans (List.Perm.refl _)
theorem longer_len {k : Nat} : ∀ rows : List (List Nat), (∀ r ∈ rows, r.length = k) → (longerL rows k).length = rows.length * (k + 1)
  | [], _ => by simp [longerL]
  | r :: rows, h => by
    have ih := longer_len rows fun q hq => h q (List.mem_cons_of_mem _ hq)
    have h1 := h r List.mem_cons_self
    unfold longerL at ih ⊢
    rw [List.flatMap_cons, List.length_append, ih, List.length_cons, Nat.succ_mul]
    unfold putL
    rw [List.length_map, List.length_range, h1]
    omega
theorem RL_len : ∀ i, i < 6 → (RL i).length ≤ fact (i + 1)
  | 0, _ => by decide
  | i + 1, hi => by
    have ih := RL_len i (by omega)
    have h1 := longer_len (k := i + 1) (RL i) fun r hr => (RL_pm i (by omega) r hr).len
    refine Nat.le_trans (List.length_filter_le _ _) ?_
    rw [h1]
    show _ ≤ (i + 2) * fact (i + 1)
    rw [Nat.mul_comm]
    exact Nat.mul_le_mul_left _ ih
theorem fact_le {i : Nat} (h : i < 6) : fact (i + 1) ≤ 720 := by
  have : ∀ i < 6, fact (i + 1) ≤ 720 := by decide
  exact this i h
theorem RL_id : ∀ i, i < 6 → List.range (i + 1) ∈ RL i
  | 0, _ => by decide
  | i + 1, hi => by
    refine List.mem_filter.mpr ⟨List.mem_flatMap.mpr ⟨List.range (i + 1), RL_id i (by omega), ?_⟩, ?_⟩
    · unfold putL
      refine List.mem_map.mpr ⟨i + 1, List.mem_range.mpr (by rw [List.length_range]; omega), ?_⟩
      rw [List.take_of_length_le (by rw [List.length_range]; exact Nat.le_refl _), List.drop_of_length_le (by rw [List.length_range]; exact Nat.le_refl _), List.append_nil, List.range_succ (n := i + 1)]
    · have : ∀ i < 5, (faultL (List.range (i + 2)) (i + 2)).isNone = true := by decide +kernel
      exact this i (by omega)
theorem cut_take (ds : List Dt) (n : Nat) : cutD ds none (some (n : Int)) = ds.take n := by
  unfold cutD
  have e1 : HT.sIx ds.length 0 none = 0 := rfl
  have e2 : HT.sIx ds.length ds.length (some (n : Int)) = min n ds.length := by
    unfold HT.sIx
    simp
    omega
  rw [e1, e2, List.drop_zero, Nat.sub_zero]
  by_cases h : n ≤ ds.length
  · rw [Nat.min_eq_left h]
  · rw [Nat.min_eq_right (by omega), List.take_length, List.take_of_length_le (by omega)]
abbrev etD (s : List Nat) : Dt := .etup (nt s)
section
variable {P : Program} {w : World} {K : PySem.W.Frag} {mg : Str → Option Value} {base : Heap}
theorem nt_take (s : List Nat) (n : Nat) : (nt s).take n = nt (s.take n) := by unfold nt; rw [List.map_take]
theorem nt_drop (s : List Nat) (n : Nat) : (nt s).drop n = nt (s.drop n) := by unfold nt; rw [List.map_drop]
theorem nt_cat (s t : List Nat) : nt s ++ nt t = nt (s ++ t) := by unfold nt; rw [List.map_append]
theorem c_u_law_states (c : Fx w K mg) (n : Nat) (h1 : 1 ≤ n) (hn : n ≤ 6) : Cl P w K mg base 3 "_law_states" (spN K [.tup (nt (List.replicate n 1)), .int 1000] ((RL (n - 1)).map etD)) := by
  have el : (nt (List.replicate n 1)).length = n := by rw [nt_len, List.length_replicate]
  refine to_u_law_states c fun f fd F => def_okN F sc_u_law_states rfl fun cdv A outer s H E hr => s_cons (s_setN (i := 2) sc_u_law_states.nd (xn_lst (xa_cons (x_etup (xa_cons x_int xa_nil)) xa_nil))) (s_cons (ρ1 := [some (.im (.tup (nt (List.replicate n 1)))), some (.im (.int 1000)), some (.mu ((RL (n - 1)).map etD)), none, none, none, none])
    (s_for (xi_range2 (z_range c) x_int (x_lenT (z_len c) (x_var (i := 0) rfl)) ?r1) (pg_name (i := 3) sc_u_law_states.nd rfl (Or.inr rfl)) (vs := [3]) ?l)
    (s_one (s_retM (i := 2) rfl)))
  case r1 => rw [el]; omega
  case l =>
    refine for_at (fun i => [some (.im (.tup (nt (List.replicate n 1)))), some (.im (.int 1000)), some (.mu ((RL i).map etD)), none, none, none, none]) (n - 1) (by rw [rgD_length, el]; omega) rfl rfl fun i d hi hd => ?_
    have ed : d = .int ((i + 1 : Nat) : Int) := by
      unfold rgD at hd
      rw [List.getElem?_map, List.getElem?_range (by rw [el]; omega)] at hd
      rw [← Option.some.inj hd]
      show Dt.int (1 + (i : Int)) = Dt.int ((i + 1 : Nat) : Int)
      congr 1
      omega
    subst ed
    have hpm := RL_pm i (by omega)
    have hlen := RL_len i (by omega)
    have hfac := fact_le (i := i) (by omega)
    have hrow : ∀ r ∈ RL i, r.length = i + 1 := fun r hr => (hpm r hr).len
    have hlong := longer_len (k := i + 1) (RL i) hrow
    have hlb : (longerL (RL i) (i + 1)).length ≤ 5040 := by
      rw [hlong]
      exact Nat.le_trans (Nat.mul_le_mul (Nat.le_trans hlen hfac) (show i + 1 + 1 ≤ 7 by omega)) (by decide)
    refine ⟨_, tg_name, b_fg (ρ1 := [some (.im (.tup (nt (List.replicate n 1)))), some (.im (.int 1000)), some (.mu ((RL (i + 1)).map etD)), some (.im (.int ((i + 1 : Nat) : Int))), some (.im (.lst ((longerL (RL i) (i + 1)).map etD))), none, none])
      (s_cons (s_setN (i := 4) sc_u_law_states.nd (xn_lst xa_nil)) (s_freeze 2 rfl
        (s_cons (ρ1 := [some (.im (.tup (nt (List.replicate n 1)))), some (.im (.int 1000)), some (.im (.lst ((RL i).map etD))), some (.im (.int ((i + 1 : Nat) : Int))), some (.mu ((longerL (RL i) (i + 1)).map etD)), none, none]) (s_for (xi_list (x_var (i := 2) rfl)) (pg_name (i := 5) sc_u_law_states.nd rfl (Or.inr rfl)) (vs := [5]) ?l2)
        (s_freeze 4 rfl (s_cons (s_setN (i := 2) (ds := (RL (i + 1)).map etD) sc_u_law_states.nd ((xn_slice (l := none) (u := some ((1000 : Nat) : Int)) (XN.toR (xn_lc (outs := (RL (i + 1)).map etD) (own := [("row", 5)]) sc_u_law_states.nd (xi_list (x_var (i := 4) rfl)) ?z2 (blkOk_by (N := N_u_law_states) (sc := defScope s_u_law_states) (by decide +kernel)) (fun _ _ _ _ _ => pg_name (i := 5) sc_u_law_states.nd rfl (Or.inl rfl)) ?lc)) xo_none (xo_some (x_var (i := 1) rfl))).is ?e2))
          (s_one (s_ifF (xt_notInF hr.units (x_tupRg1 (z_tuple c) (z_range c) (x_bin op_add (x_var (i := 3) rfl) x_int rd_I0) (by omega) (by omega)) (xr_et (xr_mu (i := 2) rfl)) ?h1 ?h2 ?h3) rfl s_nil))))))) ⟨.inr rfl, .inr rfl, .inr rfl, .inl rfl, .inl rfl, .inr rfl, .inr rfl, trivial⟩⟩
    case z2 => rw [List.length_map]; omega
    case e2 =>
      rw [cut_take, List.take_of_length_le]
      rw [List.length_map]
      have h2 := fact_le (i := i + 1) (by omega)
      exact Nat.le_trans (Nat.le_trans (RL_len (i + 1) (by omega)) h2) (by decide)
    case lc =>
      refine lc_filter etD etD (fun row => (faultL row (i + 2)).isNone) (fun row : List Nat => (wipeR [some (.im (.tup (nt (List.replicate n 1)))), some (.im (.int 1000)), some (.im (.lst ((RL i).map etD))), some (.im (.int ((i + 1 : Nat) : Int))), some (.im (.lst ((longerL (RL i) (i + 1)).map etD))), none, none] [5]).set 5 (some (.im (etD row)))) _ fun row hrw => ?_
      have pm : Pm (i + 2) row := by
        obtain ⟨r0, k1, k2⟩ := List.mem_flatMap.mp hrw
        have ih := hpm r0 k1
        refine ⟨by omega, by omega, ((putL_mem k2).trans (List.Perm.cons _ ih.perm)).trans ?_⟩
        rw [List.range_succ (n := i + 1)]
        exact List.perm_append_comm (l₁ := [i + 1])
      refine ⟨tg_name, tsB_one fun _ _ _ _ _ => (xt_isN (x_call (c_u_law_fault c pm) hr (xa_cons ((x_sliceT (u := some ((i + 2 : Nat) : Int)) (x_var (i := 0) rfl) xo_none (xo_some ((x_bin op_add (x_var (i := 3) rfl) x_int rd_I0).is ?f1))).is ?f2) (xa_cons (x_var (i := 5) rfl) xa_nil)))).is ?f3, fun _ => eB fun _ _ _ _ _ => x_var (i := 5) rfl⟩
      case f1 => rfl
      case f2 =>
        rw [cut_take, nt_take, List.take_replicate, Nat.min_eq_left (by omega)]
      case f3 => cases faultL row (i + 2) <;> rfl
    case h1 =>
      simp only [Dt.sh]
      rw [rgD_nt]
      exact shL_nt _ _
    case h2 => exact shL_map _ _ _ fun s _ => by simp only [Dt.sh]; exact shL_nt _ _
    case h3 =>
      have e1 : rgD 0 (((i + 1 : Nat) : Int) + 1).toNat = nt (List.range (i + 2)) := by
        rw [rgD_nt]
        rfl
      rw [e1]
      exact List.mem_map_of_mem (f := fun s : List Nat => Dt.tup (nt s)) (RL_id (i + 1) (by omega))
    case l2 =>
      refine for_at (fun j => [some (.im (.tup (nt (List.replicate n 1)))), some (.im (.int 1000)), some (.im (.lst ((RL i).map etD))), some (.im (.int ((i + 1 : Nat) : Int))), some (.mu ((longerL ((RL i).take j) (i + 1)).map etD)), none, none]) (RL i).length (List.length_map ..) rfl (by rw [List.take_length]) fun j d hj hd => ?_
      rw [List.getElem?_map, List.getElem?_eq_getElem hj] at hd
      have ed := Option.some.inj hd
      subst ed
      generalize hrr : (RL i)[j] = row
      have hmem : row ∈ RL i := by rw [← hrr]; exact List.getElem_mem hj
      have hr1 : row.length = i + 1 := hrow row hmem
      refine ⟨_, tg_name, b_fg (s_one (s_ext (i := 4) (ds1 := (putL row (i + 1)).map etD) rfl (XN.toR (xn_lc (own := [("at", 6)]) sc_u_law_states.nd (xi_range1 (z_range c) (x_bin op_add (x_lenT (z_len c) (x_et (x_var (i := 5) rfl))) x_int rd_I0) ?q1 ?q2) ?q3 (blkOk_by (N := N_u_law_states) (sc := defScope s_u_law_states) (by decide +kernel)) (fun _ _ _ _ _ => pg_name (i := 6) sc_u_law_states.nd rfl (Or.inl rfl)) ?q4)) ?q5)) ⟨.inr rfl, .inr rfl, .inr rfl, .inr rfl, .inr ?q6, .inl rfl, .inr rfl, trivial⟩⟩
      case q1 => rw [nt_len]; omega
      case q2 => rw [nt_len]; omega
      case q3 => rw [rgD_length, nt_len]; omega
      case q5 =>
        rw [List.length_map, List.length_map]
        have b1 := longer_len (k := i + 1) ((RL i).take j) fun r hr => hrow r (List.mem_of_mem_take hr)
        rw [b1, List.length_take]
        have b2 : (putL row (i + 1)).length = i + 2 := by unfold putL; rw [List.length_map, List.length_range, hr1]
        rw [b2]
        have b3 : min j (RL i).length * (i + 1 + 1) ≤ 720 * 7 := Nat.mul_le_mul (Nat.le_trans (Nat.min_le_right _ _) (Nat.le_trans hlen hfac)) (by omega)
        omega
      case q6 =>
        rw [← List.map_append]
        congr 3
        rw [List.take_succ, List.getElem?_eq_getElem hj, hrr]
        unfold longerL
        rw [List.flatMap_append]
        simp
      case q4 =>
        have e1 : (((nt row).length : Int) + 1).toNat = row.length + 1 := by rw [nt_len]; omega
        rw [rgD_nt, e1]
        unfold putL
        rw [List.map_map]
        exact lc_map (fun x : Nat => .int (x : Int)) (fun x : Nat => etD (row.take x ++ [i + 1] ++ row.drop x)) (fun x : Nat => (wipeR [some (.im (.tup (nt (List.replicate n 1)))), some (.im (.int 1000)), some (.im (.lst ((RL i).map etD))), some (.im (.int ((i + 1 : Nat) : Int))), some (.mu ((longerL ((RL i).take j) (i + 1)).map etD)), some (.im (etD row)), none] [6]).set 6 (some (.im (.int x)))) (List.range (row.length + 1)) fun x hx =>
          ⟨tg_name, tsB_nil, eB fun _ _ _ _ _ => (x_catE (x_catE2 (x_sliceT (u := some ((x : Nat) : Int)) (x_et (x_var (i := 5) rfl)) xo_none (xo_some (x_var (i := 6) rfl))) (x_etup (xa_cons (x_var (i := 3) rfl) xa_nil)) (fun z => nomatch z) (by rw [cut_take, nt_take, nt_len, List.length_take]; show _ + 1 ≤ 1000; omega))
            (x_sliceT (l := some ((x : Nat) : Int)) (x_et (x_var (i := 5) rfl)) (xo_some (x_var (i := 6) rfl)) xo_none) (fun z => by simp at z) (by rw [cut_take, nt_take, cut_drop, nt_drop, List.length_append, nt_len, nt_len, List.length_take, List.length_drop]; show _ + 1 + _ ≤ 1000; omega)).is (by
              rw [cut_take, cut_drop, nt_take, nt_drop]
              have e2 : [Dt.int ((i + 1 : Nat) : Int)] = nt [i + 1] := rfl
              rw [e2, nt_cat, nt_cat])⟩
end
end K82
/-! ## part V5 -/
/-! Walk of the law's own helper: draws. -/
namespace K82
open PySem PySem.Spec PyProof.Rows L2
def digS (s : List Nat × Nat) : List Nat × Nat := if 0 < s.2 then (s.1 ++ [s.2 % 1009], s.2 / 1009) else s
def digs : Nat → List Nat × Nat → List Nat × Nat
  | 0, s => s
  | i + 1, s => digS (digs i s)
def seedS (s m : Nat) : Nat := (s * 48271 + m + 11) % 2147483647
def cellS (s : List Nat × Nat) (z : Int) : List Nat × Nat :=
  if 10 ^ 18 ≤ z.natAbs then ((digs 60 (s.1, z.natAbs)).1, seedS s.2 z.natAbs) else (s.1 ++ [(seedS s.2 z.natAbs * 16807 + 5) / 3 % 65521], seedS s.2 z.natAbs)
def cells (ns : List Int) (i : Nat) : List Nat × Nat := (ns.take i).foldl cellS ([], 7)
def fillS (s : List Nat × Nat) (k : Nat) : List Nat × Nat := if s.1.length < 50 then (s.1 ++ [(s.2 * 69621 + k + 1) % 2147483647 / 7 % 65521], (s.2 * 69621 + k + 1) % 2147483647) else s
def fills : Nat → List Nat × Nat → List Nat × Nat
  | 0, s => s
  | i + 1, s => fillS (fills i s) i
def drawsL (ns : List Int) : List Nat := (fills 50 (cells ns ns.length)).1.take 50
theorem digs_len (s : List Nat × Nat) : ∀ j, (digs j s).1.length ≤ s.1.length + j
  | 0 => Nat.le_refl _
  | j + 1 => by
    have ih := digs_len s j
    show (digS (digs j s)).1.length ≤ _
    unfold digS
    split
    · show ((digs j s).1 ++ [_]).length ≤ _
      rw [List.length_append, List.length_singleton]; omega
    · omega
theorem cells_succ {ns : List Int} {i : Nat} {z : Int} (h : ns[i]? = some z) : cells ns (i + 1) = cellS (cells ns i) z := by
  unfold cells
  rw [List.take_succ, h, List.foldl_append]
  rfl
theorem cellS_len (s : List Nat × Nat) (z : Int) : (cellS s z).1.length ≤ s.1.length + 60 := by
  have h := digs_len (s.1, z.natAbs) 60
  generalize hd : digs 60 (s.1, z.natAbs) = d at h
  by_cases hb : 10 ^ 18 ≤ z.natAbs
  · have e : cellS s z = (d.1, seedS s.2 z.natAbs) := by unfold cellS; rw [if_pos hb, hd]
    rw [e]
    exact h
  · have e : cellS s z = (s.1 ++ [(seedS s.2 z.natAbs * 16807 + 5) / 3 % 65521], seedS s.2 z.natAbs) := by unfold cellS; rw [if_neg hb]
    rw [e]
    show (s.1 ++ [_]).length ≤ _
    rw [List.length_append, List.length_singleton]; omega
theorem cells_len (ns : List Int) : ∀ i, i ≤ ns.length → (cells ns i).1.length ≤ 60 * i
  | 0, _ => by unfold cells; simp
  | i + 1, h => by
    have ih := cells_len ns i (by omega)
    rw [cells_succ (List.getElem?_eq_getElem (by omega))]
    have := cellS_len (cells ns i) (ns[i])
    omega
theorem fills_ge (s : List Nat × Nat) : ∀ j, j ≤ 50 → j ≤ (fills j s).1.length
  | 0, _ => Nat.zero_le _
  | j + 1, h => by
    have ih := fills_ge s j (by omega)
    show _ ≤ (fillS (fills j s) j).1.length
    unfold fillS
    split
    · show _ ≤ ((fills j s).1 ++ [_]).length
      rw [List.length_append, List.length_singleton]; omega
    · omega
theorem fills_le (s : List Nat × Nat) : ∀ j, (fills j s).1.length ≤ s.1.length + j
  | 0 => Nat.le_refl _
  | j + 1 => by
    have ih := fills_le s j
    show (fillS (fills j s) j).1.length ≤ _
    unfold fillS
    split
    · show ((fills j s).1 ++ [_]).length ≤ _
      rw [List.length_append, List.length_singleton]; omega
    · omega
theorem draws_len (ns : List Int) : (drawsL ns).length = 50 := by
  unfold drawsL
  rw [List.length_take]
  exact Nat.min_eq_left (fills_ge _ 50 (by decide))
section
variable {X : Cx} {ρ : Rho} {a b : Expr} {pos p2 : Pos}
/-- the script, cut -/
theorem xn_sliceScr {ns : List Int} {lo hi : Option Expr} {l u : Option Int} (ha : XE X a ρ (.scr ns)) (h1 : XO X lo ρ l) (h2 : XO X hi ρ u) : XN X (.Subscript a (.Slice lo hi none p2) pos) ρ (cutD (ns.map .int) l u) :=
  EvN.of (pe_slice sl_list pe_wp po_wp po_wp) fun F0 H0 F H σ S Q q => ha F0 H0 F H σ S _ fun x F2 H2 g1 rx => h1 F0 H0 F2 H2 σ (S.mono g1) _ fun F3 H3 g2 => h2 F0 H0 F3 H3 σ (S.mono (g1.trans g2)) _ fun F4 H4 g3 => by
    simp only [Den] at rx
    obtain ⟨t, rfl, k2⟩ := rx
    exact ⟨t, _, rfl, ext_l (g2.trans g3).h (ex_l g1.s k2), fun p hp => q p _ F4 _ (((g1.trans g2).trans g3).trans (Gr.loose g3.s hp)) (((g1.trans g2).trans g3).h.none hp) (g3.s.none hp) upd_same (DenL.of_ints ns).cut⟩
end
section
variable {P : Program} {w : World} {K : PySem.W.Frag} {mg : Str → Option Value} {base : Heap}
theorem seed_eq (s m : Nat) : ((s : Int) * 48271 + (m : Int) + 11) % 2147483647 = ((seedS s m : Nat) : Int) := by unfold seedS; omega
abbrev rD (ns : List Int) (s : List Nat × Nat) (v4 v5 v6 : Option Sv) : Rho := [some (.im (.scr ns)), some (.im (.int 50)), some (.mu (nt s.1)), some (.im (.int (s.2 : Int))), v4, v5, v6]
theorem c_u_law_draws (c : Fx w K mg) (ns : List Int) (hn : ns.length ≤ 63) : Cl P w K mg base 1 "_law_draws" (spN K [.scr ns, .int 50] (nt (drawsL ns))) := by
  refine to_u_law_draws c fun f fd F => def_okN F sc_u_law_draws rfl fun cdv A outer s H E hr => s_cons (s_setN (i := 2) sc_u_law_draws.nd (xn_lst xa_nil)) (s_cons (s_set (i := 3) sc_u_law_draws.nd x_int)
    (s_cons (ρ1 := rD ns (cells ns ns.length) none none none) (s_for (ds := ns.map .int) (xi_list (XN.toD ((xn_sliceScr (u := some ((63 : Nat) : Int)) (x_var (i := 0) rfl) xo_none (xo_some x_int)).is ?e0))) (pg_name (i := 4) sc_u_law_draws.nd rfl (Or.inl rfl)) (vs := [4]) ?l1)
    (s_cons (ρ1 := rD ns (fills 50 (cells ns ns.length)) none none none) (s_for (xi_range1 (z_range c) (x_var (i := 1) rfl)) (pg_name (i := 5) sc_u_law_draws.nd rfl (Or.inl rfl)) (vs := [5]) ?l2)
    (s_one (s_retN ((xn_slice (u := some ((50 : Nat) : Int)) (xr_mu (i := 2) rfl) xo_none (xo_some (x_var (i := 1) rfl))).is ?e1))))))
  case e0 =>
    rw [cut_take, List.take_of_length_le]
    rw [List.length_map]; exact hn
  case e1 =>
    rw [cut_take, nt_take]
    rfl
  case l2 =>
    have hcl := cells_len ns ns.length (Nat.le_refl _)
    refine for_at (fun i => rD ns (fills i (cells ns ns.length)) none none none) 50 (by rw [rgD_length]; rfl) rfl rfl fun i d hi hd => ?_
    have ed : d = .int (i : Int) := by
      rw [rgD_nt] at hd
      unfold nt at hd
      rw [List.getElem?_map, List.getElem?_range (by exact hi)] at hd
      exact (Option.some.inj hd).symm
    subst ed
    have hfl := fills_le (cells ns ns.length) i
    generalize hst : fills i (cells ns ns.length) = st at hfl
    have hs : fills (i + 1) (cells ns ns.length) = fillS st i := by rw [← hst]; rfl
    rw [hs]
    refine ⟨_, tg_name, ?_⟩
    by_cases hlt : st.1.length < 50
    · have e2 : fillS st i = (st.1 ++ [(st.2 * 69621 + i + 1) % 2147483647 / 7 % 65521], (st.2 * 69621 + i + 1) % 2147483647) := by unfold fillS; rw [if_pos hlt]
      rw [e2]
      refine b_fg (ρ1 := rD ns (st.1 ++ [(st.2 * 69621 + i + 1) % 2147483647 / 7 % 65521], (st.2 * 69621 + i + 1) % 2147483647) none (some (.im (.int (i : Int)))) none) (s_one (s_ifT (xt_cmp op_lt (nomark _) (x_lenR (z_len c) (xr_mu (i := 2) rfl)) (x_var (i := 1) rfl) rd_B0) ?k1
        (s_cons (s_set (i := 3) (d := .int (((st.2 * 69621 + i + 1) % 2147483647 : Nat) : Int)) sc_u_law_draws.nd ((x_bin op_mod (x_int1 (z_int c) (x_bin op_add (x_bin op_add (x_bin op_mul (x_var (i := 3) rfl) x_int (rd_I (.inr (by decide)))) (x_var (i := 5) rfl) rd_I0) x_int rd_I0)) x_int (rd_I (by decide))).is ?k2))
        (s_one ?k3)))) ⟨.inr rfl, .inr rfl, .inr rfl, .inr rfl, .inr rfl, .inl rfl, .inr rfl, trivial⟩
      case k1 => rw [nt_len]; exact decide_eq_true (by omega)
      case k2 => congr 1
      case k3 =>
        refine b_fg (s_app (i := 2) (d := .int (((st.2 * 69621 + i + 1) % 2147483647 / 7 % 65521 : Nat) : Int)) (ds := nt st.1) rfl ((x_bin op_mod (x_bin op_fdiv (x_int1 (z_int c) (x_var (i := 3) rfl)) x_int (rd_I ⟨by decide, by decide⟩)) x_int (rd_I (by decide))).is ?k4) ?k5) ⟨.inr rfl, .inr rfl, .inr ?k6, .inr rfl, .inr rfl, .inr rfl, .inr rfl, trivial⟩
        case k4 => congr 1
        case k5 => rw [nt_len]; omega
        case k6 => show some (Sv.mu (nt (st.1 ++ [_]))) = some (Sv.mu (nt st.1 ++ [_])); unfold nt; rw [List.map_append]; rfl
    · have e2 : fillS st i = st := by unfold fillS; rw [if_neg hlt]
      rw [e2]
      exact b_fg (s_one (s_ifF (xt_cmp op_lt (nomark _) (x_lenR (z_len c) (xr_mu (i := 2) rfl)) (x_var (i := 1) rfl) rd_B0) (by rw [nt_len]; exact decide_eq_false (by omega)) s_nil)) ⟨.inr rfl, .inr rfl, .inr rfl, .inr rfl, .inr rfl, .inl rfl, .inr rfl, trivial⟩
  case l1 =>
    refine for_at (fun i => rD ns (cells ns i) none none none) ns.length (List.length_map ..) rfl rfl fun i d hi hd => ?_
    rw [List.getElem?_map, List.getElem?_eq_getElem hi] at hd
    have ed := Option.some.inj hd
    subst ed
    have hs := cells_succ (List.getElem?_eq_getElem hi)
    have hcl := cells_len ns i (by omega)
    rw [hs]
    generalize cells ns i = st at hcl
    generalize ns[i] = z
    generalize hm : z.natAbs = m
    have habs : (if z < 0 then -z else z) = (m : Int) := by split <;> omega
    refine ⟨_, tg_name, b_fg (ρ1 := rD ns (cellS st z) (some (.im (.int z))) none none)
      (s_cons (s_set (i := 6) (d := .int (m : Int)) sc_u_law_draws.nd ((x_abs (z_abs c) (x_var (i := 4) rfl)).is (by rw [habs])))
      (s_cons (s_set (i := 3) (d := .int ((seedS st.2 m : Nat) : Int)) sc_u_law_draws.nd ((x_bin op_mod (x_int1 (z_int c) (x_bin op_add (x_bin op_add (x_bin op_mul (x_var (i := 3) rfl) x_int (rd_I (.inr (by decide)))) (x_var (i := 6) rfl) rd_I0) x_int rd_I0)) x_int (rd_I (by decide))).is (by rw [seed_eq])))
      (s_one ?b1))) ⟨.inr rfl, .inr rfl, .inr rfl, .inr rfl, .inl rfl, .inr rfl, .inr rfl, trivial⟩⟩
    case b1 =>
      by_cases hbig : 10 ^ 18 ≤ m
      · have e2 : cellS st z = ((digs 60 (st.1, m)).1, seedS st.2 m) := by unfold cellS; rw [hm, if_pos hbig]
        rw [e2]
        refine s_ifT (xt_cmp op_ge (nomark _) (x_var (i := 6) rfl) (x_bin op_pow x_int x_int (rd_I ⟨by decide, by decide, by decide⟩)) rd_B0) ?k1 (s_one (b_fg (ρ1 := rD ns ((digs 60 (st.1, m)).1, seedS st.2 m) (some (.im (.int z))) none (some (.im (.int ((digs 60 (st.1, m)).2 : Int))))) (s_for (xi_range1 (z_range c) x_int) (pg_name (i := 5) sc_u_law_draws.nd rfl (Or.inl rfl)) (vs := [5]) ?l3) ⟨.inr rfl, .inr rfl, .inr rfl, .inr rfl, .inr rfl, .inr rfl, .inl rfl, trivial⟩))
        case k1 =>
          refine decide_eq_true ?_
          show (10 : Int) ^ 18 ≤ (m : Int)
          have : ((10 ^ 18 : Nat) : Int) ≤ (m : Int) := Int.ofNat_le.mpr hbig
          simpa using this
        case l3 =>
          refine for_at (fun j => rD ns ((digs j (st.1, m)).1, seedS st.2 m) (some (.im (.int z))) none (some (.im (.int ((digs j (st.1, m)).2 : Int))))) 60 (by rw [rgD_length]; rfl) rfl rfl fun j d hj hd => ?_
          have ed : d = .int (j : Int) := by
            rw [rgD_nt] at hd
            unfold nt at hd
            rw [List.getElem?_map, List.getElem?_range (by exact hj)] at hd
            exact (Option.some.inj hd).symm
          subst ed
          have hdl := digs_len (st.1, m) j
          simp only at hdl
          generalize hdg : digs j (st.1, m) = g at hdl
          have hgs : digs (j + 1) (st.1, m) = digS g := by rw [← hdg]; rfl
          rw [hgs]
          refine ⟨_, tg_name, ?_⟩
          by_cases hpos : 0 < g.2
          · have e3 : digS g = (g.1 ++ [g.2 % 1009], g.2 / 1009) := by unfold digS; rw [if_pos hpos]
            rw [e3]
            refine b_fg (ρ1 := rD ns (g.1 ++ [g.2 % 1009], seedS st.2 m) (some (.im (.int z))) (some (.im (.int (j : Int)))) (some (.im (.int ((g.2 / 1009 : Nat) : Int))))) (s_one (s_ifT (xt_cmp op_gt (nomark _) (x_var (i := 6) rfl) x_int rd_B0) (decide_eq_true (by omega))
              (s_cons (ρ1 := rD ns (g.1 ++ [g.2 % 1009], seedS st.2 m) (some (.im (.int z))) (some (.im (.int (j : Int)))) (some (.im (.int (g.2 : Int))))) ?k2 (s_one (s_set (i := 6) (d := .int ((g.2 / 1009 : Nat) : Int)) sc_u_law_draws.nd ((x_bin op_fdiv (x_var (i := 6) rfl) x_int (rd_I ⟨by decide, by decide⟩)).is ?k3)))))) ⟨.inr rfl, .inr rfl, .inr rfl, .inr rfl, .inr rfl, .inl rfl, .inr rfl, trivial⟩
            case k3 => congr 1
            case k2 =>
              refine b_fg (s_app (i := 2) (d := .int ((g.2 % 1009 : Nat) : Int)) (ds := nt g.1) rfl ((x_bin op_mod (x_int1 (z_int c) (x_var (i := 6) rfl)) x_int (rd_I (by decide))).is ?k4) ?k5) ⟨.inr rfl, .inr rfl, .inr ?k6, .inr rfl, .inr rfl, .inr rfl, .inr rfl, trivial⟩
              case k4 => congr 1
              case k5 => rw [nt_len]; omega
              case k6 => show some (Sv.mu (nt (g.1 ++ [_]))) = some (Sv.mu (nt g.1 ++ [_])); unfold nt; rw [List.map_append]; rfl
          · have e3 : digS g = g := by unfold digS; rw [if_neg hpos]
            rw [e3]
            exact b_fg (s_one (s_ifF (xt_cmp op_gt (nomark _) (x_var (i := 6) rfl) x_int rd_B0) (decide_eq_false (by omega)) s_nil)) ⟨.inr rfl, .inr rfl, .inr rfl, .inr rfl, .inr rfl, .inl rfl, .inr rfl, trivial⟩
      · have e2 : cellS st z = (st.1 ++ [(seedS st.2 m * 16807 + 5) / 3 % 65521], seedS st.2 m) := by unfold cellS; rw [hm, if_neg hbig]
        rw [e2]
        refine s_ifF (xt_cmp op_ge (nomark _) (x_var (i := 6) rfl) (x_bin op_pow x_int x_int (rd_I ⟨by decide, by decide, by decide⟩)) rd_B0) ?k1 (s_one ?k2)
        case k1 =>
          refine decide_eq_false ?_
          show ¬ (10 : Int) ^ 18 ≤ (m : Int)
          intro q
          apply hbig
          have : ((10 ^ 18 : Nat) : Int) ≤ (m : Int) := by simpa using q
          exact Int.ofNat_le.mp this
        case k2 =>
          refine b_fg (s_app (i := 2) (d := .int (((seedS st.2 m * 16807 + 5) / 3 % 65521 : Nat) : Int)) (ds := nt st.1) rfl ((x_bin op_mod (x_bin op_fdiv (x_int1 (z_int c) (x_bin op_add (x_bin op_mul (x_var (i := 3) rfl) x_int (rd_I (.inr (by decide)))) x_int rd_I0)) x_int (rd_I ⟨by decide, by decide⟩)) x_int (rd_I (by decide))).is ?k4) ?k5) ⟨.inr rfl, .inr rfl, .inr ?k6, .inr rfl, .inr rfl, .inr rfl, .inl rfl, trivial⟩
          case k4 => congr 1
          case k5 => rw [nt_len]; omega
          case k6 => show some (Sv.mu (nt (st.1 ++ [_]))) = some (Sv.mu (nt st.1 ++ [_])); unfold nt; rw [List.map_append]; rfl
end
end K82
/-! ## part V6 -/
/-! A tuple repeated once; is not, of bools; a list frozen behind the table. -/
namespace K82
open PySem PySem.Spec PyProof.Rows L2
open AutoSeq1 (wpAny_loadPart')
theorem tuple_mulW1 (l : Addr) (items : Array Value) (n : Nat) (dd : Option Addr) (sl : Array (Option Value)) (x : Int) (u : Tok) (c0 : (decide (x < -(2 ^ 63)) || decide (x ≥ 2 ^ 63)) = false) (c1 : (items.isEmpty || x == 1) = true) :
    Meets (Builtin.«tuple.__mul__» ⟨[.ref l, .int x u], []⟩) (fun _ R s => s.heap.get? l = some { cls := .type "tuple", dict := dd, data := .seq items n, slots := sl } ∧ R (.ok (.ret (Value.ref l))) s) :=
  .of_wp fun prog w A R s h => by
    obtain ⟨hp, g, d, tk, os⟩ := s
    obtain ⟨hl, h⟩ := h
    have f1 := AutoSeq1.idx_int
    wp_walk using wpAny_loadPart' hl
    repeat (first
      | (refine wpAny_ite_false (decide_eq_false (by rw [c0]; exact Bool.false_ne_true)) ?_; wp_walk using wpAny_loadPart' hl)
      | (refine wpAny_ite_true (decide_eq_true c1) ?_; wp_walk using wpAny_loadPart' hl))
    exact ⟨_, rfl, h⟩
def rRep1 (K : PySem.W.Frag) : R2 := fun x y H Q => ∃ l xs, x = .ref l ∧ y = .int 1 ∧ SqT K H l xs ∧ Q (.ref l) H
section
variable {X : Cx}
theorem op_rep1 : OpR X (binaryOp .Mult) (rRep1 X.K) := by
  intro pins s σ H x y v u Q I rx ry h
  obtain ⟨l, xs, rfl, rfl, hT, q⟩ := h
  cases rx
  obtain ⟨t, rfl⟩ := ry
  obtain ⟨its, r, ⟨⟨cls, dd, data, sl⟩, ho, hc, n, hd⟩, hs⟩ := I.tuple hT
  simp only at hc hd
  subst hc hd
  refine wpAny_binaryOp_repeat_ref (T := "tuple") (U := "int") (by decide) ⟨_, ho, rfl⟩ (fun s' => typeIs_int s' 1 t) noFill_tuple_mul F.fills_int_mul F.slot_int_rmul repeat_tuple F.slot_int_index.lookup
    (call_meets F.slot_int_rmul (typeIs_int s 1 t) F.entry_int_rmul (F.args_int_rmul_2 _ _) (int_rmul_tuple 1 t l its.toArray n dd sl)
      ⟨ho, rfl, ⟨_, ho, rfl⟩, call_meets F.slot_tuple_mul ⟨_, ho, rfl⟩ F.entry_tuple_mul (F.args_tuple_mul_2 _ _) (tuple_mulW1 l its.toArray n dd sl 1 t (by decide) (by simp)) ⟨ho, ?_⟩⟩)
  exact ⟨.ref l, H, I, rfl, q⟩
theorem rd_notB {K : PySem.W.Frag} {k1 k2 : Bool} : RD K rNotB (.bl k1) (.bl k2) (.bl (!decide (k1 = k2))) := fun F H x y e h1 h2 Q q => by
  simp only [Den] at h1 h2
  exact ⟨k1, k2, h1, h2, q _ F H (Gr.refl e) (by simp only [Den])⟩
variable {ρ ρ1 ρ2 : Rho} {a b e : Expr} {es : List Expr} {pos p : Pos} {d d1 d2 : Dt} {ds : List Dt} {sts : List Stmt} {o : Out} {P : Addr}
/-- a tuple repeated -/
theorem x_repA {i : Int} (ha : XE X a ρ (.tup ds)) (hb : XE X b ρ (.int i)) (h0 : 1 ≤ i) (h1 : i ≤ 1000) (hl : ds.length ≤ 1000) (hne : ds ≠ []) : XE X (.BinOp a .Mult b pos) ρ (.tup (List.replicate i.toNat ds).flatten) := by
  by_cases h : i = 1
  · subst h
    have e1 : (List.replicate (1 : Int).toNat ds).flatten = ds := by simp
    rw [e1]
    exact EvD.of (pe_op op_rep1 pe_wp pe_wp) fun F0 H0 F H σ S Q q => ha F0 H0 F H σ S _ fun x F2 H2 g1 k1 => hb F0 H0 F2 H2 σ (S.mono g1) _ fun y F3 H3 g2 k2 => by
      have k1' := Den.mono g2.f _ k1
      have k3 := k1'
      simp only [Den] at k1' k2
      obtain ⟨l, xs, rfl, k4, k5⟩ := k1'
      exact ⟨l, xs, rfl, k2, ex_t g2.s k4, q _ F3 H3 (g1.trans g2) k3⟩
  · exact x_repT ha hb (by omega) h1 hl hne
theorem x_ones {n : Nat} (ha : XE X a ρ (.tup [.int 1])) (hb : XE X b ρ (.int n)) (h0 : 1 ≤ n) (h1 : n ≤ 6) : XE X (.BinOp a .Mult b pos) ρ (.tup (nt (List.replicate n 1))) := by
  have h := x_repA (pos := pos) ha hb (by omega) (by omega) (by decide) (by simp)
  have e : (List.replicate ((n : Int)).toNat [Dt.int 1]).flatten = nt (List.replicate n 1) := by
    rw [Int.toNat_natCast]
    clear h hb h0 h1
    induction n with
    | zero => rfl
    | succ n ih =>
      have e2 : nt (List.replicate (n + 1) 1) = Dt.int 1 :: nt (List.replicate n 1) := by unfold nt; rw [List.replicate_succ, List.map_cons]; rfl
      rw [List.replicate_succ, List.flatten_cons, ih, e2]; rfl
  rw [e] at h
  exact h
theorem x_empties {n : Nat} (ha : XE X a ρ (.tup [.tup []])) (hb : XE X b ρ (.int n)) (h0 : 1 ≤ n) (h1 : n ≤ 6) : XE X (.BinOp a .Mult b pos) ρ (.tup (rowsD (List.replicate n []))) := by
  have h := x_repA (pos := pos) ha hb (by omega) (by omega) (by decide) (by simp)
  have e : (List.replicate ((n : Int)).toNat [Dt.tup []]).flatten = rowsD (List.replicate n []) := by
    rw [Int.toNat_natCast]
    unfold rowsD
    clear h hb h0 h1
    induction n with
    | zero => rfl
    | succ n ih => rw [List.replicate_succ, List.flatten_cons, List.replicate_succ, List.map_cons, ih]; rfl
  rw [e] at h
  exact h
theorem sT_freeze (i : Nat) (e : ρ[i]? = some (some (.mu ds))) (h : XSsT X P sts (ρ.set i (some (.im (.lst ds)))) o) : XSsT X P sts ρ o := fun F0 H0 F H σ D f0 t0 S q => by
  obtain ⟨v, h1, l, xs, rfl, h3, h4, h5, h6⟩ := S.ok i _ e
  obtain ⟨gr, S2⟩ := S.freeze e rfl h1 h5 (d := .lst ds) (den_lst upd_same (h6.mono (Ex.new h4)))
  exact h F0 H0 _ H σ D f0 t0 S2 (q.mono (Ex.new h4))
/-- if c: return ..; the rest -/
theorem sT_ifR {c : Expr} {sts rest : List Stmt} {k : Bool} (hc : XT X c ρ k) (h1 : k = true → XSs X sts ρ o) (r : o.ret = true) (h2 : k = false → XSsT X P rest ρ o) : XSsT X P (.If c sts [] pos :: rest) ρ o := by
  cases k with
  | true => exact BsD.t (s_end (s_ifT hc rfl (h1 rfl)) r)
  | false => exact sT_cons (BsD.t (s_ifF hc rfl s_nil)) (h2 rfl)
end
end K82
/-! ## part Z -/
set_option maxRecDepth 1000000
/-! The plain law: what the walks compute agrees, over all states of up to six cells. -/
namespace K82
open PySem PySem.Spec PyProof.Rows L2
/-! ### all states -/
def AL : Nat → List (List Nat)
  | 0 => [[0]]
  | i + 1 => longerL (AL i) (i + 1)
theorem AL_mem : ∀ (i : Nat) (s : List Nat), s.Perm (List.range (i + 1)) → s ∈ AL i
  | 0, s, h => by
    have e : s = [0] := List.perm_singleton.mp h
    subst e
    exact List.mem_singleton.mpr rfl
  | i + 1, s, h => by
    have hm : i + 1 ∈ s := h.mem_iff.mpr (List.mem_range.mpr (by omega))
    obtain ⟨l1, l2, rfl⟩ := List.append_of_mem hm
    have h2 : (l1 ++ l2).Perm (List.range (i + 1)) := by
      have a1 : (l1 ++ (i + 1) :: l2).Perm ((i + 1) :: (l1 ++ l2)) := List.perm_middle
      have a2 : (List.range (i + 2)).Perm ((i + 1) :: List.range (i + 1)) := by
        rw [List.range_succ (n := i + 1)]
        exact List.perm_append_comm (l₂ := [i + 1])
      exact ((a1.symm.trans h).trans a2).cons_inv
    refine List.mem_flatMap.mpr ⟨l1 ++ l2, AL_mem i _ h2, List.mem_map.mpr ⟨l1.length, List.mem_range.mpr (by rw [List.length_append]; omega), ?_⟩⟩
    rw [List.take_left', List.drop_left', List.append_assoc]
    · rfl
    · rfl
    · rfl
theorem pm_AL {n : Nat} {s : List Nat} (h : Pm n s) : s ∈ AL (n - 1) := AL_mem _ _ (by
  have := h.perm
  rw [show n - 1 + 1 = n by have := h.pos; omega]
  exact this)
def chkF (n : Nat) : Bool := (AL (n - 1)).all fun s => faultL s n == faultS (lev s) n && (List.range (n - 1)).all fun k => showL s k == showS (lev s) k
theorem chkF_ok : ∀ n, n < 7 → chkF n = true := by decide +kernel
theorem z_faultL {n : Nat} {s : List Nat} (h : Pm n s) : faultL s n = faultS (lev s) n := by
  have h1 := chkF_ok n (by have := h.le; omega)
  have h2 := List.all_eq_true.mp h1 s (pm_AL h)
  rw [Bool.and_eq_true] at h2
  exact eq_of_beq h2.1
theorem z_show {n : Nat} {s : List Nat} (h : Pm n s) {k : Nat} (hk : k < n - 1) : showL s k = showS (lev s) k := by
  have h1 := chkF_ok n (by have := h.le; omega)
  have h2 := List.all_eq_true.mp h1 s (pm_AL h)
  rw [Bool.and_eq_true] at h2
  exact eq_of_beq (List.all_eq_true.mp h2.2 k (List.mem_range.mpr hk))
/-! ### crossings, seen from both sides -/
theorem cross_eq (lv : List Nat) (f g : Nat) : crossM lv f g = crossS lv f g := by
  unfold crossM crossS
  by_cases hp : f % 2 = g % 2
  · have hp' : ¬ (f + 1) % 2 ≠ (g + 1) % 2 := by omega
    rw [if_neg hp', decide_eq_true hp, Bool.true_and]
    generalize lv.getD f 0 = a
    generalize lv.getD (f + 1) 0 = b
    generalize lv.getD g 0 = c
    generalize lv.getD (g + 1) 0 = d
    show decide (([c, d].filter (within a b)).length = 1) = (within a b c != within a b d)
    cases h1 : within a b c <;> cases h2 : within a b d <;> simp [List.filter, h1, h2]
  · have hp' : (f + 1) % 2 ≠ (g + 1) % 2 := by omega
    rw [if_pos hp', decide_eq_false hp, Bool.false_and]
theorem faultM_eq (lv : List Nat) (n : Nat) : faultM lv n = faultS lv n := by
  unfold faultM faultS
  simp only [cross_eq]
theorem z_faultM {n : Nat} {s : List Nat} (h : Pm n s) : faultM (lev s) n = faultS (lev s) n := faultM_eq _ _
/-! ### creases shown as told -/
theorem told_range {told : List Nat} {m : Nat} (h : told.length = m) : told = (List.range m).map fun k => told.getD k 0 := by
  apply List.ext_getElem?
  intro i
  rw [List.getElem?_map]
  by_cases hi : i < m
  · rw [List.getElem?_range hi]
    exact getD_get (by omega)
  · rw [List.getElem?_eq_none (by omega), List.getElem?_eq_none (by rw [List.length_range]; omega)]
    rfl
theorem zip_range (f g : Nat → Nat) : ∀ (m : Nat), ((List.range m).map f).zip ((List.range m).map g) = (List.range m).map fun k => (f k, g k) := fun m => by
  rw [List.zip_map']
theorem zipIdx_range {α : Type} (f : Nat → α) (m : Nat) : ((List.range m).map f).zipIdx = (List.range m).map fun k => (f k, k) := by
  apply List.ext_getElem?
  intro i
  rw [List.getElem?_zipIdx, List.getElem?_map, List.getElem?_map]
  by_cases hi : i < m
  · rw [List.getElem?_range hi]
    simp
  · rw [List.getElem?_eq_none (by rw [List.length_range]; omega)]
    rfl
theorem bad_eq {told lv : List Nat} {n : Nat} (h : told.length = n - 1) : badS told (shownS lv n) = badM told lv n := by
  unfold badS badM shownS
  conv => lhs; rw [told_range h]
  rw [zip_range, zipIdx_range, List.findSome?_map]
  rfl
theorem z_keep {n : Nat} {s told : List Nat} (h : Pm n s) (ht : Td n told) : (keepS told (lev s) n).isN = (keepM told (lev s) n).isN := by
  unfold keepS keepM
  rw [faultM_eq, bad_eq ht.len]
  cases faultS (lev s) n with
  | some p => rfl
  | none => cases badM told (lev s) n <;> rfl
def okL (told s : List Nat) (n : Nat) : Bool := (List.range (n - 1)).all fun k => told.getD k 0 == 2 || told.getD k 0 == showL s k
theorem bad_none {n : Nat} {s told : List Nat} (h : Pm n s) (ho : okL told s n = true) : badM told (lev s) n = none := by
  unfold badM
  refine List.findSome?_eq_none_iff.mpr fun k hk => ?_
  have h1 := List.all_eq_true.mp ho k hk
  rw [z_show h (List.mem_range.mp hk)] at h1
  rw [if_pos h1]
theorem keepM_none {n : Nat} {s told : List Nat} (h : Pm n s) (hf : faultL s n = none) (ho : okL told s n = true) : keepM told (lev s) n = .non := by
  unfold keepM
  rw [faultM_eq, ← z_faultL h, hf]
  simp only [bad_none h ho]
  rfl
theorem keepS_none {n : Nat} {s told : List Nat} (h : Pm n s) (ht : Td n told) (hf : faultL s n = none) (ho : okL told s n = true) : keepS told (lev s) n = .non := by
  unfold keepS
  rw [← z_faultL h, hf]
  simp only [bad_eq ht.len, bad_none h ho]
  rfl
/-! ### the search, without what is told -/
def ug (n : Nat) (cells : List Nat) (cell : Nat) : Bool := (nearL n cell).any fun p => cells.reverse.any fun b => isUn cells n cell p.1 b
def cg (told : List Nat) (n : Nat) (cells : List Nat) (cell : Nat) : Bool := (nearL n cell).any fun p => isCr told cells n cell p.1
def everyU (n : Nat) : Nat → List Nat → List (List Nat)
  | 0, cells => [cells]
  | m + 1, cells => (leftL n cells).flatMap fun cell => if ug n cells cell then [] else everyU n m (cells ++ [cell])
def okT (told : List Nat) (n : Nat) : List Nat → List Nat → Bool
  | _, [] => true
  | cells, x :: t => !cg told n cells x && okT told n (cells ++ [x]) t
theorem everyU_pre (n : Nat) : ∀ (m : Nat) (cells s : List Nat), s ∈ everyU n m cells → ∃ t, s = cells ++ t
  | 0, cells, s, h => ⟨[], by rw [List.append_nil]; exact List.mem_singleton.mp h⟩
  | m + 1, cells, s, h => by
    obtain ⟨x, _, hx⟩ := List.mem_flatMap.mp h
    split at hx
    · cases hx
    · obtain ⟨t, rfl⟩ := everyU_pre n m _ s hx
      exact ⟨[x] ++ t, by rw [List.append_assoc]⟩
theorem every_filter (told : List Nat) (n : Nat) : ∀ (m : Nat) (cells : List Nat), everyM told n m cells = (everyU n m cells).filter fun s => okT told n cells (s.drop cells.length)
  | 0, cells => by
    show [cells] = [cells].filter _
    rw [List.filter_cons_of_pos (by simp [okT])]
    rfl
  | m + 1, cells => by
    show (leftL n cells).flatMap _ = ((leftL n cells).flatMap _).filter _
    rw [List.filter_flatMap]
    congr 1
    funext x
    show (if (cg told n cells x || ug n cells x) then [] else everyM told n m (cells ++ [x])) = _
    rw [every_filter told n m (cells ++ [x])]
    cases hu : ug n cells x with
    | true => rw [Bool.or_true]; rfl
    | false =>
      rw [Bool.or_false]
      simp only [Bool.false_eq_true, if_false]
      have key : ∀ s ∈ everyU n m (cells ++ [x]), okT told n cells (s.drop cells.length) = (!cg told n cells x && okT told n (cells ++ [x]) (s.drop (cells ++ [x]).length)) := fun s hs => by
        obtain ⟨t, rfl⟩ := everyU_pre n m _ s hs
        have e1 : (cells ++ [x] ++ t).drop cells.length = x :: t := by rw [List.append_assoc, List.drop_left]; rfl
        have e2 : (cells ++ [x] ++ t).drop (cells ++ [x]).length = t := List.drop_left
        rw [e1, e2]
        rfl
      rw [List.filter_congr key]
      cases cg told n cells x with
      | true => simp
      | false => simp
/-- what the creases must be told as: the crease, and whether it may not be V -/
def crT (n : Nat) : List Nat → List Nat → List (Nat × Bool)
  | _, [] => []
  | cells, x :: t => ((nearL n x).filter fun p => !cells.contains p.1).map (fun p => (p.2, decide (x % 2 = 1))) ++ crT n (cells ++ [x]) t
def tol (told : List Nat) (e : Nat × Bool) : Bool := told.getD e.1 0 == 2 || !((told.getD e.1 0 == 1) == e.2)
theorem cr_near (told cells : List Nat) (n cell : Nat) : ∀ p ∈ nearL n cell, isCr told cells n cell p.1 = (!cells.contains p.1 && !tol told (p.2, decide (cell % 2 = 1))) := by
  intro p hp
  unfold isCr tol
  cases hc : cells.contains p.1 with
  | true => rfl
  | false =>
    simp only [Bool.false_eq_true, if_false, Bool.not_false, Bool.true_and]
    have two : ∀ (t : Nat) (b : Bool), ((if (true && !(t == 2)) = true then some ((t == 1) == b) else none) : Option Bool).getD false = !(t == 2 || !((t == 1) == b)) := fun t b => by
      cases t == 2 <;> cases (t == 1) == b <;> rfl
    unfold nearL at hp ⊢
    by_cases h0 : 0 < cell
    · rw [if_pos h0] at hp ⊢
      by_cases h1 : cell + 1 < n
      · rw [if_pos h1] at hp ⊢
        have hp' : p = (cell - 1, cell - 1) ∨ p = (cell + 1, cell) := by simpa using hp
        rcases hp' with rfl | rfl
        · have e1 : (cell + 1 == cell - 1) = false := beq_eq_false_iff_ne.mpr (by omega)
          rw [← two]
          simp only [List.cons_append, List.nil_append, List.findSome?_cons, List.findSome?_nil, beq_self_eq_true, e1, Bool.false_and, Bool.false_eq_true, if_false]
          cases (told.getD (cell - 1) 0 == 2) <;> rfl
        · have e1 : (cell - 1 == cell + 1) = false := beq_eq_false_iff_ne.mpr (by omega)
          rw [← two]
          simp only [List.cons_append, List.nil_append, List.findSome?_cons, List.findSome?_nil, beq_self_eq_true, e1, Bool.false_and, Bool.false_eq_true, if_false]
          cases (told.getD cell 0 == 2) <;> rfl
      · rw [if_neg h1] at hp ⊢
        have hp' : p = (cell - 1, cell - 1) := by simpa using hp
        subst hp'
        rw [← two]
        simp only [List.append_nil, List.findSome?_cons, List.findSome?_nil, beq_self_eq_true]
        cases (told.getD (cell - 1) 0 == 2) <;> rfl
    · rw [if_neg h0] at hp ⊢
      by_cases h1 : cell + 1 < n
      · rw [if_pos h1] at hp ⊢
        have hp' : p = (cell + 1, cell) := by simpa using hp
        subst hp'
        rw [← two]
        simp only [List.nil_append, List.findSome?_cons, List.findSome?_nil, beq_self_eq_true]
        cases (told.getD cell 0 == 2) <;> rfl
      · rw [if_neg h1] at hp
        cases hp
theorem cg_all (told cells : List Nat) (n x : Nat) : (!cg told n cells x) = (((nearL n x).filter fun p => !cells.contains p.1).map (fun p => (p.2, decide (x % 2 = 1)))).all (tol told) := by
  unfold cg
  rw [List.all_map, List.all_filter, List.not_any_eq_all_not]
  have := cr_near told cells n x
  generalize nearL n x = l at this
  induction l with
  | nil => rfl
  | cons p l ih =>
    rw [List.all_cons, List.all_cons, ih fun q hq => this q (List.mem_cons_of_mem _ hq), this p List.mem_cons_self]
    congr 1
    show (!(!cells.contains p.1 && !tol told (p.2, decide (x % 2 = 1)))) = (!(!cells.contains p.1) || tol told (p.2, decide (x % 2 = 1)))
    cases cells.contains p.1 <;> cases tol told (p.2, decide (x % 2 = 1)) <;> rfl
theorem okT_all (told : List Nat) (n : Nat) : ∀ (t cells : List Nat), okT told n cells t = (crT n cells t).all (tol told)
  | [], _ => rfl
  | x :: t, cells => by
    show (!cg told n cells x && okT told n (cells ++ [x]) t) = _
    rw [cg_all, okT_all told n t (cells ++ [x])]
    show _ = (_ ++ crT n (cells ++ [x]) t).all (tol told)
    rw [List.all_append]
/-! ### the states that can be, in order -/
def UL1 : List (List Nat) := [[0]]
def UL2 : List (List Nat) := [[0, 1], [1, 0]]
def UL3 : List (List Nat) := [[0, 1, 2], [0, 2, 1], [1, 0, 2], [1, 2, 0], [2, 0, 1], [2, 1, 0]]
def UL4 : List (List Nat) := [[0, 1, 2, 3], [0, 1, 3, 2], [0, 2, 3, 1], [0, 3, 2, 1], [1, 0, 2, 3], [1, 0, 3, 2], [1, 2, 3, 0], [1, 3, 2, 0], [2, 0, 1, 3], [2, 1, 0, 3], [2, 3, 0, 1], [2, 3, 1, 0],
  [3, 0, 1, 2], [3, 1, 0, 2], [3, 2, 0, 1], [3, 2, 1, 0]]
def UL5 : List (List Nat) := [[0, 1, 2, 3, 4], [0, 1, 2, 4, 3], [0, 1, 3, 4, 2], [0, 1, 4, 3, 2], [0, 2, 3, 4, 1], [0, 2, 4, 3, 1], [0, 3, 2, 1, 4], [0, 3, 4, 2, 1], [0, 4, 1, 2, 3], [0, 4, 3, 2, 1],
  [1, 0, 2, 3, 4], [1, 0, 2, 4, 3], [1, 0, 3, 4, 2], [1, 0, 4, 3, 2], [1, 2, 3, 0, 4], [1, 2, 3, 4, 0], [1, 2, 4, 3, 0], [1, 3, 4, 2, 0], [1, 4, 0, 3, 2], [1, 4, 3, 2, 0], [2, 0, 1, 3, 4],
  [2, 0, 1, 4, 3], [2, 1, 0, 3, 4], [2, 1, 0, 4, 3], [2, 1, 4, 0, 3], [2, 3, 0, 4, 1], [2, 3, 4, 0, 1], [2, 3, 4, 1, 0], [2, 4, 3, 0, 1], [2, 4, 3, 1, 0], [3, 0, 1, 2, 4], [3, 0, 4, 1, 2],
  [3, 1, 0, 2, 4], [3, 2, 0, 1, 4], [3, 2, 1, 0, 4], [3, 2, 1, 4, 0], [3, 4, 0, 1, 2], [3, 4, 1, 0, 2], [3, 4, 2, 0, 1], [3, 4, 2, 1, 0], [4, 0, 1, 2, 3], [4, 0, 3, 2, 1], [4, 1, 0, 2, 3],
  [4, 1, 2, 3, 0], [4, 2, 0, 1, 3], [4, 2, 1, 0, 3], [4, 3, 0, 1, 2], [4, 3, 1, 0, 2], [4, 3, 2, 0, 1], [4, 3, 2, 1, 0]]
def UL6 : List (List Nat) := [[0, 1, 2, 3, 4, 5], [0, 1, 2, 3, 5, 4], [0, 1, 2, 4, 5, 3], [0, 1, 2, 5, 4, 3], [0, 1, 3, 4, 5, 2], [0, 1, 3, 5, 4, 2], [0, 1, 4, 3, 2, 5], [0, 1, 4, 5, 3, 2],
  [0, 1, 5, 2, 3, 4], [0, 1, 5, 4, 3, 2], [0, 2, 3, 4, 5, 1], [0, 2, 3, 5, 4, 1], [0, 2, 4, 5, 3, 1], [0, 2, 5, 4, 3, 1], [0, 3, 2, 1, 4, 5], [0, 3, 2, 1, 5, 4], [0, 3, 4, 5, 2, 1],
  [0, 3, 5, 4, 2, 1], [0, 4, 3, 2, 5, 1], [0, 4, 5, 1, 2, 3], [0, 4, 5, 3, 2, 1], [0, 5, 2, 3, 4, 1], [0, 5, 4, 1, 2, 3], [0, 5, 4, 3, 2, 1], [1, 0, 2, 3, 4, 5], [1, 0, 2, 3, 5, 4],
  [1, 0, 2, 4, 5, 3], [1, 0, 2, 5, 4, 3], [1, 0, 3, 4, 5, 2], [1, 0, 3, 5, 4, 2], [1, 0, 4, 3, 2, 5], [1, 0, 4, 5, 3, 2], [1, 0, 5, 2, 3, 4], [1, 0, 5, 4, 3, 2], [1, 2, 3, 0, 4, 5],
  [1, 2, 3, 0, 5, 4], [1, 2, 3, 4, 5, 0], [1, 2, 3, 5, 4, 0], [1, 2, 4, 5, 3, 0], [1, 2, 5, 4, 3, 0], [1, 3, 4, 5, 2, 0], [1, 3, 5, 4, 2, 0], [1, 4, 3, 2, 5, 0], [1, 4, 5, 0, 3, 2],
  [1, 4, 5, 3, 2, 0], [1, 5, 2, 3, 4, 0], [1, 5, 4, 0, 3, 2], [1, 5, 4, 3, 2, 0], [2, 0, 1, 3, 4, 5], [2, 0, 1, 3, 5, 4], [2, 0, 1, 4, 5, 3], [2, 0, 1, 5, 4, 3], [2, 1, 0, 3, 4, 5],
  [2, 1, 0, 3, 5, 4], [2, 1, 0, 4, 5, 3], [2, 1, 0, 5, 4, 3], [2, 1, 4, 5, 0, 3], [2, 1, 5, 4, 0, 3], [2, 3, 0, 4, 5, 1], [2, 3, 0, 5, 4, 1], [2, 3, 4, 0, 1, 5], [2, 3, 4, 1, 0, 5],
  [2, 3, 4, 5, 0, 1], [2, 3, 4, 5, 1, 0], [2, 3, 5, 4, 0, 1], [2, 3, 5, 4, 1, 0], [2, 4, 5, 3, 0, 1], [2, 4, 5, 3, 1, 0], [2, 5, 0, 1, 4, 3], [2, 5, 1, 0, 4, 3], [2, 5, 4, 3, 0, 1],
  [2, 5, 4, 3, 1, 0], [3, 0, 1, 2, 4, 5], [3, 0, 1, 2, 5, 4], [3, 0, 4, 5, 1, 2], [3, 0, 5, 4, 1, 2], [3, 1, 0, 2, 4, 5], [3, 1, 0, 2, 5, 4], [3, 2, 0, 1, 4, 5], [3, 2, 0, 1, 5, 4],
  [3, 2, 1, 0, 4, 5], [3, 2, 1, 0, 5, 4], [3, 2, 1, 4, 5, 0], [3, 2, 1, 5, 4, 0], [3, 2, 5, 0, 1, 4], [3, 2, 5, 1, 0, 4], [3, 4, 0, 1, 5, 2], [3, 4, 1, 0, 5, 2], [3, 4, 5, 0, 1, 2],
  [3, 4, 5, 1, 0, 2], [3, 4, 5, 2, 0, 1], [3, 4, 5, 2, 1, 0], [3, 5, 4, 0, 1, 2], [3, 5, 4, 1, 0, 2], [3, 5, 4, 2, 0, 1], [3, 5, 4, 2, 1, 0], [4, 0, 1, 2, 3, 5], [4, 0, 1, 5, 2, 3],
  [4, 0, 3, 2, 1, 5], [4, 1, 0, 2, 3, 5], [4, 1, 0, 5, 2, 3], [4, 1, 2, 3, 0, 5], [4, 2, 0, 1, 3, 5], [4, 2, 1, 0, 3, 5], [4, 3, 0, 1, 2, 5], [4, 3, 1, 0, 2, 5], [4, 3, 2, 0, 1, 5],
  [4, 3, 2, 1, 0, 5], [4, 3, 2, 5, 0, 1], [4, 3, 2, 5, 1, 0], [4, 5, 0, 1, 2, 3], [4, 5, 0, 3, 2, 1], [4, 5, 1, 0, 2, 3], [4, 5, 1, 2, 3, 0], [4, 5, 2, 0, 1, 3], [4, 5, 2, 1, 0, 3],
  [4, 5, 3, 0, 1, 2], [4, 5, 3, 1, 0, 2], [4, 5, 3, 2, 0, 1], [4, 5, 3, 2, 1, 0], [5, 0, 1, 2, 3, 4], [5, 0, 1, 4, 3, 2], [5, 0, 3, 2, 1, 4], [5, 1, 0, 2, 3, 4], [5, 1, 0, 4, 3, 2],
  [5, 1, 2, 3, 0, 4], [5, 2, 0, 1, 3, 4], [5, 2, 1, 0, 3, 4], [5, 2, 3, 4, 0, 1], [5, 2, 3, 4, 1, 0], [5, 3, 0, 1, 2, 4], [5, 3, 1, 0, 2, 4], [5, 3, 2, 0, 1, 4], [5, 3, 2, 1, 0, 4],
  [5, 4, 0, 1, 2, 3], [5, 4, 0, 3, 2, 1], [5, 4, 1, 0, 2, 3], [5, 4, 1, 2, 3, 0], [5, 4, 2, 0, 1, 3], [5, 4, 2, 1, 0, 3], [5, 4, 3, 0, 1, 2], [5, 4, 3, 1, 0, 2], [5, 4, 3, 2, 0, 1],
  [5, 4, 3, 2, 1, 0]]
def UL : Nat → List (List Nat)
  | 1 => UL1
  | 2 => UL2
  | 3 => UL3
  | 4 => UL4
  | 5 => UL5
  | 6 => UL6
  | _ => []
theorem UL_ok : ∀ n, n < 6 → everyU (n + 1) (n + 1) [] = UL (n + 1) := by decide +kernel
theorem RL_UL : ∀ n, n < 6 → (RL n).isPerm (UL (n + 1)) = true := by decide +kernel
def adj : List (List Nat) → Bool
  | a :: b :: l => leS a b && adj (b :: l)
  | _ => true
theorem UL_adj : ∀ n, n < 6 → adj (UL (n + 1)) = true := by decide +kernel
def chkC (n : Nat) : Bool := (UL n).all fun s => (crT n [] s).all (fun e => decide (e.1 < n - 1) && (e.2 == (showL s e.1 == 0))) && (List.range (n - 1)).all fun k => (crT n [] s).any fun e => e.1 == k
theorem chkC_ok : ∀ n, n < 7 → chkC n = true := by decide +kernel
def bins : Nat → List (List Nat)
  | 0 => [[]]
  | k + 1 => (bins k).flatMap fun t => [0 :: t, 1 :: t]
def chkP (n : Nat) : Bool := (bins (n - 1)).all fun t => (UL n).contains (pileL n t (n - 1)) && okL t (pileL n t (n - 1)) n
theorem chkP_ok : ∀ n, n < 6 → chkP (n + 1) = true := by decide +kernel
theorem bins_mem : ∀ (m : Nat) (t : List Nat), t.length = m → (∀ x ∈ t, x < 2) → t ∈ bins m
  | 0, t, h, _ => by
    have e : t = [] := List.length_eq_zero_iff.mp h
    subst e
    exact List.mem_singleton.mpr rfl
  | m + 1, [], h, _ => by cases h
  | m + 1, x :: t, h, hx => by
    refine List.mem_flatMap.mpr ⟨t, bins_mem m t (by simpa using h) (fun y hy => hx y (List.mem_cons_of_mem _ hy)), ?_⟩
    have := hx x List.mem_cons_self
    rcases (by omega : x = 0 ∨ x = 1) with rfl | rfl
    · exact List.mem_cons_self
    · exact List.mem_cons_of_mem _ List.mem_cons_self
theorem leS_trans (a b c : List Nat) (h1 : leS a b = true) (h2 : leS b c = true) : leS a c = true := by
  unfold leS at *
  exact decide_eq_true (List.le_trans (of_decide_eq_true h1) (of_decide_eq_true h2))
theorem leS_total (a b : List Nat) : (leS a b || leS b a) = true := by
  unfold leS
  rcases List.le_total (icast a) (icast b) with h | h
  · rw [decide_eq_true h]; rfl
  · rw [decide_eq_true h, Bool.or_true]
theorem icast_inj {a b : List Nat} (h : icast a = icast b) : a = b := by
  unfold icast at h
  exact (List.map_inj_right (fun x y h => by omega)).mp h
theorem leS_anti (a b : List Nat) (h1 : leS a b = true) (h2 : leS b a = true) : a = b := by
  unfold leS at *
  exact icast_inj (List.le_antisymm (of_decide_eq_true h1) (of_decide_eq_true h2))
theorem adj_sorted : ∀ l : List (List Nat), adj l = true → l.Pairwise fun a b => leS a b = true
  | [], _ => .nil
  | [a], _ => List.pairwise_singleton ..
  | a :: b :: l, h => by
    unfold adj at h
    rw [Bool.and_eq_true] at h
    have ih := adj_sorted (b :: l) h.2
    refine List.pairwise_cons.mpr ⟨fun x hx => ?_, ih⟩
    rcases List.mem_cons.mp hx with rfl | hx
    · exact h.1
    · exact leS_trans a b x h.1 ((List.pairwise_cons.mp ih).1 x hx)
theorem sort_is {l m : List (List Nat)} (hp : l.Perm m) (hs : l.Pairwise fun a b => leS a b = true) : l = m.mergeSort leS := by
  have h2 : (m.mergeSort leS).Perm m := List.mergeSort_perm _ _
  have s2 : (m.mergeSort leS).Pairwise fun a b => leS a b = true := List.pairwise_mergeSort leS_trans leS_total m
  exact List.Perm.eq_of_pairwise (fun a b _ _ h1 h2 => leS_anti a b h1 h2) hs s2 (hp.trans h2.symm)
theorem tol_eq (t sh : Nat) (ht : t < 3) (hs : sh < 2) : (t == 2 || !((t == 1) == (sh == 0))) = (t == 2 || t == sh) := by
  have : ∀ t < 3, ∀ sh < 2, (t == 2 || !((t == 1) == (sh == 0))) = (t == 2 || t == sh) := by decide
  exact this t ht sh hs
theorem showL_lt (s : List Nat) (k : Nat) : showL s k < 2 := by unfold showL; split <;> decide
theorem td_get {n : Nat} {told : List Nat} (ht : Td n told) (k : Nat) : told.getD k 0 < 3 := by
  by_cases h : k < told.length
  · exact ht.lt _ (List.mem_of_getElem? (getD_get h))
  · rw [List.getD_eq_getElem?_getD, List.getElem?_eq_none (by omega)]; decide
theorem okT_okL {n : Nat} {told s : List Nat} (ht : Td n told) (hs : s ∈ UL n) : okT told n [] s = okL told s n := by
  have h1 := chkC_ok n (by have := ht.le; omega)
  have h2 := List.all_eq_true.mp h1 s hs
  rw [Bool.and_eq_true] at h2
  rw [okT_all]
  have e1 : ∀ e ∈ crT n [] s, e.1 < n - 1 ∧ tol told e = (told.getD e.1 0 == 2 || told.getD e.1 0 == showL s e.1) := fun e he => by
    have h3 := List.all_eq_true.mp h2.1 e he
    rw [Bool.and_eq_true] at h3
    refine ⟨of_decide_eq_true h3.1, ?_⟩
    unfold tol
    rw [eq_of_beq h3.2]
    exact tol_eq _ _ (td_get ht _) (showL_lt _ _)
  rw [Bool.eq_iff_iff]
  constructor
  · intro h
    refine List.all_eq_true.mpr fun k hk => ?_
    obtain ⟨e, he, hek⟩ := List.any_eq_true.mp (List.all_eq_true.mp h2.2 k hk)
    have := List.all_eq_true.mp h e he
    rw [(e1 e he).2, eq_of_beq hek] at this
    exact this
  · intro h
    refine List.all_eq_true.mpr fun e he => ?_
    rw [(e1 e he).2]
    exact List.all_eq_true.mp h e.1 (List.mem_range.mpr (e1 e he).1)
theorem every_UL {n : Nat} {told : List Nat} (ht : Td n told) : everyM told n n [] = (UL n).filter fun s => okL told s n := by
  have hn := ht.pos
  have h6 := ht.le
  have e := UL_ok (n - 1) (by omega)
  rw [show n - 1 + 1 = n by omega] at e
  rw [every_filter, e]
  exact List.filter_congr fun s hs => okT_okL ht hs
theorem UL_perm {n : Nat} (h1 : 1 ≤ n) (h6 : n ≤ 6) : (RL (n - 1)).Perm (UL n) := by
  have := RL_UL (n - 1) (by omega)
  rw [show n - 1 + 1 = n by omega] at this
  exact List.isPerm_iff.mp this
theorem z_every {n : Nat} {told : List Nat} (ht : Td n told) : everyM told n n [] = ((RL (n - 1)).filter fun s => okL told s n).mergeSort leS := by
  have hn := ht.pos
  have h6 := ht.le
  rw [every_UL ht]
  refine sort_is ((UL_perm hn h6).symm.filter _) (List.Pairwise.filter _ (adj_sorted _ ?_))
  have := UL_adj (n - 1) (by omega)
  rw [show n - 1 + 1 = n by omega] at this
  exact this
theorem RL_fault : ∀ i, ∀ s ∈ RL i, faultL s (i + 1) = none
  | 0, s, hs => by
    have e : s = [0] := by simpa [RL] using hs
    subst e
    decide
  | i + 1, s, hs => by
    have h := (List.mem_filter.mp hs).2
    cases hf : faultL s (i + 2) with
    | none => rfl
    | some p => rw [hf] at h; cases h
theorem UL_good {n : Nat} (h1 : 1 ≤ n) (h6 : n ≤ 6) {s : List Nat} (hs : s ∈ UL n) : Pm n s ∧ faultL s n = none := by
  have hr : s ∈ RL (n - 1) := (UL_perm h1 h6).mem_iff.mpr hs
  have p := RL_pm (n - 1) (by omega) s hr
  have f := RL_fault (n - 1) s hr
  rw [show n - 1 + 1 = n by omega] at p f
  exact ⟨p, f⟩
theorem find_head (told : List Nat) (n : Nat) : ∀ (m : Nat) (cells : List Nat), findM told n m cells = (everyM told n m cells).head?
  | 0, _ => rfl
  | m + 1, cells => by
    show (leftL n cells).findSome? _ = ((leftL n cells).flatMap _).head?
    generalize leftL n cells = l
    induction l with
    | nil => rfl
    | cons x l ih =>
      rw [List.findSome?_cons, List.flatMap_cons, List.head?_append, ← ih]
      cases hasR told cells n x with
      | true => rfl
      | false =>
        simp only [Bool.false_eq_true, if_false]
        rw [find_head told n m (cells ++ [x])]
        cases (everyM told n m (cells ++ [x])).head? <;> rfl
theorem told0_get (told : List Nat) (k : Nat) : (told0 told).getD k 0 = if told.getD k 0 = 2 then 0 else told.getD k 0 := by
  unfold told0
  rw [List.getD_eq_getElem?_getD, List.getElem?_map, List.getD_eq_getElem?_getD]
  cases told[k]? <;> rfl
theorem ok_told0 {n : Nat} {told s : List Nat} (h : okL (told0 told) s n = true) : okL told s n = true := by
  refine List.all_eq_true.mpr fun k hk => ?_
  have h1 := List.all_eq_true.mp h k hk
  rw [told0_get] at h1
  by_cases h2 : told.getD k 0 = 2
  · rw [h2]; rfl
  · rw [if_neg h2] at h1; exact h1
theorem piled_good {n : Nat} {told : List Nat} (ht : Td n told) : pileL n (told0 told) (n - 1) ∈ UL n ∧ okL told (pileL n (told0 told) (n - 1)) n = true := by
  have hn := ht.pos
  have h6 := ht.le
  have h := chkP_ok (n - 1) (by omega)
  rw [show n - 1 + 1 = n by omega] at h
  have hb : told0 told ∈ bins (n - 1) := bins_mem _ _ (by unfold told0; rw [List.length_map]; exact ht.len) fun x hx => by
    unfold told0 at hx
    obtain ⟨y, hy, rfl⟩ := List.mem_map.mp hx
    have := ht.lt y hy
    show (if y = 2 then 0 else y) < 2
    split <;> omega
  have h2 := List.all_eq_true.mp h _ hb
  rw [Bool.and_eq_true] at h2
  exact ⟨List.contains_iff_mem.mp h2.1, ok_told0 h2.2⟩
theorem z_piled {n : Nat} {told : List Nat} (ht : Td n told) : Pm n (pileL n (told0 told) (n - 1)) ∧ keepM told (lev (pileL n (told0 told) (n - 1))) n = .non := by
  obtain ⟨h1, h2⟩ := piled_good ht
  obtain ⟨p, f⟩ := UL_good ht.pos ht.le h1
  exact ⟨p, keepM_none p f h2⟩
theorem z_find {n : Nat} {told : List Nat} (ht : Td n told) : ∃ cs, findM told n n [] = some cs ∧ Pm n cs ∧ keepS told (lev cs) n = .non := by
  obtain ⟨h1, h2⟩ := piled_good ht
  rw [find_head, every_UL ht]
  cases hl : (UL n).filter fun s => okL told s n with
  | nil =>
    have : pileL n (told0 told) (n - 1) ∈ (UL n).filter fun s => okL told s n := List.mem_filter.mpr ⟨h1, h2⟩
    rw [hl] at this
    cases this
  | cons cs r =>
    have hm : cs ∈ (UL n).filter fun s => okL told s n := by rw [hl]; exact List.mem_cons_self
    obtain ⟨h3, h4⟩ := List.mem_filter.mp hm
    obtain ⟨p, f⟩ := UL_good ht.pos ht.le h3
    exact ⟨cs, rfl, p, keepS_none p ht f h4⟩
end K82
/-! ## part V7 -/
/-! Walk of the law. -/
namespace K82
open PySem PySem.Spec PyProof.Rows L2
theorem mvo : ∀ t : Nat, t < 3 → atI ("MV?" : Str).cps.toList (t : Int) = some (if t = 0 then 77 else if t = 1 then 86 else 63) ∧ (⟨#[if t = 0 then 77 else if t = 1 then 86 else 63]⟩ : Str) = ltr t := by decide +kernel
def sizeL (ds : List Nat) : Nat := 1 + ds.getD 0 0 % 6
def toldL (ds : List Nat) : List Nat := (List.range (sizeL ds - 1)).map fun k => ds.getD (1 + k) 0 % 3
def axL (ds : List Nat) : Bool := decide (ds.getD 10 0 % 2 = 0)
theorem told_td (ds : List Nat) : Td (sizeL ds) (toldL ds) := by
  have h1 : 1 ≤ sizeL ds := by unfold sizeL; omega
  have h6 : sizeL ds ≤ 6 := by unfold sizeL; omega
  refine ⟨h1, h6, by unfold toldL; rw [List.length_map, List.length_range], fun t ht => ?_⟩
  unfold toldL at ht
  obtain ⟨k, _, rfl⟩ := List.mem_map.mp ht
  exact Nat.mod_lt _ (by decide)
theorem d_nat (a b : Nat) : decide (Dt.v (.int (a : Int)) = Dt.v (.int (b : Int))) = decide (a = b) := decide_eq_decide.mpr ⟨fun q => by have q' : (a : Int) = (b : Int) := V.int.inj q; omega, fun q => by rw [q]⟩
theorem optD_sh (q : Option (Nat × Nat)) : (optD pairD q).sh 64 = true := by
  cases q with
  | none => simp [optD, Dt.sh]
  | some p =>
    simp only [optD, pairD, Dt.sh, Dt.shL, Bool.and_true]
    decide +kernel
theorem optD2_sh (q : Option (Nat × Nat)) : (optD pair2D q).sh 64 = true := by
  cases q with
  | none => simp [optD, Dt.sh]
  | some p =>
    simp only [optD, pair2D, Dt.sh, Dt.shL, Bool.and_true]
    decide +kernel
/-- the scope of the law's last comprehension -/
def scDue : Scope := { kind := ScopeKind.function, names := [(".0", NameKind.local), ("state", NameKind.cell), ("all", NameKind.globalImplicit), ("range", NameKind.globalImplicit), ("size", NameKind.cell), ("told", NameKind.cell)], isGenerator := false, isCoroutine := false }
theorem XNT_d {X : Cx} {P : Addr} {e : Expr} {ρ : Rho} {ds : List Dt} (h : XNT X P e ρ ds) : XET X P e ρ (.lst ds) := EvNT.d h
section
variable {P : Program} {w : World} {K : PySem.W.Frag} {mg : Str → Option Value} {base : Heap}
/-- the slots of the law -/
abbrev rW (K : PySem.W.Frag) (ns : List Int) (ds : List Nat) (n : Nat) (told : List Nat) (ax : Bool) (v6 v7 v8 v9 v10 v11 v12 v13 v14 : Option Sv) : Rho :=
  [some (.im (.scr ns)), some (.im (.lst (nt ds))), some (.im (.int (n : Int))), some (.im (.tup (ls told))), some (.im (strD K n told)), some (.im (mapD K ax n told)), v6, v7, v8, v9, v10, v11, v12, v13, v14, none, none, none]
theorem mk_Map_ (c : Fx w K mg) (ax : Bool) {n : Nat} {told : List Nat} (h : Td n told) : Mk' P w K mg base 2 "Map" (C_Map K) (spI K (C_Map K) [.int (if ax then 1 else n : Nat), .int (if ax then n else 1 : Nat), .tup (rowsD (acr ax n told)), .tup (rowsD (dwn ax told))] [("rows", .int (if ax then 1 else n : Nat)), ("columns", .int (if ax then n else 1 : Nat)), ("across", .tup (rowsD (acr ax n told))), ("down", .tup (rowsD (dwn ax told))), ("cells", .int (n : Int))]) := by
  have h1 := h.pos
  have h6 := h.le
  have hl := h.len
  cases ax with
  | true =>
    have := c_Map_init (P := P) (base := base) c (r := 1) (l := n) (ac := [told]) (dn := []) (by decide) (by decide) h1 h6 rfl rfl (fun t ht => by rw [List.mem_singleton] at ht; subst ht; exact ⟨hl, h.lt⟩) (fun t ht => by cases ht)
    rw [show ((1 : Nat) : Int) * (n : Int) = (n : Int) by omega] at this
    exact this
  | false =>
    have := c_Map_init (P := P) (base := base) c (r := n) (l := 1) (ac := List.replicate n []) (dn := told.map fun t => [t]) h1 h6 (by decide) (by decide) (List.length_replicate ..) (by rw [List.length_map]; exact hl) (fun t ht => by
        have := List.eq_of_mem_replicate ht
        subst this
        exact ⟨rfl, fun x hx => by cases hx⟩) (fun t ht => by
        obtain ⟨x, hx, rfl⟩ := List.mem_map.mp ht
        exact ⟨rfl, fun y hy => by rw [List.mem_singleton] at hy; subst hy; exact h.lt _ hx⟩)
    rw [show (n : Int) * ((1 : Nat) : Int) = (n : Int) by omega] at this
    exact this
theorem c_map_shown_ (c : Fx w K mg) (ax : Bool) {n : Nat} {told s : List Nat} (h : Pm n s) : Cl P w K mg base 4 "map_shown" (spD K [mapD K ax n told, .tup (nt s)] (shMapD ax n (shownS (lev s) n))) := by
  cases ax with
  | true => exact c_map_shown_row c h
  | false => exact c_map_shown_col c h
theorem ok_law (c : Fx w K mg) (tb : LamX.TabB base mg (CT K) (PT K)) (ns : List Int) (hns : ns.length ≤ 63) {f : Addr} {fd : FuncData} (F : F_law K f fd) : FnOk P w K mg base CX0 20 f fd p_law (spDT K [.scr ns] (.bl true)) := by
  generalize hds : drawsL ns = ds
  have hdl : ds.length = 50 := by rw [← hds]; exact draws_len ns
  have htd := told_td ds
  generalize hn : sizeL ds = n at htd
  generalize ht : toldL ds = told at htd
  generalize hax : axL ds = ax
  have h1 : 1 ≤ n := htd.pos
  have h6 : n ≤ 6 := htd.le
  have hl := htd.len
  obtain ⟨cs, hf, pmc, kfc⟩ := z_find htd
  obtain ⟨pmp, kfp⟩ := z_piled htd
  have hev := z_every htd
  have d0 : ∀ i, i < 50 → ds[i]? = some (ds.getD i 0) := fun i hi => getD_get (by omega)
  have e0 : ((n : Int) - 1).toNat = n - 1 := by omega
  have hR := RL_len (n - 1) (by omega)
  have hRf := fact_le (i := n - 1) (by omega)
  refine def_okT F sc_law rfl fun cdv A outer s H E hr => sT_cons (BsD.t (s_set (i := 1) (d := .lst (nt ds)) sc_law.nd ((XN.toD (xn_call (c_u_law_draws c ns hns) hr (xa_cons (x_var (i := 0) rfl) (xa_cons x_int xa_nil)))).is (by rw [hds]))))
    (sT_cons (BsD.t (s_set (i := 2) (d := .int (n : Int)) sc_law.nd ((x_bin op_add x_int (x_bin op_mod (x_int1 (z_int c) (x_ixR (i := 0) (XE.toR (x_var (i := 1) rfl)) x_int (at_nt (i := 0) (d0 0 (by decide))))) x_int (rd_I (by decide))) rd_I0).is ?e2)))
    (sT_cons (BsD.t (s_set (i := 3) (d := .tup (ls told)) sc_law.nd (x_tupOf (z_tuple c) (XN.toR (xn_lc (own := [("k", 15)]) sc_law.nd (xi_range1 (z_range c) (x_bin op_sub (x_var (i := 2) rfl) x_int rd_I0) ?r3 ?r3') ?l3 (blkOk_by (N := N_law) (sc := defScope s_law) (by decide +kernel)) (fun _ _ _ _ _ => pg_name (i := 15) sc_law.nd rfl (Or.inl rfl)) ?lc3)))))
    (sT_cons (BsD.t (s_set (i := 4) (d := strD K n told) sc_law.nd ((XI.toD (xi_make (c_Strip_init c htd) hr (xa_cons (x_ones (x_tup (xa_cons x_int xa_nil)) (x_var (i := 2) rfl) h1 h6) (xa_cons (x_var (i := 3) rfl) xa_nil)))).is rfl)))
    (sT_cons (BsD.t (s_set (i := 5) (d := mapD K ax n told) sc_law.nd ?sheet))
    (sT_cons (ρ1 := rW K ns ds n told ax none none none none none none none none none) (BsD.t (s_for (xi_range1 (z_range c) x_int) (pg_name (i := 6) sc_law.nd rfl (Or.inl rfl)) (vs := [6]) ?l6))
    (sT_cons (sT_asg (vs := [9, 10]) (x_callT (c_folded_map c tb ax htd hf) hr (xa_cons (x_var (i := 5) rfl) xa_nil)) (pg_tup rfl (pgs_cons (pg_name (i := 9) sc_law.nd rfl (Or.inl rfl)) (pgs_cons (pg_name (i := 10) sc_law.nd rfl (Or.inl rfl)) pgs_nil))) (tg_tup rfl (tgs_cons tg_name (tgs_cons tg_name tgs_nil))))
    (sT_cons (BsD.t (s_ifF (xt_w (xw_or (xt_cmp op_ne (nomark _) (x_var (i := 9) rfl) x_str (rd_ne rfl rfl ?sc8)) fun _ => xw_or (xt_notN (x_call (c_keeps_fault c pmc htd) hr (xa_cons (x_var (i := 4) rfl) (xa_cons (x_var (i := 10) rfl) xa_nil)))) fun _ => xw_or (xt_cmp op_notBl (nomark _) (x_call (c_folds c htd) hr (xa_cons (x_var (i := 4) rfl) xa_nil)) x_bl rd_notB) fun _ =>
        xw_or1 (xt_notN (x_call (c_map_keeps_fault c ax pmp htd) hr (xa_cons (x_var (i := 5) rfl) (xa_cons (x_ixT (i := 1) (x_call (c_folded_folding c htd) hr (xa_cons (x_var (i := 4) rfl) xa_nil)) x_int rfl) xa_nil)))))) ?k8 s_nil))
    (sT_ifR (o := .rt (.bl true)) (xt_w (xw_and (xt_cmp op_gt (nomark _) (x_var (i := 2) rfl) x_int rd_B0) fun _ => xw_and1 (xt_cmp op_gt (nomark _) (x_bin op_mod (x_int1 (z_int c) (x_ixR (i := 40) (XE.toR (x_var (i := 1) rfl)) x_int (at_nt (i := 40) (d0 40 (by decide))))) x_int (rd_I (by decide))) x_int rd_B0))) (fun _ => s_one (s_ret x_bl)) rfl fun _ =>
    (sT_cons (BsD.t (s_setLc (i := 7) (outs := ((RL (n - 1)).filter fun s => okL told s n).map stD') (own := [("state", 8)]) sc_law.nd (xi_list (XN.toD (xn_call (c_u_law_states c n h1 h6) hr (xa_cons (x_ones (x_tup (xa_cons x_int xa_nil)) (x_var (i := 2) rfl) h1 h6) (xa_cons x_int xa_nil))))) ?l10 (blkOk_by (N := N_law) (sc := defScope s_law) (by decide +kernel)) (fun _ _ _ _ _ => pg_name (i := 8) sc_law.nd rfl (Or.inr rfl)) ?lc10 (sw_true rfl rfl rfl (by decide +kernel))))
    (sT_freeze 7 rfl (sT_one (sT_ret (x_cmpT (op_eqD hr.units) (nomark _) (XNT_d (xn_callT (c_states_of c tb ax htd) hr (xa_cons (x_var (i := 5) rfl) xa_nil))) (XN.toD (xn_sortS (z_sorted c) hr.units (x_var (i := 7) rfl) ?z11 ?ne11)) (rd_eqR ?eq11 ?sh11))))))))))))))
  case e2 =>
    rw [← hn]
    unfold sizeL
    congr 1
  case r3 => omega
  case r3' => omega
  case l3 => rw [rgD_length]; omega
  case lc3 =>
    rw [rgD_nt, e0, ← ht]
    unfold toldL ls
    rw [List.map_map, hn]
    exact lc_map (fun x : Nat => .int (x : Int)) (fun x : Nat => .str (ltr (ds.getD (1 + x) 0 % 3))) _ (List.range (n - 1)) fun x hx =>
      ⟨tg_name, tsB_nil, eB fun _ _ _ _ _ => (x_ixS x_str ((x_bin op_mod (x_int1 (z_int c) (x_ixR (XE.toR (x_var (i := 1) rfl)) (x_bin op_add x_int (x_var (i := 15) rfl) rd_I0) (by
        rw [show (1 : Int) + (x : Int) = ((1 + x : Nat) : Int) by omega]
        exact at_nt (d0 (1 + x) (by have := List.mem_range.mp hx; omega))))) x_int (rd_I (by decide))).is (d2 := .int ((ds.getD (1 + x) 0 % 3 : Nat) : Int)) (by congr 1)) (by decide +kernel) (mvo _ (Nat.mod_lt _ (by decide))).1).is (by rw [(mvo _ (Nat.mod_lt _ (by decide))).2])⟩
  case sheet =>
    refine x_ifE ((xt_cmp op_eq (nomark _) (x_bin op_mod (x_int1 (z_int c) (x_ixR (i := 10) (XE.toR (x_var (i := 1) rfl)) x_int (at_nt (i := 10) (d0 10 (by decide))))) x_int (rd_I (by decide))) x_int (rd_eq rfl rfl rfl)).is (k2 := ax) ?c1) (fun h => ?a1) (fun h => ?a2)
    case c1 =>
      rw [← hax]
      unfold axL
      exact decide_eq_decide.mpr ⟨fun q => by have q' : ((ds.getD 10 0 : Nat) : Int) % 2 = 0 := V.int.inj q; omega, fun q => congrArg V.int (by omega)⟩
    case a1 =>
      rw [h]
      exact (XI.toD (xi_make (mk_Map_ c true htd) hr (xa_cons x_int (xa_cons (x_var (i := 2) rfl) (xa_cons (x_tup (xa_cons (x_var (i := 3) rfl) xa_nil)) (xa_cons (x_tup xa_nil) xa_nil)))))).is rfl
    case a2 =>
      rw [h]
      exact (XI.toD (xi_make (mk_Map_ c false htd) hr (xa_cons (x_var (i := 2) rfl) (xa_cons x_int (xa_cons (x_empties (x_tup (xa_cons (x_tup xa_nil) xa_nil)) (x_var (i := 2) rfl) h1 h6) (xa_cons (x_tupOf (z_tuple c) (XN.toR (xn_lc (own := [("crease", 16)]) sc_law.nd (xi_tup (x_var (i := 3) rfl)) (by rw [ls_len]; omega) (blkOk_by (N := N_law) (sc := defScope s_law) (by decide +kernel)) (fun _ _ _ _ _ => pg_name (i := 16) sc_law.nd rfl (Or.inl rfl)) (by
        unfold rowsD dwn
        rw [if_neg Bool.false_ne_true, List.map_map]
        exact lc_map (fun t : Nat => .str (ltr t)) (fun t : Nat => .tup (ls [t])) _ told fun t _ => ⟨tg_name, tsB_nil, eB fun _ _ _ _ _ => x_tup (xa_cons (x_var (i := 16) rfl) xa_nil)⟩)))) xa_nil)))))).is rfl
  case l6 =>
    refine for_all (rW K ns ds n told ax none none none none none none none none none) _ fun d hd => ?_
    rw [rgD_nt] at hd
    unfold nt at hd
    obtain ⟨t, ht3, rfl⟩ := List.mem_map.mp hd
    have ht3 : t < 3 := List.mem_range.mp ht3
    have pm := order_pm (ds.drop (11 + 8 * t)) h1 h6
    have ofn : n ≤ (ds.drop (11 + 8 * t)).length := by rw [List.length_drop, hdl]; omega
    have cord := c_u_law_order (P := P) (base := base) c (ds.drop (11 + 8 * t)) n h6 ofn
    generalize orderL (ds.drop (11 + 8 * t)) n = st at pm cord
    have zL := z_faultL pm
    have zM := z_faultM pm
    have cmf := c_map_fault (P := P) (w := w) (base := base) c ax pm htd
    have csf := c_state_fault (P := P) (w := w) (base := base) (told := told) c pm
    have clf := c_u_law_fault (P := P) (w := w) (base := base) c pm
    rw [zM] at cmf
    rw [zL] at clf
    have hshl : (shownS (lev st) n).length = n - 1 := shownS_len _ _
    have csh := c_shown (P := P) (w := w) (base := base) (told := told) c pm
    have cms := c_map_shown_ (P := P) (w := w) (base := base) (told := told) c ax pm
    have zK := z_keep pm htd
    have ckf := c_keeps_fault (P := P) (w := w) (base := base) c pm htd
    have cmk := c_map_keeps_fault (P := P) (w := w) (base := base) c ax pm htd
    generalize faultS (lev st) n = q at cmf csf clf
    generalize shownS (lev st) n = sh at csh cms hshl
    generalize keepS told (lev st) n = ks at zK ckf
    generalize keepM told (lev st) n = km at zK cmk
    refine ⟨_, tg_name, b_fg (ρ1 := rW K ns ds n told ax (some (.im (.int (t : Int)))) none (some (.im (.etup (nt st)))) none none (some (.im (optD pairD q))) (some (.im (optD pair2D q))) (some (.im (.tup (rowsD (acr ax n sh))))) (some (.im (.tup (rowsD (dwn ax sh))))))
      (s_cons (s_set (i := 8) (d := .etup (nt st)) sc_law.nd (x_call cord hr (xa_cons ((XN.toD (xn_slice (l := some ((11 + 8 * t : Nat) : Int)) (XE.toR (x_var (i := 1) rfl)) (xo_some ((x_bin op_add x_int (x_bin op_mul x_int (x_var (i := 6) rfl) (rd_I (.inl (by decide)))) rd_I0).is ?p1)) xo_none)).is ?p2) (xa_cons (x_var (i := 2) rfl) xa_nil))))
      (s_cons (s_par (i := 11) (j := 12) (d1 := optD pairD q) (d2 := optD pair2D q) sc_law.nd (xa_cons (x_call csf hr (xa_cons (x_var (i := 4) rfl) (xa_cons (x_et (x_var (i := 8) rfl)) xa_nil))) (xa_cons (x_call cmf hr (xa_cons (x_var (i := 5) rfl) (xa_cons (x_et (x_var (i := 8) rfl)) xa_nil))) xa_nil)))
      (s_consK (s_ifF (xt_w (xw_or (xt_cmp (op_neD hr.units) (nomark _) (x_var (i := 11) rfl) (x_call clf hr (xa_cons (x_ones (x_tup (xa_cons x_int xa_nil)) (x_var (i := 2) rfl) h1 h6) (xa_cons (x_var (i := 8) rfl) xa_nil))) (rd_neR rfl (optD_sh q))) fun _ => xw_or1 (xt_cmp (op_neD hr.units) (nomark _) (x_var (i := 12) rfl) (d2 := optD pair2D q) ?ife (rd_neR rfl (optD2_sh q))))) rfl s_nil)
      (s_cons (s_asg (vs := [13, 14]) (x_call cms hr (xa_cons (x_var (i := 5) rfl) (xa_cons (x_et (x_var (i := 8) rfl)) xa_nil))) (pg_tup rfl (pgs_cons (pg_name (i := 13) sc_law.nd rfl (Or.inl rfl)) (pgs_cons (pg_name (i := 14) sc_law.nd rfl (Or.inl rfl)) pgs_nil))) (tg_tup rfl (tgs_cons tg_name (tgs_cons tg_name tgs_nil))))
      (s_consK (s_ifF (xt_cmp (op_neD hr.units) (nomark _) (d1 := .tup (ls sh)) ?shw (x_call csh hr (xa_cons (x_var (i := 4) rfl) (xa_cons (x_et (x_var (i := 8) rfl)) xa_nil))) (rd_neR rfl ?shsh)) rfl s_nil)
      (s_one (s_ifF (xt_cmp op_ne (nomark _) (x_isN (x_call ckf hr (xa_cons (x_var (i := 4) rfl) (xa_cons (x_et (x_var (i := 8) rfl)) xa_nil)))) (x_isN (x_call cmk hr (xa_cons (x_var (i := 5) rfl) (xa_cons (x_et (x_var (i := 8) rfl)) xa_nil)))) (rd_ne rfl rfl rfl)) ?kk s_nil)))))))
      ⟨.inr rfl, .inr rfl, .inr rfl, .inr rfl, .inr rfl, .inr rfl, .inl rfl, .inr rfl, .inl rfl, .inr rfl, .inr rfl, .inl rfl, .inl rfl, .inl rfl, .inl rfl, .inr rfl, .inr rfl, .inr rfl, trivial⟩⟩
    case p1 => congr 1
    case p2 => rw [cut_drop, nt_drop]
    case shsh => simp only [Dt.sh]; exact shL_ls _ _
    case kk => rw [zK]; simp
    case ife =>
      cases q with
      | none => exact x_ifE (xt_isN (x_var (i := 11) rfl)) (fun _ => x_non) (fun h => by cases h)
      | some p => exact x_ifE (xt_isN (x_var (i := 11) rfl)) (fun h => by cases h) (fun _ => x_tup (xa_cons x_str (xa_cons (x_tup (xa_cons (x_ixT (i := 1) (x_var (i := 11) rfl) x_int rfl) (xa_cons (x_bin op_add (x_ixT (i := 1) (x_var (i := 11) rfl) x_int rfl) x_int rd_I0) xa_nil))) (xa_cons (x_tup (xa_cons (x_ixT (i := 2) (x_var (i := 11) rfl) x_int rfl) (xa_cons (x_bin op_add (x_ixT (i := 2) (x_var (i := 11) rfl) x_int rfl) x_int rd_I0) xa_nil))) xa_nil))))
    case shw =>
      refine x_ifE (k := decide ((if ax then (1 : Int) else (n : Int)) = 1)) ((xt_cmp op_eq (nomark _) (x_fld (cl_Map c) (na_Map_rows c) (x_var (i := 5) rfl) rfl) x_int (rd_eq rfl rfl rfl)).is ?c1) (fun h => x_ixT (i := 0) (x_var (i := 13) rfl) x_int ?c2) (fun h => ?c3)
      case c1 => exact decide_eq_decide.mpr ⟨fun q => V.int.inj q, fun q => congrArg V.int q⟩
      case c2 =>
        have h := of_decide_eq_true h
        cases ax with
        | true => rfl
        | false =>
          have hn1 : n = 1 := by
            have h' : (n : Int) = 1 := h
            omega
          have hs0 : sh = [] := List.length_eq_zero_iff.mp (by omega)
          rw [hn1, hs0]
          rfl
      case c3 =>
        have h := of_decide_eq_false h
        cases ax with
        | true => exact absurd rfl h
        | false =>
          exact x_tupOf (z_tuple c) (XN.toR (xn_lc (own := [("row", 17)]) sc_law.nd (xi_tup (x_var (i := 14) rfl)) (by
            unfold rowsD dwn
            rw [if_neg Bool.false_ne_true, List.length_map, List.length_map]; omega) (blkOk_by (N := N_law) (sc := defScope s_law) (by decide +kernel)) (fun _ _ _ _ _ => pg_name (i := 17) sc_law.nd rfl (Or.inl rfl)) (by
            unfold rowsD dwn ls
            rw [if_neg Bool.false_ne_true, List.map_map]
            exact lc_map (fun t : Nat => .tup (ls [t])) (fun t : Nat => .str (ltr t)) _ sh fun t _ => ⟨tg_name, tsB_nil, eB fun _ _ _ _ _ => x_ixT (i := 0) (x_var (i := 17) rfl) x_int rfl⟩)))
  case sc8 => decide +kernel
  case k8 =>
    rw [kfc, kfp]
    decide +kernel
  case l10 => rw [List.length_map]; omega
  case lc10 =>
    refine lc_filter etD stD' (fun s => okL told s n) _ (RL (n - 1)) fun s hs => ⟨tg_name, tsB_one fun _ _ _ _ _ => xt_val (x_allM (xs := List.range (n - 1)) (q := fun k => told.getD k 0 == 2 || told.getD k 0 == showL s k) (z_all c) (XN.toR (xn_lc (own := [("k", 15)]) sc_law.nd (xi_range1 (z_range c) (x_bin op_sub (x_var (i := 2) rfl) x_int rd_I0) (by omega) (by omega)) (by rw [rgD_length]; omega) (blkOk_by (N := N_law) (sc := scDue) (by decide +kernel)) (fun _ _ _ _ _ => pg_name (i := 15) sc_law.nd rfl (Or.inl rfl)) ?lk))), fun _ => eB fun _ _ _ _ _ => x_et (x_var (i := 8) rfl)⟩
    have pm : Pm n s := by
      have := RL_pm (n - 1) (by omega) s hs
      rw [show n - 1 + 1 = n by omega] at this
      exact this
    rw [rgD_nt, e0]
    refine lc_map (fun x : Nat => .int (x : Int)) (fun k : Nat => .bl (told.getD k 0 == 2 || told.getD k 0 == showL s k)) _ (List.range (n - 1)) fun k hk => ⟨tg_name, tsB_nil, eB fun _ _ _ _ _ => (x_cmp op_in_seq rfl (x_ixT (d := .str (ltr (told.getD k 0))) (x_var (i := 3) rfl) (x_var (i := 15) rfl) (at_nat (ls_get (getD_get (by have := List.mem_range.mp hk; omega))))) (x_tup (xa_cons x_str (xa_cons (x_call (c_u_law_shows c pm k (by have := List.mem_range.mp hk; omega)) hr (xa_cons (x_var (i := 8) rfl) (xa_cons (x_var (i := 15) rfl) xa_nil))) xa_nil))) (rd_inT (neg := false) rfl rfl)).is ?_⟩
    have hk' := List.mem_range.mp hk
    have ht3 : told.getD k 0 < 3 := by
      have hg := getD_get (l := told) (i := k) (by omega)
      exact htd.lt _ (List.mem_of_getElem? hg)
    have hs3 : showL s k < 3 := by unfold showL; split <;> decide
    exact congrArg Dt.bl (in_ltr _ ht3 _ hs3)
  case z11 => exact Nat.le_trans (List.length_filter_le _ _) (by omega)
  case ne11 =>
    intro s hs z
    have := (RL_pm (n - 1) (by omega) s (List.mem_filter.mp hs).1).len
    rw [z] at this
    cases this
  case eq11 => rw [hev]; rfl
  case sh11 =>
    simp only [Dt.sh]
    exact shL_map _ _ _ fun s _ => by simp only [Dt.sh]; exact shL_nt _ _
end
end K82
/-! ## part End -/
/-! The end: the law's promise over all scripts, the run of the head, the row. -/
namespace K82
open PySem PySem.Spec PyProof.Rows L2
def spLaw (K : PySem.W.Frag) : Sp := fun vs H Q E => ∃ ns : List Int, ns.length ≤ 63 ∧ spDT K [.scr ns] (.bl true) vs H Q E
theorem law_at {w : World} {mg : Str → Option Value} {fa0 : Addr} {h : Heap} (Y : hk.says w h) (G : h.Ns mainGlobals mg) (hfa : mg ("law" : Str) = some (.ref fa0)) :
    ∃ K : PySem.W.Frag, K.In h ∧ LamX.LawAtS PySem.Challenge.rw_creasewrit_k82_whole_rows_of_maps w K CX0 20 63 "script" mg fa0 h := by
  obtain ⟨K, KX, c⟩ := Y
  have cx : Fx w K mg := ⟨h, KX, G, c⟩
  have e := hfa.symm.trans (g_law cx)
  cases e
  obtain ⟨fd, F⟩ := fd_law cx
  have mem : dfP ∈ tf := List.mem_cons_self
  have b := FunD.bindsA (ps := ["script"]) F fun _ _ _ _ _ _ us hl => match us, hl with | [_], _ => rfl
  refine ⟨K, KX, fd, [He.cT K dfP], spLaw K, fun p hp => ?_, fun p hp => ?_, fun p hp => ?_, fun s v => b s [v] rfl, fun H a ns hl _ hT hS => ?_, fun base _ _ tb => ?_⟩
  · rw [List.mem_singleton.mp hp]; exact c.empty _ mem
  · rw [List.mem_singleton.mp hp]; exact c.out _ mem
  · rw [List.mem_singleton.mp hp]; exact PySem.W.codeHd_of_K KX (c.hd _ mem)
  · have t := hT _ (List.mem_singleton.mpr rfl)
    refine ⟨ns, hl, rm H (PT K), rm_ex, rm_same, LamX.TabS.nil t, DenL.cons ⟨a, rfl, ?_⟩ DenL.nil, fun v F2 H2 _ dv => ?_⟩
    · rcases hS with hS | hS
      · refine .inl ?_
        have hne : a ≠ PT K := fun z => by
          subst z
          rcases hS with q | ⟨_, q⟩
          · rw [t] at q; cases q
          · rw [t] at q; cases q
        unfold Rd
        rw [rm_ne hne]
        exact hS
      · exact .inr hS
    · exact dv
  · have tb' := tb _ (List.mem_singleton.mpr rfl)
    exact ⟨fun vs H Q E ⟨ns, hn, q⟩ => (ok_law (P := PySem.Challenge.rw_creasewrit_k82_whole_rows_of_maps.prog) (w := w) cx tb' ns hn F).len vs H Q E q, fun A outer s H args us vs Q E hr he hb hv ⟨ns, hn, q⟩ => (ok_law cx tb' ns hn F).run A outer s H args us vs Q E hr he hb hv q⟩
end K82
open PySem PySem.W PySem.Calls PyProof.Rows
theorem PySem.Challenge.cw_creasewrit_k82_whole_rows_of_maps_holds : PySem.Challenge.rw_creasewrit_k82_whole_rows_of_maps.Holds := by
  w_on; o_law
  refine HandSHeadRun.head_any (r := OpenLaw.row PySem.Challenge.rw_creasewrit_k82_whole_rows_of_maps) (q := view (OpenLaw.row PySem.Challenge.rw_creasewrit_k82_whole_rows_of_maps).prog [97]) (H := K82.hk) (ob := K82.ob) (M := 6000) (loose := K82.loose) (d := HandSHeadRun.topDef (OpenLaw.row PySem.Challenge.rw_creasewrit_k82_whole_rows_of_maps).prog 97) (kwd := []) K82.ob_eq
    (by kernel_rfl) (fun s => by kernel_rfl) K82.run (by kernel_rfl) (by kernel_rfl) (by kernel_rfl) (by rfl) (by first | assumption | decide +kernel) (by decide +kernel) ⟨rfl, rfl, rfl, rfl, rfl, by decide +kernel⟩ ?hw ?hc
  case hw => w_witness2
  case hc =>
    refine LamX.walk_ofTsE (l := PySem.Challenge.rw_creasewrit_k82_whole_rows_of_maps) (n := 63) (k := 20) (x := "script") (CX := fun _ => L2.CX0) rfl (by decide) (by kernel_rfl) ⟨rfl, by decide, by decide⟩ ?F (fun _ _ _ _ _ z => z)
    intro w mg fa h Y G hmg0
    have hmg : mg ("law" : PySem.Str) = some (.ref fa) := by
      have e : (HandSHeadRun.topDef (OpenLaw.row PySem.Challenge.rw_creasewrit_k82_whole_rows_of_maps).prog 97).name = ("law" : PySem.Str) := by kernel_rfl
      rw [← e]
      exact hmg0
    exact K82.law_at Y G hmg
