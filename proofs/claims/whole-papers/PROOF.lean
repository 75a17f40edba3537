import PyProof.Rows.All
import PySem.Challenge.RW_huedties_k89_whole_papers_of_few_hues
import KE.KStateDown
import Lean
import HandS.ForMost
import HandS.ForExc
import HandS.Defaults
import HandS.EndTab
import HandS.HeadWalk
import HandS.Head0
import HandS.Head1
import HandS.Head2
import HandS.HeadEnd
import HandS.HeadHook1
import HandS.HeadHook2
import HandS.HeadHook3
import HandS.HeadHook4
import Wide.All
import OpenK.AllK
import Wide.FinOn
import KE.GoesEnum
import HandS.Zip
import HandS.Walk
import KE.DataMinMax
import KE.DataMinKey
import KE.KDictPairs
import HandS.SortKw
import HandS.Lambda
import HandS.Style
import HandS.IsInst
import HandS.TupAny
import HandS.SetFor
import HandS.More
import HandS.Conv
import HandS.CallRecv
import HandS.WordsDict
import HandS.Exc
import HandS.Nested
set_option Elab.async false
set_option linter.all false
set_option maxRecDepth 100000
set_option maxHeartbeats 4000000
namespace U
open PySem PySem.Spec PyProof.Rows L2
def topS (i : Nat) : Stmt := PySem.Challenge.pw_huedties_k89_whole_papers_of_few_hues.main.body.getD i (.Pass ⟨0, 0, 0, 0⟩)
def clsB : Stmt → List Stmt
  | .ClassDef _ _ _ b _ _ _ _ _ _ _ => b
  | _ => []
def clsS (i j : Nat) : Stmt := (clsB (topS i)).getD j (.Pass ⟨0, 0, 0, 0⟩)
end U
set_option Elab.async false
set_option linter.all false
set_option maxRecDepth 100000
set_option maxHeartbeats 0
namespace HD
open PySem PySem.Spec PyProof.Rows L2 U
abbrev XS_is_number : Stmt := topS 7
abbrev XS_look_place : Stmt := topS 8
abbrev XS_look_tie : Stmt := topS 9
abbrev XS_ties_by_place : Stmt := topS 10
abbrev XS_ties_at : Stmt := topS 11
abbrev XS_count_at : Stmt := topS 12
abbrev XS_most_at : Stmt := topS 13
abbrev XS_far_end : Stmt := topS 14
abbrev XS_part_from : Stmt := topS 15
abbrev XS_parts : Stmt := topS 16
abbrev XS_only : Stmt := topS 17
abbrev XS_within : Stmt := topS 18
abbrev XS_is_hue : Stmt := topS 20
abbrev XS_clash_of : Stmt := topS 21
abbrev XS_is_hueing : Stmt := topS 22
abbrev XS_is_whole : Stmt := topS 23
abbrev XS_classes : Stmt := topS 24
abbrev XS_is_place_of : Stmt := topS 29
abbrev XS_is_odd_set : Stmt := topS 30
abbrev XS_is_full_set : Stmt := topS 31
abbrev XS_hues_to_try : Stmt := topS 32
abbrev XS_is_new_tie : Stmt := topS 33
abbrev XS_is_tree_behind : Stmt := topS 34
abbrev XS_shows_fewer : Stmt := topS 35
abbrev XS_shows_fewest : Stmt := topS 36
abbrev XS_tie_of : Stmt := topS 40
abbrev XS_look_hues : Stmt := topS 41
abbrev XS_row_from : Stmt := topS 42
abbrev XS_neighbours : Stmt := topS 43
abbrev XS_row_with : Stmt := topS 44
abbrev XS_word_of : Stmt := topS 45
abbrev XS_rows_of : Stmt := topS 46
abbrev XS_other_of : Stmt := topS 47
abbrev XS_exchanged : Stmt := topS 48
abbrev XS_look_so : Stmt := topS 53
abbrev XS_with_hue : Stmt := topS 55
abbrev XS_dropped : Stmt := topS 56
abbrev XS_moved : Stmt := topS 58
abbrev XS_row_turned : Stmt := topS 59
abbrev XS_made_by : Stmt := topS 60
abbrev XS_done_step : Stmt := topS 61
abbrev XS_sizes : Stmt := topS 63
abbrev XS_end_of_hue : Stmt := topS 64
abbrev XS_step_between : Stmt := topS 65
abbrev XS_evened : Stmt := topS 66
abbrev XS_ties_near : Stmt := topS 68
abbrev XS_Search_init : Stmt := clsS 69 0
abbrev XS_Search_free_hues : Stmt := clsS 69 1
abbrev XS_Search_open_hues : Stmt := clsS 69 2
abbrev XS_Search_narrowest : Stmt := clsS 69 3
abbrev XS_Search_goes_on : Stmt := clsS 69 4
abbrev XS_full_set : Stmt := topS 70
abbrev XS_paper_by_set : Stmt := topS 71
abbrev XS_paper_by_place : Stmt := topS 72
abbrev XS_fewest : Stmt := topS 73
abbrev XS_ties_beside : Stmt := topS 77
abbrev XS_Lists_init : Stmt := clsS 78 0
abbrev XS_Lists_left_for : Stmt := clsS 78 1
abbrev XS_Lists_next_tie : Stmt := clsS 78 2
abbrev XS_Lists_whole_from : Stmt := clsS 78 3
abbrev XS_from_lists : Stmt := topS 79
abbrev XS_lists_for : Stmt := topS 80
abbrev XS_filled : Stmt := topS 81
abbrev XS_hues_left : Stmt := topS 83
abbrev XS_is_bare : Stmt := topS 84
abbrev XS_ends_all : Stmt := topS 85
abbrev XS_shows_lists : Stmt := topS 86
abbrev XS_shows_filled : Stmt := topS 87
abbrev XS_law_tape : Stmt := topS 89
abbrev XS_law_draw : Stmt := topS 90
abbrev XS_law_pairs_by : Stmt := topS 91
abbrev XS_law_web : Stmt := topS 92
abbrev XS_law_small : Stmt := topS 93
abbrev XS_law_ten : Stmt := topS 95
abbrev XS_law_turned : Stmt := topS 96
abbrev XS_law_any : Stmt := topS 97
abbrev XS_law_paper_right : Stmt := topS 98
abbrev XS_law_filled_right : Stmt := topS 99
abbrev XS_law_some_right : Stmt := topS 100
abbrev XS_law : Stmt := topS 101
def loose0 : List Str := ["HueError", "NoPlace", "NoTie", "NoRow", "NoStep", "is_number", "look_place", "look_tie", "ties_by_place", "ties_at", "count_at", "most_at", "far_end", "part_from", "parts", "only", "within", "is_hue", "clash_of", "is_hueing", "is_whole", "classes", "PLACE", "SET", "TREE", "is_place_of", "is_odd_set", "is_full_set", "hues_to_try", "is_new_tie"]
def loose1 : List Str := ["is_tree_behind", "shows_fewer", "shows_fewest", "OPEN", "RING", "tie_of", "look_hues", "row_from", "neighbours", "row_with", "word_of", "rows_of", "other_of", "exchanged", "HUE", "DROP", "MOVE", "look_so", "is_tie", "with_hue", "dropped", "do_meet", "moved", "row_turned", "made_by", "done_step", "sizes", "end_of_hue", "step_between", "evened"]
def loose2 : List Str := ["ties_near", "Search", "full_set", "paper_by_set", "paper_by_place", "fewest", "HUEING", "NONE", "ties_beside", "Lists", "from_lists", "lists_for", "filled", "hues_left", "is_bare", "ends_all", "shows_lists", "shows_filled", "_law_tape", "_law_draw", "_law_pairs_by", "_law_web", "_law_small", "_law_meet", "_law_ten", "_law_turned", "_law_any", "_law_paper_right", "_law_filled_right", "_law_some_right"]
def loose : List Str := loose0 ++ loose1 ++ loose2
def fa0 : List He.Fa := [.glo "is_number", .glo "look_place", .glo "look_tie", .glo "ties_by_place", .glo "ties_at", .glo "count_at", .glo "most_at", .glo "far_end", .glo "part_from", .glo "parts", .glo "only", .glo "within", .glo "is_hue", .glo "clash_of", .glo "is_hueing", .glo "is_whole", .glo "classes", .glo "is_place_of", .glo "is_odd_set", .glo "is_full_set", .glo "hues_to_try", .glo "is_new_tie", .glo "is_tree_behind", .glo "shows_fewer", .glo "shows_fewest", .glo "tie_of", .glo "look_hues", .glo "row_from", .glo "neighbours", .glo "row_with"]
def fa1 : List He.Fa := [.glo "word_of", .glo "rows_of", .glo "other_of", .glo "exchanged", .glo "look_so", .glo "with_hue", .glo "dropped", .glo "moved", .glo "row_turned", .glo "made_by", .glo "done_step", .glo "sizes", .glo "end_of_hue", .glo "step_between", .glo "evened", .glo "ties_near", .glo "full_set", .glo "paper_by_set", .glo "paper_by_place", .glo "fewest", .glo "ties_beside", .glo "from_lists", .glo "lists_for", .glo "filled", .glo "hues_left", .glo "is_bare", .glo "ends_all", .glo "shows_lists", .glo "shows_filled", .glo "_law_tape"]
def fa2 : List He.Fa := [.glo "_law_draw", .glo "_law_pairs_by", .glo "_law_web", .glo "_law_small", .glo "_law_ten", .glo "_law_turned", .glo "_law_any", .glo "_law_paper_right", .glo "_law_filled_right", .glo "_law_some_right", .glo "law", .free "len", .free "max", .free "min", .free "range", .free "enumerate", .free "isinstance", .free "int", .free "bool", .free "list", .free "tuple", .free "set", .free "sorted", .free "sum", .free "all", .free "any", .free "zip", .free "abs", .str "PLACE" "place", .str "SET" "set"]
def fa3 : List He.Fa := [.str "TREE" "tree", .str "OPEN" "open", .str "RING" "ring", .str "HUE" "hue", .str "DROP" "drop", .str "MOVE" "move", .str "HUEING" "hueing", .str "NONE" "none", .glo "Search", .cls "Search", .mkr "Search", .noat "Search" "near", .noat "Search" "below", .meth "Search" "free_hues", .meth "Search" "open_hues", .meth "Search" "narrowest", .meth "Search" "goes_on", .glo "Lists", .cls "Lists", .mkr "Lists", .noat "Lists" "beside", .noat "Lists" "own_lists", .meth "Lists" "left_for", .meth "Lists" "next_tie", .meth "Lists" "whole_from"]
def fa : List He.Fa := fa0 ++ fa1 ++ fa2 ++ fa3
def fn0 : List He.DefD := [⟨("is_number", none), "is_number", "is_number", defArgs XS_is_number, defBody XS_is_number, defScope XS_is_number, [], []⟩,
  ⟨("look_place", none), "look_place", "look_place", defArgs XS_look_place, defBody XS_look_place, defScope XS_look_place, [], []⟩,
  ⟨("look_tie", none), "look_tie", "look_tie", defArgs XS_look_tie, defBody XS_look_tie, defScope XS_look_tie, [], []⟩,
  ⟨("ties_by_place", none), "ties_by_place", "ties_by_place", defArgs XS_ties_by_place, defBody XS_ties_by_place, defScope XS_ties_by_place, [], []⟩,
  ⟨("ties_at", none), "ties_at", "ties_at", defArgs XS_ties_at, defBody XS_ties_at, defScope XS_ties_at, [], []⟩,
  ⟨("count_at", none), "count_at", "count_at", defArgs XS_count_at, defBody XS_count_at, defScope XS_count_at, [], []⟩,
  ⟨("most_at", none), "most_at", "most_at", defArgs XS_most_at, defBody XS_most_at, defScope XS_most_at, [], []⟩,
  ⟨("far_end", none), "far_end", "far_end", defArgs XS_far_end, defBody XS_far_end, defScope XS_far_end, [], []⟩,
  ⟨("part_from", none), "part_from", "part_from", defArgs XS_part_from, defBody XS_part_from, defScope XS_part_from, [], []⟩,
  ⟨("parts", none), "parts", "parts", defArgs XS_parts, defBody XS_parts, defScope XS_parts, [], []⟩,
  ⟨("only", none), "only", "only", defArgs XS_only, defBody XS_only, defScope XS_only, [], []⟩,
  ⟨("within", none), "within", "within", defArgs XS_within, defBody XS_within, defScope XS_within, [], []⟩,
  ⟨("is_hue", none), "is_hue", "is_hue", defArgs XS_is_hue, defBody XS_is_hue, defScope XS_is_hue, [], []⟩,
  ⟨("clash_of", none), "clash_of", "clash_of", defArgs XS_clash_of, defBody XS_clash_of, defScope XS_clash_of, [], []⟩,
  ⟨("is_hueing", none), "is_hueing", "is_hueing", defArgs XS_is_hueing, defBody XS_is_hueing, defScope XS_is_hueing, [], []⟩,
  ⟨("is_whole", none), "is_whole", "is_whole", defArgs XS_is_whole, defBody XS_is_whole, defScope XS_is_whole, [], []⟩,
  ⟨("classes", none), "classes", "classes", defArgs XS_classes, defBody XS_classes, defScope XS_classes, [], []⟩,
  ⟨("is_place_of", none), "is_place_of", "is_place_of", defArgs XS_is_place_of, defBody XS_is_place_of, defScope XS_is_place_of, [], []⟩,
  ⟨("is_odd_set", none), "is_odd_set", "is_odd_set", defArgs XS_is_odd_set, defBody XS_is_odd_set, defScope XS_is_odd_set, [], []⟩,
  ⟨("is_full_set", none), "is_full_set", "is_full_set", defArgs XS_is_full_set, defBody XS_is_full_set, defScope XS_is_full_set, [], []⟩]
def fn1 : List He.DefD := [⟨("hues_to_try", none), "hues_to_try", "hues_to_try", defArgs XS_hues_to_try, defBody XS_hues_to_try, defScope XS_hues_to_try, [], []⟩,
  ⟨("is_new_tie", none), "is_new_tie", "is_new_tie", defArgs XS_is_new_tie, defBody XS_is_new_tie, defScope XS_is_new_tie, [], []⟩,
  ⟨("is_tree_behind", none), "is_tree_behind", "is_tree_behind", defArgs XS_is_tree_behind, defBody XS_is_tree_behind, defScope XS_is_tree_behind, [], []⟩,
  ⟨("shows_fewer", none), "shows_fewer", "shows_fewer", defArgs XS_shows_fewer, defBody XS_shows_fewer, defScope XS_shows_fewer, [], []⟩,
  ⟨("shows_fewest", none), "shows_fewest", "shows_fewest", defArgs XS_shows_fewest, defBody XS_shows_fewest, defScope XS_shows_fewest, [], []⟩,
  ⟨("tie_of", none), "tie_of", "tie_of", defArgs XS_tie_of, defBody XS_tie_of, defScope XS_tie_of, [], []⟩,
  ⟨("look_hues", none), "look_hues", "look_hues", defArgs XS_look_hues, defBody XS_look_hues, defScope XS_look_hues, [], []⟩,
  ⟨("row_from", none), "row_from", "row_from", defArgs XS_row_from, defBody XS_row_from, defScope XS_row_from, [], []⟩,
  ⟨("neighbours", none), "neighbours", "neighbours", defArgs XS_neighbours, defBody XS_neighbours, defScope XS_neighbours, [], []⟩,
  ⟨("row_with", none), "row_with", "row_with", defArgs XS_row_with, defBody XS_row_with, defScope XS_row_with, [], []⟩,
  ⟨("word_of", none), "word_of", "word_of", defArgs XS_word_of, defBody XS_word_of, defScope XS_word_of, [], []⟩,
  ⟨("rows_of", none), "rows_of", "rows_of", defArgs XS_rows_of, defBody XS_rows_of, defScope XS_rows_of, [], []⟩,
  ⟨("other_of", none), "other_of", "other_of", defArgs XS_other_of, defBody XS_other_of, defScope XS_other_of, [], []⟩,
  ⟨("exchanged", none), "exchanged", "exchanged", defArgs XS_exchanged, defBody XS_exchanged, defScope XS_exchanged, [], []⟩,
  ⟨("look_so", none), "look_so", "look_so", defArgs XS_look_so, defBody XS_look_so, defScope XS_look_so, [], []⟩,
  ⟨("with_hue", none), "with_hue", "with_hue", defArgs XS_with_hue, defBody XS_with_hue, defScope XS_with_hue, [], []⟩,
  ⟨("dropped", none), "dropped", "dropped", defArgs XS_dropped, defBody XS_dropped, defScope XS_dropped, [], []⟩,
  ⟨("moved", none), "moved", "moved", defArgs XS_moved, defBody XS_moved, defScope XS_moved, [], []⟩,
  ⟨("row_turned", none), "row_turned", "row_turned", defArgs XS_row_turned, defBody XS_row_turned, defScope XS_row_turned, [], []⟩,
  ⟨("made_by", none), "made_by", "made_by", defArgs XS_made_by, defBody XS_made_by, defScope XS_made_by, [], []⟩]
def fn2 : List He.DefD := [⟨("done_step", none), "done_step", "done_step", defArgs XS_done_step, defBody XS_done_step, defScope XS_done_step, [], []⟩,
  ⟨("sizes", none), "sizes", "sizes", defArgs XS_sizes, defBody XS_sizes, defScope XS_sizes, [], []⟩,
  ⟨("end_of_hue", none), "end_of_hue", "end_of_hue", defArgs XS_end_of_hue, defBody XS_end_of_hue, defScope XS_end_of_hue, [], []⟩,
  ⟨("step_between", none), "step_between", "step_between", defArgs XS_step_between, defBody XS_step_between, defScope XS_step_between, [], []⟩,
  ⟨("evened", none), "evened", "evened", defArgs XS_evened, defBody XS_evened, defScope XS_evened, [], []⟩,
  ⟨("ties_near", none), "ties_near", "ties_near", defArgs XS_ties_near, defBody XS_ties_near, defScope XS_ties_near, [], []⟩,
  ⟨("Search", some "__init__"), "__init__", "Search.__init__", defArgs XS_Search_init, defBody XS_Search_init, defScope XS_Search_init, [], []⟩,
  ⟨("Search", some "free_hues"), "free_hues", "Search.free_hues", defArgs XS_Search_free_hues, defBody XS_Search_free_hues, defScope XS_Search_free_hues, [], []⟩,
  ⟨("Search", some "open_hues"), "open_hues", "Search.open_hues", defArgs XS_Search_open_hues, defBody XS_Search_open_hues, defScope XS_Search_open_hues, [], []⟩,
  ⟨("Search", some "narrowest"), "narrowest", "Search.narrowest", defArgs XS_Search_narrowest, defBody XS_Search_narrowest, defScope XS_Search_narrowest, [], []⟩,
  ⟨("Search", some "goes_on"), "goes_on", "Search.goes_on", defArgs XS_Search_goes_on, defBody XS_Search_goes_on, defScope XS_Search_goes_on, [], []⟩,
  ⟨("full_set", none), "full_set", "full_set", defArgs XS_full_set, defBody XS_full_set, defScope XS_full_set, [], []⟩,
  ⟨("paper_by_set", none), "paper_by_set", "paper_by_set", defArgs XS_paper_by_set, defBody XS_paper_by_set, defScope XS_paper_by_set, [], []⟩,
  ⟨("paper_by_place", none), "paper_by_place", "paper_by_place", defArgs XS_paper_by_place, defBody XS_paper_by_place, defScope XS_paper_by_place, [], []⟩,
  ⟨("fewest", none), "fewest", "fewest", defArgs XS_fewest, defBody XS_fewest, defScope XS_fewest, [], []⟩,
  ⟨("ties_beside", none), "ties_beside", "ties_beside", defArgs XS_ties_beside, defBody XS_ties_beside, defScope XS_ties_beside, [], []⟩,
  ⟨("Lists", some "__init__"), "__init__", "Lists.__init__", defArgs XS_Lists_init, defBody XS_Lists_init, defScope XS_Lists_init, [], []⟩,
  ⟨("Lists", some "left_for"), "left_for", "Lists.left_for", defArgs XS_Lists_left_for, defBody XS_Lists_left_for, defScope XS_Lists_left_for, [], []⟩,
  ⟨("Lists", some "next_tie"), "next_tie", "Lists.next_tie", defArgs XS_Lists_next_tie, defBody XS_Lists_next_tie, defScope XS_Lists_next_tie, [], []⟩,
  ⟨("Lists", some "whole_from"), "whole_from", "Lists.whole_from", defArgs XS_Lists_whole_from, defBody XS_Lists_whole_from, defScope XS_Lists_whole_from, [], []⟩]
def fn3 : List He.DefD := [⟨("from_lists", none), "from_lists", "from_lists", defArgs XS_from_lists, defBody XS_from_lists, defScope XS_from_lists, [], []⟩,
  ⟨("lists_for", none), "lists_for", "lists_for", defArgs XS_lists_for, defBody XS_lists_for, defScope XS_lists_for, [], []⟩,
  ⟨("filled", none), "filled", "filled", defArgs XS_filled, defBody XS_filled, defScope XS_filled, [], []⟩,
  ⟨("hues_left", none), "hues_left", "hues_left", defArgs XS_hues_left, defBody XS_hues_left, defScope XS_hues_left, [], []⟩,
  ⟨("is_bare", none), "is_bare", "is_bare", defArgs XS_is_bare, defBody XS_is_bare, defScope XS_is_bare, [], []⟩,
  ⟨("ends_all", none), "ends_all", "ends_all", defArgs XS_ends_all, defBody XS_ends_all, defScope XS_ends_all, [], []⟩,
  ⟨("shows_lists", none), "shows_lists", "shows_lists", defArgs XS_shows_lists, defBody XS_shows_lists, defScope XS_shows_lists, [], []⟩,
  ⟨("shows_filled", none), "shows_filled", "shows_filled", defArgs XS_shows_filled, defBody XS_shows_filled, defScope XS_shows_filled, [], []⟩,
  ⟨("_law_tape", none), "_law_tape", "_law_tape", defArgs XS_law_tape, defBody XS_law_tape, defScope XS_law_tape, [], []⟩,
  ⟨("_law_draw", none), "_law_draw", "_law_draw", defArgs XS_law_draw, defBody XS_law_draw, defScope XS_law_draw, [], []⟩,
  ⟨("_law_pairs_by", none), "_law_pairs_by", "_law_pairs_by", defArgs XS_law_pairs_by, defBody XS_law_pairs_by, defScope XS_law_pairs_by, [], []⟩,
  ⟨("_law_web", none), "_law_web", "_law_web", defArgs XS_law_web, defBody XS_law_web, defScope XS_law_web, [], []⟩,
  ⟨("_law_small", none), "_law_small", "_law_small", defArgs XS_law_small, defBody XS_law_small, defScope XS_law_small, [], []⟩,
  ⟨("_law_ten", none), "_law_ten", "_law_ten", defArgs XS_law_ten, defBody XS_law_ten, defScope XS_law_ten, [], []⟩,
  ⟨("_law_turned", none), "_law_turned", "_law_turned", defArgs XS_law_turned, defBody XS_law_turned, defScope XS_law_turned, [], []⟩,
  ⟨("_law_any", none), "_law_any", "_law_any", defArgs XS_law_any, defBody XS_law_any, defScope XS_law_any, [], []⟩,
  ⟨("_law_paper_right", none), "_law_paper_right", "_law_paper_right", defArgs XS_law_paper_right, defBody XS_law_paper_right, defScope XS_law_paper_right, [], []⟩,
  ⟨("_law_filled_right", none), "_law_filled_right", "_law_filled_right", defArgs XS_law_filled_right, defBody XS_law_filled_right, defScope XS_law_filled_right, [], []⟩,
  ⟨("_law_some_right", none), "_law_some_right", "_law_some_right", defArgs XS_law_some_right, defBody XS_law_some_right, defScope XS_law_some_right, [], []⟩,
  ⟨("law", none), "law", "law", defArgs XS_law, defBody XS_law, defScope XS_law, [], []⟩]
def fn : List He.DefD := fn0 ++ fn1 ++ fn2 ++ fn3
/-! the Hook over a list of addresses of our own -/
def refsF (o : Obj) : List Addr := match o.data with
  | .func fd => He.refV fd.code
  | .cls cd => [cd.ns]
  | _ => []
def refsN (o : Obj) : List Addr := match o.data with
  | .dict es _ => es.toList.flatMap fun e => He.refV e.val
  | _ => []
def lev (g : Addr → Option Obj) (f : Obj → List Addr) (as : List Addr) : List Addr := as.flatMap fun a => match g a with
  | some o => f o
  | none => []
/-- the module's dict, what it holds, the code objects and classes' dicts, the methods, their code objects -/
def asQ (g : Addr → Option Obj) : List Addr :=
  let l1 := lev g refsN [mainGlobals]
  let l2 := lev g refsF l1
  let l3 := lev g refsN l2
  let l4 := lev g refsF l3
  mainGlobals :: (l1 ++ (l2 ++ (l3 ++ l4)))
def obsQ (fa : List He.Fa) (fn : List He.DefD) (tf : List He.Defn) (g : Addr → Option Obj) : He.AlX := (He.obsT fa fn [] (He.frT g (asQ g)), true && He.tabsB g tf (He.frT g (asQ g)))
theorem saysQ_of {fa : List He.Fa} {fn : List He.DefD} {tf : List He.Defn} {w : World} {h : Heap} (e : obsQ fa fn tf h.get? = He.valX fn [] w) : He.SaysX fa fn [] tf (fun _ => true) w h (He.frT h.get? (asQ h.get?)) := by
  have e1 : He.obsT fa fn [] (He.frT h.get? (asQ h.get?)) = He.valT fn [] w := congrArg (fun z : He.AlX => z.1) e
  have e2 : (true && He.tabsB h.get? tf (He.frT h.get? (asQ h.get?))) = true := congrArg (fun z : He.AlX => z.2) e
  obtain ⟨h1, h2⟩ := He.ba e2
  have key : ∀ p ∈ tf, PySem.W.codeHdIn (He.frT h.get? (asQ h.get?)) (He.cT (He.frT h.get? (asQ h.get?)) p).1 (He.cT (He.frT h.get? (asQ h.get?)) p).2 = true ∧ ∃ o, h.get? (He.cT (He.frT h.get? (asQ h.get?)) p).2 = some o ∧ He.emptyTab o = true := fun p hp => by
    obtain ⟨h3, h4⟩ := He.ba (List.all_eq_true.mp h2 p hp)
    refine ⟨h3, ?_⟩
    cases q : h.get? (He.cT (He.frT h.get? (asQ h.get?)) p).2 with
    | none =>
      rw [q] at h4
      cases h4
    | some o =>
      rw [q] at h4
      exact ⟨o, rfl, h4⟩
  exact ⟨e1, h1, fun p hp => (key p hp).1, fun p hp => by
    obtain ⟨_, o, q, z⟩ := key p hp
    exact He.frT_none q z, fun p hp => by
    obtain ⟨_, o, q, z⟩ := key p hp
    rw [q, He.emptyTab_eq z]⟩
def hookQ (fa : List He.Fa) (fn : List He.DefD) (tf : List He.Defn) : PySem.W.Hook where
  α := He.AlX
  obs := fun s => obsQ fa fn tf s.heap.get?
  val := fun w => He.valX fn [] w
  says := fun w h => ∃ K : PySem.W.Frag, K.In h ∧ He.SaysX fa fn [] tf (fun _ => true) w h K
  of := fun _ _ e => ⟨_, He.frT_in, saysQ_of e⟩
  keeps := fun _ _ _ ⟨K, hK, c⟩ k => ⟨K, PySem.W.Frag.In.keeps hK k, ⟨c.t, c.more, c.hd, c.out, fun p hp => k _ _ (c.empty p hp)⟩⟩
theorem obsQ_eq {fa : List He.Fa} {fn : List He.DefD} {tf : List He.Defn} {g : Addr → Option Obj} {s : Shared} (h : ∀ a, g a = s.heap.get? a) : obsQ fa fn tf g = (hookQ fa fn tf).obs s := by
  have e : g = s.heap.get? := funext h
  rw [e] <;> rfl
def tf : List He.Defn := [("Lists", some "next_tie")]
abbrev R : PySem.W.OpenRow := PySem.W.OpenLaw.row PySem.Challenge.rw_huedties_k89_whole_papers_of_few_hues
abbrev hk : PySem.W.Hook := hookQ fa fn tf
def ob (s : PySem.W.SharedT) : He.AlX := obsQ fa fn tf (HandSHeadRun.getT s)
theorem ob_eq (s : PySem.W.SharedT) : ob s = hk.obs s.abs := obsQ_eq (HandSHeadRun.getT_eq s)
theorem run (w : World) : HandSHeadRun.RunEq R (PySem.W.view R.prog [101]) hk ob 6000 loose w := by
  intro os
  kernel_rfl
end HD
set_option Elab.async false
set_option linter.all false
set_option maxRecDepth 100000
set_option maxHeartbeats 4000000
/-! enumerate of a tuple; zip of a list and a tuple -/
namespace U
open PySem PySem.Spec PyProof.Rows L2
open PySem.AutoSeq1 (wpAny_loadPart')

theorem meets_enumT (l : Addr) (items : Array Value) :
    Meets (Builtin.«enumerate.__new__» ⟨[.type "enumerate", .ref l], []⟩) (fun _ R s => s.heap.IsTuple l items ∧
      R (.ok (.ret (.ref (s.heap.push { cls := .type "tuple_iterator", data := .fields #[.ref l, .int 0 0] }).objs.size)))
        { s with heap := (s.heap.push { cls := .type "tuple_iterator", data := .fields #[.ref l, .int 0 0] }).push { cls := .type "enumerate", data := .fields #[.none, .bool false, .ref s.heap.objs.size, rawInt 0, .none, .none] } }) :=
  .of_wp fun prog w A R s h => by
    obtain ⟨hp, g, d, tk, os⟩ := s; obtain ⟨hl, h⟩ := h
    have hsub := sub_enumerate
    have hL : Heap.IsTuple (Shared.heap ⟨hp, g, d, tk, os⟩) l items := hl
    have q1 : ∀ {A' : Around} {E : Value → Shared → Prop} {Q : Value → Shared → Prop}, Q (.ref hp.objs.size) ⟨hp.push { cls := .type "tuple_iterator", data := .fields #[.ref l, .int 0 0] }, g, d, tk, os⟩ → wpAny (model prog w) A' (pyIter (.ref l)) Q E ⟨hp, g, d, tk, os⟩ :=
      fun q => wpAny_pyIter_tuple hL q
    wp_walk using q1
    refine wpAny_stack_any fun st => wpAny_pure ?_
    split
    · rename_i c _ _ _ _ _
      cases (c == Value.type "enumerate")
      · wp_walk using q1
        exact ⟨_, rfl, h⟩
      · wp_walk using q1
        exact ⟨_, rfl, h⟩
    · wp_walk using q1
      exact ⟨_, rfl, h⟩
theorem call_enumT {prog : Program} {w : World} {A : Around} {E : Value → Shared → Prop} {s : Shared} {l : Addr} {items : Array Value} {Q : Value → Shared → Prop} (hL : s.heap.IsTuple l items)
    (h : ∀ h', IsEnum h' (s.heap.objs.size + 1) s.heap.objs.size 0 .none → h'.IsTupleIter s.heap.objs.size l 0 → h'.objs.size = s.heap.objs.size + 2 →
      (∀ b o, s.heap.get? b = some o → h'.get? b = some o) → Q (.ref (s.heap.objs.size + 1)) { s with heap := h' }) :
    wpAny (model prog w) A (call (.type "enumerate") [.ref l]) Q E s := by
  refine callType_new F.called_enumerate (by decide) (F.typeCall_enumerate_1 _) (F.newCall_enumerate_1 _) (fun obj => F.args_object_init_2 obj _) F.entry_enumerate_new
    (meets_enumT l items) ⟨hL, ?_⟩
  have hz : (s.heap.push { cls := .type "tuple_iterator", data := .fields #[.ref l, .int 0 0] }).objs.size = s.heap.objs.size + 1 := Heap.size_push ..
  show _ ∧ _
  rw [hz]
  have he : IsEnum ((s.heap.push { cls := .type "tuple_iterator", data := .fields #[.ref l, .int 0 0] }).push
      { cls := .type "enumerate", data := .fields #[.none, .bool false, .ref s.heap.objs.size, rawInt 0, .none, .none] }) (s.heap.objs.size + 1) s.heap.objs.size 0 .none := by
    have := Heap.get?_push_size (s.heap.push { cls := .type "tuple_iterator", data := .fields #[.ref l, .int 0 0] })
      (o := { cls := .type "enumerate", data := .fields #[.none, .bool false, .ref s.heap.objs.size, rawInt 0, .none, .none] }) rfl
    rw [hz] at this; exact this
  refine ⟨⟨_, he, rfl⟩, h _ he ⟨_, Heap.get?_push_of_some _ (Heap.get?_push_size _ rfl), rfl, rfl⟩ (by rw [Heap.size_push, hz]) fun b o x => Heap.get?_push_of_some _ (Heap.get?_push_of_some _ x)⟩

/-- the tuple at a, each item in a new pair -/
def IteT (K : PySem.W.Frag) (a : Addr) : It :=
  ⟨fun i H => ∃ (xs : List V) (x : V), SqT K H a xs ∧ xs[i]? = some x, fun i H v H' => ∃ T x, v = .ref T ∧ H T = none ∧ H' = upd H T (.tup [.int (i : Nat), x]) ∧ ∀ xs, SqT K H a xs → xs[i]? = some x, fun i H => ∃ xs : List V, SqT K H a xs ∧ xs.length ≤ i⟩
theorem turn_enumT {P : Program} {w : World} {K : PySem.W.Frag} {elts : List Expr} {kk : Nat} {tpos : Pos} (a e it : Addr) (hai : a ≠ it) (hea : e ≠ a) :
    Turn P w K (.Tuple elts kk tpos) (IteT K a) [e, it] e (fun i h => (∃ old, IsEnum h e it ((i : Nat) : Int) old) ∧ h.IsTupleIter it a i ∧ e ≠ it) where
  mem := by simp
  obj := fun i h st b hb => by
    obtain ⟨⟨old, he⟩, ⟨o, ho, hc, hd⟩, _⟩ := st
    have e' : b = e ∨ b = it := by simpa using hb
    rcases e' with z | z
    · rw [z]; exact ⟨_, he, fun v q => nomatch q⟩
    · rw [z]; exact ⟨o, ho, fun v q => by rw [hd] at q; cases q⟩
  keep := fun i h h' st k => let ⟨⟨old, he⟩, hi, hne⟩ := st; ⟨⟨old, k e (by simp) _ he⟩, hi.at fun o q => k it (by simp) o q, hne⟩
  item := by
    intro X hP hw hK hc i pins s σ H E I hf st hg
    subst hP hw hK
    obtain ⟨⟨old, he⟩, hit, hne⟩ := st
    obtain ⟨xs, x, hq, hx⟩ := hg
    obtain ⟨its, rv, p, hz⟩ := I.tuple hq
    obtain ⟨u, hu, ru⟩ := rv.get hx
    have hel : e < s.heap.objs.size := Heap.lt_size he
    have hil : it < s.heap.objs.size := by obtain ⟨_, q, _⟩ := hit; exact Heap.lt_size q
    have hin : i < its.toArray.size := by
      have h1 := (List.getElem?_eq_some_iff.mp hu).1
      simpa using h1
    have D := PySem.Draws.tuple (prog := X.prog) (w := X.w) (A := X.A.in1) (I.ok.hd hc) it a hai its.toArray
    refine PySem.wpAny_pyNext_enum_itemC D he ⟨hit, p⟩ hin hne (by simp [hne, hea]) fun x' h' tk hPx ho st' hT hsz hk => ?_
    have ex : x' = u := by
      have h1 : its.toArray[i]? = some x' := hPx
      have h2 : its[i]? = some x' := by simpa using h1
      rw [hu] at h2
      exact (Option.some.inj h2).symm
    subst ex
    obtain ⟨hit', _⟩ := st'
    refine ⟨_, rfl, wpAny_letOwnedTupleGo_enum (s := { s with heap := h', toks := tk + 1 }) ho fun h'' he' sb => ?_⟩
    have hT2 : h''.get? s.heap.objs.size = some { cls := .type "tuple", data := .seq #[.int i tk, x'] } := (sb.2 _ (Nat.ne_of_gt hel)).trans hT
    have new : ObjOk X.prog X.w (upd H s.heap.objs.size (.tup [.int (i : Nat), x])) h'' s.heap.objs.size (.tup [.int (i : Nat), x]) :=
      ⟨by show 2 ≤ sizeLine; decide, [.int i tk, x'], .cons ⟨_, rfl⟩ (.cons ru .nil), ⟨_, hT2, rfl, _, rfl⟩⟩
    have I1 : Inv X pins σ (upd H s.heap.objs.size (.tup [.int (i : Nat), x])) { s with heap := h'', toks := tk + 1 } :=
      I.turnedNew (ch := [e, it]) (fun b ob hb q => (sb.2 b (fun z => hb (by simp [z]))).trans (hk b ob (fun z => hb (by simp [z])) (fun z => hb (by simp [z])) q)) hf (Nat.le_refl _) new
    refine ⟨.ref s.heap.objs.size, _, I1, rfl, ⟨_, x, rfl, I.hok.fresh (Nat.le_refl _), rfl, fun ys hy => by rw [I.tuple_inj hy hq]; exact hx⟩, ⟨⟨x', ?_⟩, hit'.at fun o q => (sb.2 it (Ne.symm hne)).trans q, hne⟩, fun b hb => ?_⟩
    · have e1 : ((i + 1 : Nat) : Int) = (i : Int) + 1 := by omega
      rw [e1]; exact he'
    · have hb' : b < s.heap.objs.size := by
        have e' : b = e ∨ b = it := by simpa using hb
        rcases e' with z | z
        · rw [z]; exact hel
        · rw [z]; exact hil
      rw [upd_ne (Nat.ne_of_lt hb')]
      exact (hf b hb).1
  done := by
    intro X hP hw hK hc i pins s σ H E I hf st hg
    subst hP hw hK
    obtain ⟨⟨old, he⟩, hit, hne⟩ := st
    obtain ⟨xs, hq, hx⟩ := hg
    obtain ⟨its, rv, p, hz⟩ := I.tuple hq
    obtain ⟨f0, f1, f2, f3, f4, f5⟩ := hf it (by simp)
    have hl := rv.length
    have D := PySem.Draws.tuple (prog := X.prog) (w := X.w) (A := X.A.in1) (I.ok.hd hc) it a hai its.toArray
    have fin : ∀ h', Heap.ExtBut it s.heap h' → (fun r s1 => r = none ∧ Inv X pins σ H s1) (none : Option Value) { s with heap := h' } := fun h' eb => ⟨rfl, I.turned (t' := s.toks) (fun b o hb q => eb b o hb q) f0 f1 f3 f4 f5⟩
    have hT : s.TypeIs (.ref e) "enumerate" := ⟨_, he, rfl⟩
    -- the iterator may stand beyond the tuple's end: its own end
    unfold pyNext
    refine wpAny_bind (wpAny_attempt (wpAny_callSpecial?_slot (name := Str.ofString "__next__") hT PySem.F.slot_enumerate_next
      (wpAny_call_entry PySem.F.slot_enumerate_next hT PySem.F.entry_enumerate_next ?_ (PySem.F.args_enumerate_next_1 _))))
    show wpAny _ _ (field (.ref e) 2 >>= _) _ _ s
    refine wpAny_bind (wpAny_field he rfl (x := .ref it) rfl ?_)
    refine wpAny_bind (PySem.wpAny_nextOf_tuple_end (I.ok.hd hc) hit p (by simp; omega) fun h' x hk hx' => ?_)
    obtain ⟨o, ho, hco⟩ := hx'
    refine wpAny_bind (wpAny_isInstance (T := "StopIteration") (b := true) ⟨o, ho, hco⟩ isSubtype_stop ?_)
    exact wpAny_pure (fin h' hk)
  self := fun A i s Q E st h => let ⟨⟨_, he⟩, _⟩ := st; wpAny_pyIter_enum he h
def iEnumT (K : PySem.W.Frag) (ta : TA) : TI := fun σ H R => ta σ H fun vs H1 => ∃ a xs, vs = [.ref a] ∧ SqT K H1 a xs ∧ R (IteT K a) H1
theorem pi_enumT {X : Cx} {e : Expr} {ta : TA} {p pos tpos : Pos} {elts : List Expr} {kk : Nat} (hg : Gl X "enumerate") (hm : X.mg "enumerate" = none) (ha : PA X [e] ta) (hs : starEach [e] X.env = [(false, eval e X.env)] := by rfl) :
    PI X (.Tuple elts kk tpos) (.Call (.Name "enumerate" p) [e] [] pos) (iEnumT X.K ta) := by
  refine ⟨fun pins s σ H R I h => ?_⟩
  refine Call_ (ld_blt I hg hm boot_enumerate (PyProof.Rows.callWith_type1 (thn (ha.run pos pins s σ H _ I h) fun us s1 ⟨vs, H1, I1, r1, q1⟩ => ?_) hs rfl))
  obtain ⟨a, xs, ex, hq, q⟩ := q1
  subst ex
  cases r1 with
  | cons r rr =>
    cases rr
    cases r
    obtain ⟨its, rv, p', hz⟩ := I1.tuple hq
    refine call_enumT (show s1.heap.IsTuple a its.toArray from p') fun h' he hit hsz hk => wpAny_pyIter_enum he ?_
    have I2 : Inv X pins σ H1 { s1 with heap := h' } := I1.kept (t' := s1.toks) hk
    have la : a < s1.heap.objs.size := p'.lt
    refine ⟨s1.heap.objs.size + 1, [s1.heap.objs.size + 1, s1.heap.objs.size], _, _, H1, rfl, I2, turn_enumT a (s1.heap.objs.size + 1) s1.heap.objs.size (Nat.ne_of_lt la) (Nat.ne_of_gt (Nat.lt_succ_of_lt la)), ⟨⟨.none, he⟩, hit, Nat.succ_ne_self _⟩, fun b hb => ?_, q⟩
    have e' : b = s1.heap.objs.size + 1 ∨ b = s1.heap.objs.size := by simpa using hb
    have hle : s1.heap.objs.size ≤ b := by
      rcases e' with z | z
      · rw [z]; exact Nat.le_add_right _ _
      · rw [z]; exact Nat.le_refl _
    exact I1.fpOk hle (I1.hok.fresh hle)
theorem walk_enumT {K : PySem.W.Frag} {a : Addr} {xs : List V} : Walk (IteT K a) xs.length (fun H => SqT K H a xs) (YPair (fun i => some (.int (i : Nat))) (fun i => xs[i]?)) := by
  refine ⟨fun i _ hi q => ⟨xs, xs[i], q, by simp [hi]⟩, fun _ q => ⟨xs, q, Nat.le_refl _⟩, fun i H v H' _ q y => ?_⟩
  obtain ⟨T, x, h1, h2, h3, h4⟩ := y
  exact ⟨T, .int (i : Nat), x, h1, h2, h3, rfl, h4 xs q⟩

/-! ### zip(list, tuple) -/
def ItzM (K : PySem.W.Frag) (a b : Addr) : It :=
  ⟨fun i H => ∃ (xs ys : List V) (x y : V), SqL K H a xs ∧ SqT K H b ys ∧ xs[i]? = some x ∧ ys[i]? = some y,
    fun i H v H' => ∃ T x y, v = .ref T ∧ H T = none ∧ H' = upd H T (.tup [x, y]) ∧ (∀ xs, SqL K H a xs → xs[i]? = some x) ∧ ∀ ys, SqT K H b ys → ys[i]? = some y,
    fun i H => ∃ xs ys : List V, SqL K H a xs ∧ SqT K H b ys ∧ xs.length = i ∧ ys.length = i⟩
theorem turn_zipM {P : Program} {w : World} {K : PySem.W.Frag} {elts : List Expr} {kk : Nat} {tpos : Pos} {a b z TI TO i1 i2 : Addr} (D : PySem.ZipSep2 z TI TO i1 i2 [i1, a] [i2, b]) :
    Turn P w K (.Tuple elts kk tpos) (ItzM K a b) [z, TI, TO, i1, i2] z (fun i h => IsZip h z TI TO .none ∧ PySem.IsTupOf2 h TI (.ref i1) (.ref i2) ∧ (∃ x y, PySem.IsTupOf2 h TO x y) ∧ h.IsListIter i1 a i ∧ h.IsTupleIter i2 b i) where
  mem := by simp
  obj := fun i h st c hc => by
    obtain ⟨hz, hTI, ⟨x, y, hTO⟩, ⟨o1, e1, _, d1⟩, ⟨o2, e2, _, d2⟩⟩ := st
    have e' : c = z ∨ c = TI ∨ c = TO ∨ c = i1 ∨ c = i2 := by simpa using hc
    rcases e' with q | q | q | q | q
    · rw [q]; exact ⟨_, hz, fun v q => nomatch q⟩
    · rw [q]; exact ⟨_, hTI, fun v q => nomatch q⟩
    · rw [q]; exact ⟨_, hTO, fun v q => nomatch q⟩
    · rw [q]; exact ⟨o1, e1, fun v q => by rw [d1] at q; cases q⟩
    · rw [q]; exact ⟨o2, e2, fun v q => by rw [d2] at q; cases q⟩
  keep := fun i h h' st k => by
    obtain ⟨hz, hTI, ⟨x, y, hTO⟩, h1, h2⟩ := st
    exact ⟨k z (by simp) _ hz, k TI (by simp) _ hTI, ⟨x, y, k TO (by simp) _ hTO⟩, h1.at fun o q => k i1 (by simp) o q, h2.at fun o q => k i2 (by simp) o q⟩
  item := by
    intro X hP hw hK hc i pins s σ H E I hf st hg
    subst hP hw hK
    obtain ⟨hz, hTI, ⟨x0, y0, hTO⟩, h1, h2⟩ := st
    obtain ⟨xs, ys, x, y, hqx, hqy, hx, hy⟩ := hg
    obtain ⟨its, rv, p, _⟩ := I.list hqx
    obtain ⟨its2, rv2, p2, _⟩ := I.tuple hqy
    obtain ⟨u, hu, ru⟩ := rv.get hx
    obtain ⟨u2, hu2, ru2⟩ := rv2.get hy
    have hzl : z < s.heap.objs.size := Heap.lt_size hz
    have hai : a ≠ i1 := fun e => by
      obtain ⟨o1, e1, c1, _⟩ := h1
      obtain ⟨o2, n2, e2, c2, _⟩ := p
      rw [e, e1] at e2
      cases e2
      rw [c1] at c2
      exact absurd (Value.type.inj c2) (by decide)
    have hbi : b ≠ i2 := fun e => by
      obtain ⟨o1, e1, c1, _⟩ := h2
      obtain ⟨o2, e2, c2, _⟩ := p2
      rw [e, e1] at e2
      cases e2
      rw [c1] at c2
      exact absurd (Value.type.inj c2) (by decide)
    have n1 : i < its.toArray.size := by
      have h1 := (List.getElem?_eq_some_iff.mp hu).1
      simpa using h1
    have n2 : i < its2.toArray.size := by
      have h1 := (List.getElem?_eq_some_iff.mp hu2).1
      simpa using h1
    have D1 := PySem.Draws.list (prog := X.prog) (w := X.w) (A := X.A.in1) (I.ok.hd hc) i1 a hai its.toArray
    have D2 := PySem.Draws.tuple (prog := X.prog) (w := X.w) (A := X.A.in1) (I.ok.hd hc) i2 b hbi its2.toArray
    refine PySem.wpAny_pyNext_zipD2_item D D1 D2 hz hTI hTO ⟨h1, p.isList⟩ ⟨h2, p2⟩ n1 n2 fun u' u2' h' tk hP1 hP2 z' TO' st1' st2' hT hsz hk => ?_
    have ex : u' = u := by
      have h1 : its.toArray[i]? = some u' := hP1
      have h2 : its[i]? = some u' := by simpa using h1
      rw [hu] at h2
      exact (Option.some.inj h2).symm
    have ey : u2' = u2 := by
      have h1 : its2.toArray[i]? = some u2' := hP2
      have h2 : its2[i]? = some u2' := by simpa using h1
      rw [hu2] at h2
      exact (Option.some.inj h2).symm
    subst ex ey
    obtain ⟨h1', _⟩ := st1'
    obtain ⟨h2', _⟩ := st2'
    have nz1 : i1 ≠ z := Ne.symm D.zi1
    have nz2 : i2 ≠ z := Ne.symm D.zi2
    refine ⟨_, rfl, wpAny_letOwnedTupleGo_zip (s := { s with heap := h', toks := tk }) z' fun h'' z'' sb => ?_⟩
    have hT2 : h''.get? s.heap.objs.size = some { cls := .type "tuple", data := .seq #[u', u2'] } := (sb.2 _ (Nat.ne_of_gt hzl)).trans hT
    have new : ObjOk X.prog X.w (upd H s.heap.objs.size (.tup [x, y])) h'' s.heap.objs.size (.tup [x, y]) :=
      ⟨by show 2 ≤ sizeLine; decide, [u', u2'], .cons ru (.cons ru2 .nil), ⟨_, hT2, rfl, _, rfl⟩⟩
    have I1 : Inv X pins σ (upd H s.heap.objs.size (.tup [x, y])) { s with heap := h'', toks := tk } :=
      I.turnedNew (t' := tk) (ch := [z, TI, TO, i1, i2]) (fun c o hb q => (sb.2 c (fun q' => hb (by simp [q']))).trans (hk c o (fun q' => hb (by simp [q'])) (fun q' => hb (by simp [q'])) (fun q' => hb (by simp [q'])) (fun q' => hb (by simp [q'])) q)) hf (Nat.le_refl _) new
    refine ⟨.ref s.heap.objs.size, _, I1, rfl, ⟨_, x, y, rfl, I.hok.fresh (Nat.le_refl _), rfl, fun l hl => by rw [I.list_inj hl hqx]; exact hx, fun l hl => by rw [I.tuple_inj hl hqy]; exact hy⟩, ⟨z'', ?_, ⟨u', u2', ?_⟩, ?_, ?_⟩, fun c hcm => ?_⟩
    · exact (sb.2 _ D.TIz).trans (hk _ _ D.TIz D.TITO D.TIi1 D.TIi2 hTI)
    · exact (sb.2 _ D.TOz).trans TO'
    · exact h1'.at fun o q => (sb.2 _ nz1).trans q
    · exact h2'.at fun o q => (sb.2 _ nz2).trans q
    · have hlt : c < s.heap.objs.size := by
        have e' : c = z ∨ c = TI ∨ c = TO ∨ c = i1 ∨ c = i2 := by simpa using hcm
        rcases e' with q | q | q | q | q
        · rw [q]; exact hzl
        · rw [q]; exact Heap.lt_size hTI
        · rw [q]; exact Heap.lt_size hTO
        · rw [q]; obtain ⟨_, e1, _⟩ := h1; exact Heap.lt_size e1
        · rw [q]; obtain ⟨_, e2, _⟩ := h2; exact Heap.lt_size e2
      rw [upd_ne (Nat.ne_of_lt hlt)]
      exact (hf c hcm).1
  done := by
    intro X hP hw hK hc i pins s σ H E I hf st hg
    subst hP hw hK
    obtain ⟨hz, hTI, ⟨x0, y0, hTO⟩, h1, h2⟩ := st
    obtain ⟨xs, ys, hqx, hqy, hend1, hend2⟩ := hg
    obtain ⟨its, rv, p, _⟩ := I.list hqx
    obtain ⟨its2, rv2, p2, _⟩ := I.tuple hqy
    have l1 := rv.length
    have l2 := rv2.length
    have hai : a ≠ i1 := fun e => by
      obtain ⟨o1, e1, c1, _⟩ := h1
      obtain ⟨o2, n2, e2, c2, _⟩ := p
      rw [e, e1] at e2
      cases e2
      rw [c1] at c2
      exact absurd (Value.type.inj c2) (by decide)
    have hbi : b ≠ i2 := fun e => by
      obtain ⟨o1, e1, c1, _⟩ := h2
      obtain ⟨o2, e2, c2, _⟩ := p2
      rw [e, e1] at e2
      cases e2
      rw [c1] at c2
      exact absurd (Value.type.inj c2) (by decide)
    have D1 := PySem.Draws.list (prog := X.prog) (w := X.w) (A := X.A.in1) (I.ok.hd hc) i1 a hai its.toArray
    have D2 := PySem.Draws.tuple (prog := X.prog) (w := X.w) (A := X.A.in1) (I.ok.hd hc) i2 b hbi its2.toArray
    exact PySem.wpAny_pyNext_zipD2_end D D1 D2 hz hTI hTO ⟨h1, p.isList⟩ ⟨h2, p2⟩ (by simp; omega) (by simp; omega) (.inl (by simp; omega)) fun h' tk hk => ⟨rfl, I.turnedL (t' := tk) (ch := [z, TI, TO, i1, i2]) (fun c o hb q =>
      hk c o (fun q' => hb (by simp [q'])) (fun q' => hb (by simp [q'])) (fun q' => hb (by simp [q'])) (fun q' => hb (by simp [q'])) q) hf⟩
  self := fun A i s Q E st h => wpAny_pyIter_zip st.1 h
def iZipM (K : PySem.W.Frag) (ta : TA) : TI := fun σ H R => ta σ H fun vs H1 => ∃ a b xs ys, vs = [.ref a, .ref b] ∧ SqL K H1 a xs ∧ SqT K H1 b ys ∧ R (ItzM K a b) H1
theorem pi_zipM {X : Cx} {e e2 : Expr} {ta : TA} {p pos tpos : Pos} {elts : List Expr} {kk : Nat} (hg : Gl X "zip") (hm : X.mg "zip" = none) (ha : PA X [e, e2] ta)
    (hs : starEach [e, e2] X.env = (false, eval e X.env) :: starEach [e2] X.env := by rfl) (hpl : (backTo pos (starEach [e2] X.env)).any (·.1) = false := by rfl) :
    PI X (.Tuple elts kk tpos) (.Call (.Name "zip" p) [e, e2] [] pos) (iZipM X.K ta) := by
  refine ⟨fun pins s σ H R I h => ?_⟩
  refine Call_ (ld_blt I hg hm PyProof.Rows.boot_zip (PyProof.Rows.callWith_type1 (thn (ha.run pos pins s σ H _ I h) fun us s1 ⟨vs, H1, I1, r1, q1⟩ => ?_) hs hpl))
  obtain ⟨a, b, xs, ys, ex, hqx, hqy, q⟩ := q1
  subst ex
  cases r1 with
  | cons r rr =>
    cases rr with
    | cons r' rr =>
      cases rr
      cases r
      cases r'
      obtain ⟨its, rv, p1, _⟩ := I1.list hqx
      obtain ⟨its2, rv2, p2, _⟩ := I1.tuple hqy
      have la : a < s1.heap.objs.size := p1.lt
      have lb : b < s1.heap.objs.size := p2.lt
      refine PySem.zip_begins2 (PySem.begins_list a its.toArray) (PySem.begins_tuple b its2.toArray) p1.isList p2 fun h' hz hTI hTO h1 h2 hsz hk => wpAny_pyIter_zip hz ?_
      have I2 : Inv X pins σ H1 { s1 with heap := h' } := I1.kept (t' := s1.toks) hk
      refine ⟨s1.heap.objs.size + 4, [s1.heap.objs.size + 4, s1.heap.objs.size + 2, s1.heap.objs.size + 3, s1.heap.objs.size, s1.heap.objs.size + 1], _, _, H1, rfl, I2,
        turn_zipM (PySem.zip_sep2 (fp1 := [a]) (fp2 := [b]) (fun c hc => by rw [List.mem_singleton.mp hc]; exact la) (fun c hc => by rw [List.mem_singleton.mp hc]; exact lb)), ⟨hz, hTI, ⟨_, _, hTO⟩, ⟨_, h1, rfl, rfl⟩, ⟨_, h2, rfl, rfl⟩⟩, fun c hcm => ?_, q⟩
      have e' : c = s1.heap.objs.size + 4 ∨ c = s1.heap.objs.size + 2 ∨ c = s1.heap.objs.size + 3 ∨ c = s1.heap.objs.size ∨ c = s1.heap.objs.size + 1 := by simpa using hcm
      have hle : s1.heap.objs.size ≤ c := by
        rcases e' with z | z | z | z | z
        · rw [z]; exact Nat.le_add_right _ _
        · rw [z]; exact Nat.le_add_right _ _
        · rw [z]; exact Nat.le_add_right _ _
        · rw [z]; exact Nat.le_refl _
        · rw [z]; exact Nat.le_add_right _ _
      exact I1.fpOk hle (I1.hok.fresh hle)
theorem walk_zipM {K : PySem.W.Frag} {a b : Addr} {xs ys : List V} (hn : xs.length = ys.length) : Walk (ItzM K a b) xs.length (fun H => SqL K H a xs ∧ SqT K H b ys) (YPair (fun i => xs[i]?) (fun i => ys[i]?)) := by
  refine ⟨fun i _ hi q => ?_, fun _ q => ⟨xs, ys, q.1, q.2, rfl, hn.symm⟩, fun i H v H' _ q y => ?_⟩
  · have h2 : i < ys.length := by omega
    exact ⟨xs, ys, xs[i], ys[i], q.1, q.2, by simp [hi], by simp [h2]⟩
  · obtain ⟨T, x, z, h1, h2, h3, h4, h5⟩ := y
    exact ⟨T, x, z, h1, h2, h3, h4 xs q.1, h5 ys q.2⟩
end U
set_option Elab.async false
set_option linter.all false
set_option maxRecDepth 100000
set_option maxHeartbeats 4000000
/-! built-ins over lists and tuples that the layer has no rule for -/
namespace U
open PySem PySem.Spec PyProof.Rows L2
open PySem.AutoSeq1 (wpAny_loadPart')

/-! ### xs.extend(a tuple) -/
theorem ext_tup (l : Addr) (items : Array Value) (n : Nat) (b : Addr) (items2 : Array Value) (n2 : Nat) (dd : Option Addr) (sl : Array (Option Value)) (hs0 : ¬(!items.isEmpty && Builtin.List.listTooLong (items.size + items2.size)) = true) (hs1 : items.size ≤ sizeLine) (hs2 : items.size + items2.size ≤ sizeLine + 1) :
    Meets (Builtin.«list.extend» ⟨[.ref l, .ref b], []⟩) (fun _ R s => s.heap.get? l = some { cls := .type "list", dict := none, data := .seq items n, slots := #[] } ∧ s.heap.get? b = some { cls := .type "tuple", dict := dd, data := .seq items2 n2, slots := sl } ∧ R (.ok (.ret Value.none)) { s with heap := s.heap.update l (Obj.mapSeq fun x => x ++ items2), toks := s.toks }) :=
  .of_wp fun prog w A R s h => by
    obtain ⟨hp, g, d, tk, os⟩ := s; obtain ⟨hl, hb, h⟩ := h
    have f1 := PySem.AutoSeq1.idx_int; have f2 := PySem.AutoSeq1.sub_tuple_tuple; have f3 := PySem.AutoSeq1.sub_list_list; have f4 := PySem.AutoSeq1.sub_tuple_list; have f5 := PySem.AutoSeq1.sub_list_tuple
    have hz' : (items ++ items2).size ≤ sizeLine + 1 := by rw [Array.size_append]; exact hs2
    wp_walk using (wpAny_updateSeq hl rfl (hz := hs1) (_hz' := hz')), wpAny_loadPart' hl, wpAny_loadPart' hb; exact ⟨_, rfl, h⟩
section
variable {X : Cx}
def rExtT (K : PySem.W.Frag) : V → List V → Hp → VK → Prop := fun x vs H Q => ∃ l b xs zs, x = .ref l ∧ vs = [.ref b] ∧ H l = some (.lst xs) ∧ SqT K H b zs ∧ xs.length + zs.length ≤ sizeLine ∧ Q .non (upd H l (.lst (xs ++ zs)))
theorem mt_extT : MtM X "list.extend" (rExtT X.K) := by
  intro pins s σ H x vs v us Q I rx rv h
  obtain ⟨l, b, xs, zs, rfl, rfl, hH, hB, hz, q⟩ := h
  cases rx
  obtain ⟨u, rfl, ru⟩ := rv.one
  cases ru
  obtain ⟨z, its, n, r, hl, e⟩ := I.lstM hH
  obtain ⟨its2, r2, ⟨o2, e2, c2, n2, d2⟩, z2⟩ := I.tuple hB
  obtain ⟨oc, od, dt, osl⟩ := o2
  have c2' : oc = .type "tuple" := c2
  have d2' : dt = .seq its2.toArray n2 := d2
  subst c2' d2'
  have hl2 := r2.length
  have hsz : its.toArray.size + its2.toArray.size ≤ sizeLine := by rw [List.size_toArray, List.size_toArray]; omega
  have hlong : ¬ (!its.toArray.isEmpty && Builtin.List.listTooLong (its.toArray.size + its2.toArray.size)) = true := by
    rw [notLongL hsz, Bool.and_false]
    exact Bool.false_ne_true
  refine call_meets PySem.F.slot_list_extend ⟨_, e, rfl⟩ PySem.F.entry_list_extend (PySem.F.args_list_extend_2 _ _)
    (ext_tup l its.toArray n b its2.toArray n2 od osl hlong (by rw [List.size_toArray]; omega) (by omega)) ⟨e, e2, ?_⟩
  refine ⟨.non, _, I.lset (its' := its ++ its2) hH e (by simp) (r.append r2) ?_, rfl, q⟩
  rw [List.length_append]
  omega

/-! ### sum(a tuple of ints) -/
theorem preSum_take (ns : List Int) : ∀ k, k ≤ ns.length → preSum (fun i => ns.getD i 0) k = (ns.take k).sum
  | 0, _ => rfl
  | k + 1, h => by
    have hk : k < ns.length := h
    show preSum (fun i => ns.getD i 0) k + ns.getD k 0 = _
    rw [preSum_take ns k (Nat.le_of_lt hk), sum_take (List.getElem?_eq_getElem hk)]
    simp [hk]
theorem preSum_nums (ns : List Int) : preSum (fun i => ns.getD i 0) ns.length = ns.sum := by
  rw [preSum_take ns _ (Nat.le_refl _), List.take_length]
def rSumT (K : PySem.W.Frag) : List V → Hp → VK → Prop := fun vs H Q => ∃ (a : Addr) (ns : List Int), vs = [V.ref a] ∧ SqT K H a (ns.map V.int) ∧ Q (.int ns.sum) H
theorem cr_sumT (hc : X.calm = true) : CallR X (.builtin "sum") (rSumT X.K) := by
  intro pins s σ H vs us Q I r h
  obtain ⟨a, ns, rfl, hs, q⟩ := h
  obtain ⟨its, rv, ht, _⟩ := I.tuple hs
  rw [Vals.ref1 r]
  have hi := rv.ints
  have hlen : its.toArray.size = ns.length := by rw [List.size_toArray, ← rv.length, List.length_map]
  refine PySem.call_sum_walkAnyS (PySem.W.iter_tupleW (A := X.A.in1) (I.ok.hd hc) ht fun s₂ e W st hfp hw hk => ?_)
  refine ⟨_, _, _, _, _, _, _, fun i => ns.getD i 0, rfl, W, st, hfp, fun i v hP => ?_, fun s' t' m => ?_⟩
  · have h1 : its[i]? = some v := by
      have h2 : its.toArray[i]? = some v := hP
      simpa using h2
    obtain ⟨hi1, e1⟩ := List.getElem?_eq_some_iff.mp h1
    have hil : i < ns.length := by have := rv.length; rw [List.length_map] at this; omega
    obtain ⟨u, hu, ru⟩ := rv.get (i := i) (x := .int ns[i]) (by rw [List.getElem?_map, List.getElem?_eq_getElem hil]; rfl)
    rw [h1] at hu
    cases hu
    obtain ⟨t, rfl⟩ := ru
    exact ⟨t, by simp [hil]⟩
  · obtain ⟨h', tk, rfl, hk'⟩ := PySem.W.moved_old e rfl m
    rw [hlen, preSum_nums]
    exact ⟨.int _, H, I.kept hk', ⟨_, rfl⟩, q⟩

/-! ### min(a list of tuples of ints): one of them -/
theorem dp_ints {K : PySem.W.Frag} {H : Hp} : ∀ ns : List Int, DpAll K H (ns.map V.int) (ns.map PyData.int)
  | [] => .nil
  | n :: ns => .cons (.int n) (dp_ints ns)
theorem alike_ints : ∀ ns ms : List Int, PySem.W.alikeAll (ns.map PyData.int) (ms.map PyData.int) = true
  | [], [] => rfl
  | [], _ :: _ => rfl
  | _ :: _, [] => rfl
  | n :: ns, m :: ms => by simp [PySem.W.alikeAll, PySem.W.alike, alike_ints ns ms]
theorem depth_ints : ∀ ns : List Int, PyData.depthAll (ns.map PyData.int) ≤ 1
  | [] => by simp [PyData.depthAll]
  | n :: ns => by
    have := depth_ints ns
    show max (PyData.depth (.int n)) (PyData.depthAll (ns.map PyData.int)) ≤ 1
    have e : PyData.depth (.int n) ≤ 1 := by simp [PyData.depth]
    omega
def IT (K : PySem.W.Frag) (H : Hp) (x : V) : Prop := ∃ (t : Addr) (ns : List Int), x = .ref t ∧ SqT K H t (ns.map V.int)
theorem its_dp {K : PySem.W.Frag} {H : Hp} : ∀ (xs : List V), (∀ x ∈ xs, IT K H x) → ∃ nss : List (List Int), DpAll K H xs (nss.map fun (ns : List Int) => PyData.tuple (ns.map PyData.int))
  | [], _ => ⟨[], .nil⟩
  | x :: xs, h => by
    obtain ⟨nss, h1⟩ := its_dp xs fun y hy => h y (List.mem_cons_of_mem _ hy)
    obtain ⟨t, ns, rfl, ht⟩ := h x (List.mem_cons_self ..)
    exact ⟨ns :: nss, .cons (.tup ht (dp_ints ns)) h1⟩
theorem its_alike (nss : List (List Int)) : PySem.W.AlikeAll (nss.map fun (ns : List Int) => PyData.tuple (ns.map PyData.int)) := by
  refine ⟨fun x hx y hy => ?_, fun x hx e => ?_⟩
  · obtain ⟨ns, _, rfl⟩ := List.mem_map.mp hx
    obtain ⟨ms, _, rfl⟩ := List.mem_map.mp hy
    simp [PySem.W.alike, alike_ints ns ms]
  · obtain ⟨ns, _, e2⟩ := List.mem_map.mp hx
    rw [e] at e2
    cases e2
theorem its_depth : ∀ nss : List (List Int), PyData.depthAll (nss.map fun ns => PyData.tuple (ns.map .int)) ≤ 2
  | [] => by simp [PyData.depthAll]
  | ns :: nss => by
    have h1 := its_depth nss
    have h2 := depth_ints ns
    show max (PyData.depth (.tuple (ns.map .int))) (PyData.depthAll (nss.map fun ns => PyData.tuple (ns.map .int))) ≤ 2
    have e : PyData.depth (.tuple (ns.map .int)) ≤ 2 := by
      show PyData.depthAll (ns.map .int) + 1 ≤ 2
      omega
    omega
def rMinT (K : PySem.W.Frag) : List V → Hp → VK → Prop := fun vs H Q => ∃ (a : Addr) (xs : List V), vs = [V.ref a] ∧ SqL K H a xs ∧ xs ≠ [] ∧ (∀ x ∈ xs, IT K H x) ∧ ∀ x ∈ xs, Q x H
theorem cr_minT (hc : X.calm = true) (hu : X.A.units + 64 < cLine) : CallR X (.builtin "min") (rMinT X.K) := by
  intro pins s σ H vs us Q I r h
  obtain ⟨a, xs, rfl, hs, hne, hx, q⟩ := h
  obtain ⟨its, rv, hl, _⟩ := I.list hs
  rw [Vals.ref1 r]
  obtain ⟨nss, hdp⟩ := its_dp xs hx
  obtain ⟨as, hr⟩ := Dp.readsAll I _ _ _ hdp rv
  obtain ⟨ns0, nss0, rfl⟩ : ∃ n0 m0, nss = n0 :: m0 := by
    cases nss with
    | nil => cases hdp; exact absurd rfl hne
    | cons n0 m0 => exact ⟨n0, m0, rfl⟩
  have hd := its_depth (ns0 :: nss0)
  refine PySem.W.min_list_data (vs := its.toArray) (x := .tuple (ns0.map .int)) (xs := nss0.map fun (ns : List Int) => PyData.tuple (ns.map PyData.int)) (I.ok.hd hc) hl.isList (by simpa using hr) (its_alike (ns0 :: nss0)) (by
    have e : PyData.depthAll (PyData.tuple (ns0.map PyData.int) :: nss0.map fun (ns : List Int) => PyData.tuple (ns.map PyData.int)) ≤ 2 := hd
    omega) fun i v h' tk bs hi _ hk => ?_
  have h1 : its[i]? = some v := by simpa using hi
  have hil : i < xs.length := by rw [rv.length]; exact (List.getElem?_eq_some_iff.mp h1).1
  obtain ⟨u, hu1, ru⟩ := rv.get (i := i) (x := xs[i]) (List.getElem?_eq_getElem hil)
  rw [h1] at hu1
  cases hu1
  exact ⟨xs[i], H, I.kept hk, ru, q _ (List.getElem_mem hil)⟩

/-! ### min, max of a tuple of ints -/
theorem foldmin_le (n : Int) : ∀ ms : List Int, ms.foldl min n ≤ n ∧ (∀ m ∈ ms, ms.foldl min n ≤ m) ∧ (ms.foldl min n = n ∨ ms.foldl min n ∈ ms) := by
  intro ms
  induction ms generalizing n with
  | nil => exact ⟨Int.le_refl _, fun m h => (by cases h), .inl rfl⟩
  | cons k r ih =>
    obtain ⟨h1, h2, h3⟩ := ih (min n k)
    refine ⟨by rw [List.foldl_cons]; omega, fun m hm => ?_, ?_⟩
    · rw [List.foldl_cons]
      rcases List.mem_cons.mp hm with rfl | hm
      · omega
      · exact h2 m hm
    · rw [List.foldl_cons]
      rcases h3 with h3 | h3
      · rw [h3]
        by_cases hk : n ≤ k
        · left; omega
        · right; rw [show min n k = k by omega]; exact List.mem_cons_self ..
      · right; exact List.mem_cons_of_mem _ h3
theorem foldmax_le (n : Int) : ∀ ms : List Int, n ≤ ms.foldl max n ∧ (∀ m ∈ ms, m ≤ ms.foldl max n) ∧ (ms.foldl max n = n ∨ ms.foldl max n ∈ ms) := by
  intro ms
  induction ms generalizing n with
  | nil => exact ⟨Int.le_refl _, fun m h => (by cases h), .inl rfl⟩
  | cons k r ih =>
    obtain ⟨h1, h2, h3⟩ := ih (max n k)
    refine ⟨by rw [List.foldl_cons]; omega, fun m hm => ?_, ?_⟩
    · rw [List.foldl_cons]
      rcases List.mem_cons.mp hm with rfl | hm
      · omega
      · exact h2 m hm
    · rw [List.foldl_cons]
      rcases h3 with h3 | h3
      · rw [h3]
        by_cases hk : k ≤ n
        · left; omega
        · right; rw [show max n k = k by omega]; exact List.mem_cons_self ..
      · right; exact List.mem_cons_of_mem _ h3
theorem ints_alike (ns : List Int) : PySem.W.AlikeAll (ns.map PyData.int) := by
  refine ⟨fun x hx y hy => ?_, fun x hx e => ?_⟩
  · obtain ⟨n, _, rfl⟩ := List.mem_map.mp hx
    obtain ⟨m, _, rfl⟩ := List.mem_map.mp hy
    rfl
  · obtain ⟨n, _, e2⟩ := List.mem_map.mp hx
    rw [e] at e2
    cases e2
theorem reads_int {h : Heap} {v : Value} {n : Int} {bs : List Addr} (r : Reads h v (.int n) bs) : ∃ t, v = .int n t := by
  cases r
  exact ⟨_, rfl⟩
/-- the least of a tuple of ints -/
def rMinU (K : PySem.W.Frag) : List V → Hp → VK → Prop := fun vs H Q => ∃ (a : Addr) (n : Int) (ns : List Int), vs = [V.ref a] ∧ SqT K H a ((n :: ns).map V.int) ∧ Q (.int (ns.foldl min n)) H
theorem cr_minU (hc : X.calm = true) (hu : X.A.units + 64 < cLine) : CallR X (.builtin "min") (rMinU X.K) := by
  intro pins s σ H vs us Q I r h
  obtain ⟨a, n, ns, rfl, hs, q⟩ := h
  obtain ⟨its, rv, ht, _⟩ := I.tuple hs
  rw [Vals.ref1 r]
  obtain ⟨as, hr⟩ := Dp.readsAll I _ _ _ (dp_ints (K := X.K) (H := H) (n :: ns)) rv
  have hd := depth_ints (n :: ns)
  refine PySem.W.min_tuple_data (vs := its.toArray) (x := .int n) (xs := ns.map .int) (I.ok.hd hc) ht (by simpa using hr) (ints_alike (n :: ns)) (by
    have e : PyData.depthAll (PyData.int n :: ns.map .int) ≤ 1 := hd
    omega) fun i v h' tk bs hi hrd hk => ?_
  rw [PySem.W.minD_ints] at hrd
  obtain ⟨t, rfl⟩ := reads_int hrd
  exact ⟨.int _, H, I.kept hk, ⟨_, rfl⟩, q⟩
/-- max(xs, default=d), min(xs, default=d) of a list of ints -/
def rMaxD (K : PySem.W.Frag) : List V → List V → Hp → VK → Prop := fun vs zs H Q => ∃ (a : Addr) (ns : List Int) (d : V), vs = [V.ref a] ∧ zs = [d] ∧ SqL K H a (ns.map V.int) ∧ (ns = [] → Q d H) ∧ ∀ m, m ∈ ns → (∀ y ∈ ns, y ≤ m) → Q (.int m) H
def rMinD (K : PySem.W.Frag) : List V → List V → Hp → VK → Prop := fun vs zs H Q => ∃ (a : Addr) (ns : List Int) (d : V), vs = [V.ref a] ∧ zs = [d] ∧ SqL K H a (ns.map V.int) ∧ (ns = [] → Q d H) ∧ ∀ m, m ∈ ns → (∀ y ∈ ns, m ≤ y) → Q (.int m) H
theorem cr_maxD (hc : X.calm = true) (hu : X.A.units + 64 < cLine) : CallRK X (.builtin "max") [Str.ofString "default"] (rMaxD X.K) := by
  intro pins s σ H vs zs us ws Q I r rz h
  obtain ⟨a, ns, d, rfl, rfl, hs, q0, q1⟩ := h
  obtain ⟨its, rv, hl, _⟩ := I.list hs
  rw [Vals.ref1 r]
  obtain ⟨dv, rfl, rd⟩ := vals1 rz
  obtain ⟨as, hr⟩ := Dp.readsAll I _ _ _ (dp_ints (K := X.K) (H := H) ns) rv
  have hd := depth_ints ns
  refine PySem.W.max_list_default (vs := its.toArray) (xs := ns.map .int) (d := dv) (I.ok.hd hc) hl.isList (by simpa using hr) (ints_alike ns) (by omega) (fun e h' tk hk => ?_) fun y ys i v h' tk bs e hi hrd hk => ?_
  · exact ⟨d, H, I.kept hk, rd, q0 (List.map_eq_nil_iff.mp e)⟩
  · obtain ⟨n, ns', rfl, e1, e2⟩ : ∃ n ns', ns = n :: ns' ∧ y = .int n ∧ ys = ns'.map .int := by
      cases ns with
      | nil => cases e
      | cons n ns' =>
        injection e with e1 e2
        exact ⟨n, ns', rfl, e1.symm, e2.symm⟩
    subst e1 e2
    rw [PySem.W.maxD_ints] at hrd
    obtain ⟨t, rfl⟩ := reads_int hrd
    obtain ⟨h1, h2, h3⟩ := foldmax_le n ns'
    refine ⟨.int _, H, I.kept hk, ⟨_, rfl⟩, q1 _ ?_ ?_⟩
    · rcases h3 with h3 | h3
      · rw [h3]; exact List.mem_cons_self ..
      · exact List.mem_cons_of_mem _ h3
    · intro y hy
      rcases List.mem_cons.mp hy with rfl | hy
      · exact h1
      · exact h2 y hy
theorem cr_minD (hc : X.calm = true) (hu : X.A.units + 64 < cLine) : CallRK X (.builtin "min") [Str.ofString "default"] (rMinD X.K) := by
  intro pins s σ H vs zs us ws Q I r rz h
  obtain ⟨a, ns, d, rfl, rfl, hs, q0, q1⟩ := h
  obtain ⟨its, rv, hl, _⟩ := I.list hs
  rw [Vals.ref1 r]
  obtain ⟨dv, rfl, rd⟩ := vals1 rz
  obtain ⟨as, hr⟩ := Dp.readsAll I _ _ _ (dp_ints (K := X.K) (H := H) ns) rv
  have hd := depth_ints ns
  refine PySem.W.min_list_default (vs := its.toArray) (xs := ns.map .int) (d := dv) (I.ok.hd hc) hl.isList (by simpa using hr) (ints_alike ns) (by omega) (fun e h' tk hk => ?_) fun y ys i v h' tk bs e hi hrd hk => ?_
  · exact ⟨d, H, I.kept hk, rd, q0 (List.map_eq_nil_iff.mp e)⟩
  · obtain ⟨n, ns', rfl, e1, e2⟩ : ∃ n ns', ns = n :: ns' ∧ y = .int n ∧ ys = ns'.map .int := by
      cases ns with
      | nil => cases e
      | cons n ns' =>
        injection e with e1 e2
        exact ⟨n, ns', rfl, e1.symm, e2.symm⟩
    subst e1 e2
    rw [PySem.W.minD_ints] at hrd
    obtain ⟨t, rfl⟩ := reads_int hrd
    obtain ⟨h1, h2, h3⟩ := foldmin_le n ns'
    refine ⟨.int _, H, I.kept hk, ⟨_, rfl⟩, q1 _ ?_ ?_⟩
    · rcases h3 with h3 | h3
      · rw [h3]; exact List.mem_cons_self ..
      · exact List.mem_cons_of_mem _ h3
    · intro y hy
      rcases List.mem_cons.mp hy with rfl | hy
      · exact h1
      · exact h2 y hy
/-- max of a tuple of ints -/
def rMaxU (K : PySem.W.Frag) : List V → Hp → VK → Prop := fun vs H Q => ∃ (a : Addr) (n : Int) (ns : List Int), vs = [V.ref a] ∧ SqT K H a ((n :: ns).map V.int) ∧ Q (.int (ns.foldl max n)) H
theorem cr_maxU (hc : X.calm = true) (hu : X.A.units + 64 < cLine) : CallR X (.builtin "max") (rMaxU X.K) := by
  intro pins s σ H vs us Q I r h
  obtain ⟨a, n, ns, rfl, hs, q⟩ := h
  obtain ⟨its, rv, ht, _⟩ := I.tuple hs
  rw [Vals.ref1 r]
  obtain ⟨as, hr⟩ := Dp.readsAll I _ _ _ (dp_ints (K := X.K) (H := H) (n :: ns)) rv
  have hd := depth_ints (n :: ns)
  refine PySem.W.max_tuple_data (vs := its.toArray) (x := .int n) (xs := ns.map .int) (I.ok.hd hc) ht (by simpa using hr) (ints_alike (n :: ns)) (by
    have e : PyData.depthAll (PyData.int n :: ns.map .int) ≤ 1 := hd
    omega) fun i v h' tk bs hi hrd hk => ?_
  rw [PySem.W.maxD_ints] at hrd
  obtain ⟨t, rfl⟩ := reads_int hrd
  exact ⟨.int _, H, I.kept hk, ⟨_, rfl⟩, q⟩

/-! ### d.update(a list of pairs) -/
def rUpdP (K : PySem.W.Frag) : V → List V → Hp → VK → Prop := fun x vs H Q => ∃ d a ps kvs more, x = .ref d ∧ vs = [.ref a] ∧ H d = some (.dK kvs) ∧ SqL K H a (ps.map V.ref) ∧ Paired (fun p kv => SqT K H p [kV kv.1, kv.2]) ps more ∧ kvs.length + more.length ≤ sizeLine ∧ Q .non (upd H d (.dK (mergeK kvs more)))
theorem length_mergeK2 : ∀ (more kvs : List (Key × V)), (mergeK kvs more).length ≤ kvs.length + more.length := by
  intro more kvs
  exact length_mergeK more kvs
theorem mt_updP (hc : X.calm = true) : MtR X "dict.update" (rUpdP X.K) := by
  intro pins s σ H x vs v us Q I rx rv h
  obtain ⟨d, a, ps, kvs, more, rfl, rfl, hd, ha, hp, hz, q⟩ := h
  cases rx
  obtain ⟨u, rfl, ru⟩ := rv.one
  cases ru
  obtain ⟨hz1, hsm, vs0, rkv, hdo⟩ := I.hok d _ hd
  obtain ⟨its, r, pl, _⟩ := I.list ha
  have ei := refs_at r
  subst ei
  obtain ⟨prs, rel, hl, hpr⟩ := pairs_of I hp
  obtain ⟨o, n, ho, hcl, hdd, hdat⟩ := pl
  -- the pairs as they stand
  have hget : ∀ j, j < prs.length → ∃ (b : Addr) (u : Value) (q : Key × Value), prs[j]? = some q ∧ ps[j]? = some b ∧ IsTup s.heap b #[u, q.2] ∧ keyIs q.1 u = true := fun j hj => by
    obtain ⟨b, u, e1, e2, e3⟩ := hpr j prs[j] (List.getElem?_eq_getElem hj)
    exact ⟨b, u, prs[j], List.getElem?_eq_getElem hj, e1, e2, e3⟩
  have hex : ∃ ks : List (Value × Value), ks.length = prs.length ∧ ∀ (j : Nat) (k w : Value), ks[j]? = some (k, w) → ∃ q, prs[j]? = some q ∧ w = q.2 ∧ keyIs q.1 k = true ∧ IsTup s.heap (ps.getD j 0) #[k, w] := by
    have go : ∀ m, m ≤ prs.length → ∃ ks : List (Value × Value), ks.length = m ∧ ∀ (j : Nat) (k w : Value), ks[j]? = some (k, w) → ∃ q, prs[j]? = some q ∧ w = q.2 ∧ keyIs q.1 k = true ∧ IsTup s.heap (ps.getD j 0) #[k, w] := by
      intro m
      induction m with
      | zero => exact fun _ => ⟨[], rfl, fun j k w e => by simp at e⟩
      | succ m ih =>
        intro hm
        obtain ⟨ks, hk1, hk2⟩ := ih (by omega)
        obtain ⟨b, u, q, e1, e2, e3, e4⟩ := hget m (by omega)
        refine ⟨ks ++ [(u, q.2)], by simp [hk1], fun j k w e => ?_⟩
        by_cases hj : j < ks.length
        · rw [List.getElem?_append_left hj] at e
          exact hk2 j k w e
        · have hj2 : j = m := by
            have := (List.getElem?_eq_some_iff.mp e).1
            simp at this
            omega
          subst hj2
          rw [List.getElem?_append_right (by omega)] at e
          simp [hk1] at e
          obtain ⟨e5, e6⟩ := e
          subst e5 e6
          refine ⟨q, e1, rfl, e4, ?_⟩
          rw [List.getD_eq_getElem?_getD, e2]
          exact e3
    exact go _ (Nat.le_refl _)
  obtain ⟨ks, hk1, hk2⟩ := hex
  have hps : prs.length = ps.length := hl
  have items : PlainSeq "list" s.heap a (ps.map Value.ref).toArray := ⟨o, n, ho, hcl, hdd, hdat⟩
  have pit : PairItems s.heap (ps.map Value.ref).toArray (fun j => ps.getD j 0) ks := ⟨by simp [hk1, hps], fun j k w e => by
    obtain ⟨q, e1, e2, e3, e4⟩ := hk2 j k w e
    have hj : j < ps.length := by rw [← hps]; exact (List.getElem?_eq_some_iff.mp e1).1
    exact ⟨by simp [List.getD_eq_getElem?_getD, hj], .inl e4⟩⟩
  have nd : d ∉ a :: (List.range ks.length).map (fun j => ps.getD j 0) := fun hm => by
    obtain ⟨od, es, ep, e1, ec, ed, _⟩ := hdo
    rcases List.mem_cons.mp hm with e | e
    · rw [e, ho] at e1
      cases e1
      rw [hdat] at ed
      cases ed
    · obtain ⟨j, hj, e⟩ := List.mem_map.mp e
      have hj2 : j < ks.length := List.mem_range.mp hj
      obtain ⟨q, f1, f2, f3, o2, f4, f5, n5, f6⟩ := hk2 j ks[j].1 ks[j].2 (List.getElem?_eq_getElem hj2)
      have e' : ps.getD j 0 = d := e
      rw [e', e1] at f4
      cases f4
      rw [ed] at f6
      cases f6
  refine PySem.call_update_pairs (knd := mixKind X.prog X.w) (acc := vs0) (kvs := prs) (PairArg.list a (ps.map Value.ref).toArray (fun j => ps.getD j 0) ks) (I.ok.hd hc) ⟨items, pit⟩ nd ⟨by omega, fun i k w e => ?_⟩ hdo (by
    have e1 := rkv.length
    have e2 := rel.length
    omega) fun h' tk hd' hk => ?_
  · obtain ⟨q, e1, e2, e3, _⟩ := hk2 i k w e
    exact ⟨q.1, by rw [e1, e2], e3⟩
  · have hlen : (mergeK kvs more).length ≤ sizeLine := Nat.le_trans (length_mergeK2 more kvs) hz
    refine ⟨.non, upd H d (.dK (mergeK kvs more)), I.write (e := d) (t' := tk) (by rw [hd]; trivial) (.inl rfl) (fun b u hb e => hk b u hb (by simp) e) (by
      obtain ⟨od, _, _, e1, _⟩ := hd'
      exact ⟨od, e1⟩) ⟨hlen, hsm, merged vs0 prs, KV.merge rel rkv, hd'⟩, rfl, q⟩

/-! ### len(set(xs)) of a list of ints -/
theorem firstMet_mem (ns : List Int) : ∀ i, i ≤ ns.length → (∀ x, x ∈ firstMet (fun i => ns.getD i 0) i ↔ x ∈ ns.take i) ∧ (firstMet (fun i => ns.getD i 0) i).Nodup
  | 0, _ => ⟨fun x => by simp [firstMet_zero], by simp [firstMet_zero]⟩
  | i + 1, h => by
    obtain ⟨h1, h2⟩ := firstMet_mem ns i (by omega)
    have hi : i < ns.length := h
    have e2 : ns.take (i + 1) = ns.take i ++ [ns[i]] := by
      rw [List.take_add_one, List.getElem?_eq_getElem hi] <;> rfl
    have e1 : ns.getD i 0 = ns[i] := by simp [hi]
    rw [firstMet_succ, e2]
    show (∀ x, x ∈ (if (firstMet (fun i => ns.getD i 0) i).any (· == ns.getD i 0) then firstMet (fun i => ns.getD i 0) i else firstMet (fun i => ns.getD i 0) i ++ [ns.getD i 0]) ↔ _) ∧ (if (firstMet (fun i => ns.getD i 0) i).any (· == ns.getD i 0) then firstMet (fun i => ns.getD i 0) i else firstMet (fun i => ns.getD i 0) i ++ [ns.getD i 0]).Nodup
    rw [e1]
    by_cases hb : (firstMet (fun i => ns.getD i 0) i).any (· == ns[i]) = true
    · rw [if_pos hb]
      obtain ⟨y, hy, ey⟩ := List.any_eq_true.mp hb
      have ey : y = ns[i] := eq_of_beq ey
      refine ⟨fun x => ?_, h2⟩
      rw [h1 x, List.mem_append, List.mem_singleton]
      constructor
      · exact fun z => .inl z
      · rintro (z | z)
        · exact z
        · rw [z, ← ey]; exact (h1 y).mp hy
    · rw [if_neg hb]
      refine ⟨fun x => ?_, ?_⟩
      · rw [List.mem_append, List.mem_append, h1 x]
      · refine nd_snoc h2 fun hm => hb (List.any_eq_true.mpr ⟨_, hm, by simp⟩)
def tLenSet (K : PySem.W.Frag) (ta : TE) : TE := fun σ H Q => ta σ H fun x H1 => ∃ (l : Addr) (ns : List Int), x = .ref l ∧ SqL K H1 l (ns.map V.int) ∧ ns.length ≤ 1000 ∧ ∀ ds : List Int, ds.Nodup → (∀ x, x ∈ ds ↔ x ∈ ns) → Q (.int (ds.length : Nat)) H1
theorem pe_lenSet {a : Expr} {ta : TE} {p p2 q pos : Pos} (hg : Gl X "len") (hm : X.mg "len" = none) (hg2 : Gl X "set") (hm2 : X.mg "set" = none) (ha : PE X a ta) (hc : X.calm = true := by rfl)
    (na : starEach [a] X.env = (false, eval a X.env) :: starEach [] X.env := by rfl) : PE X (.Call (.Name "len" p) [.Call (.Name "set" p2) [a] [] q] [] pos) (tLenSet X.K ta) := by
  refine ⟨fun pins s σ H Q I h => ?_⟩
  refine Call_ (ld_blt I hg hm boot_len ?_)
  refine PyProof.Rows.callWith_builtin1 (PyProof.Rows.args_cons ?_ rfl) rfl rfl
  refine Call_ (ld_blt I hg2 hm2 boot_set ?_)
  refine PyProof.Rows.callWith_type1 (PyProof.Rows.args_cons (thn (ha.run pins s σ H _ I h) fun v s1 ⟨x, H1, I1, r1, q1⟩ => PyProof.Rows.args_nil ?_) na) na rfl
  obtain ⟨l, ns, rfl, hq, hl, q1⟩ := q1
  cases r1
  obtain ⟨its, r, pl, hz⟩ := I1.list hq
  have hlen : its.toArray.size = ns.length := by rw [List.size_toArray, ← r.length, List.length_map]
  refine call_set_list (I1.ok.hd hc) pl.isList (by simpa using RZ.intsAre_vals r) (by rw [hlen]; unfold scanBound; omega) fun h' tk hS hk => ?_
  refine PyProof.Rows.args_nil ?_
  rw [hlen] at hS
  obtain ⟨f1, f2⟩ := firstMet_mem ns ns.length (Nat.le_refl _)
  rw [List.take_length] at f1
  have f3 := firstMet_length_le (fun i => ns.getD i 0) ns.length
  obtain ⟨o, es, ep, t, ho, hex, hd, _, _, _, hf, hn⟩ := hS
  have I2 : Inv X pins σ H1 { s1 with heap := h', toks := tk } := I1.kept fun b o e => hk b o (Heap.lt_size e) e
  exact call_len_set ho hex hd hf (by rw [hn] <;> omega) ⟨.int (firstMet (fun i => ns.getD i 0) ns.length).length, H1, I2.tok _, ⟨_, by rw [hn]⟩, q1 _ f2 f1⟩
end
end U
set_option Elab.async false
set_option linter.all false
set_option maxRecDepth 100000
set_option maxHeartbeats 1000000
/-! values as data; what stands for them in the heap; contexts; readings over data -/
namespace U
open PySem PySem.Spec PyProof.Rows L2

inductive D where
  | non | bl (b : Bool) | int (i : Int) | str (x : Str) | tup (ds : List D) | lst (ds : List D)
  | ins (C : Addr) (f g : Str) (x y : D) | scr (ns : List Int) | tp (a : Addr)
instance : Inhabited D := ⟨.non⟩

abbrev AD := Addr → Prop
def NTbl (o : HO) : Prop := ∀ ps, o ≠ .tbl ps
theorem ntbl_lst (xs : List V) : NTbl (.lst xs) := fun _ e => nomatch e
theorem ncode_lst (xs : List V) : ∀ c q, HO.lst xs ≠ LamX.CodeO c q := fun c q e => by
  unfold LamX.CodeO at e
  cases e

/-- v stands for d; nothing of it lies at m (but the tape, at w) -/
inductive Rep (K : PySem.W.Frag) (w m : AD) (H : Hp) : V → D → Prop
  | non : Rep K w m H .non .non
  | bl (b : Bool) : Rep K w m H (.bl b) (.bl b)
  | int (i : Int) : Rep K w m H (.int i) (.int i)
  | str (x : Str) : Rep K w m H (.str x) (.str x)
  | tup {a : Addr} {vs : List V} {ds : List D} : H a = some (.tup vs) → ¬ m a → vs.length = ds.length → (∀ (i : Nat) (v : V) (d : D), vs[i]? = some v → ds[i]? = some d → Rep K w m H v d) → Rep K w m H (.ref a) (.tup ds)
  | lst {a : Addr} {vs : List V} {ds : List D} : H a = some (.lst vs) → ¬ m a → vs.length = ds.length → (∀ (i : Nat) (v : V) (d : D), vs[i]? = some v → ds[i]? = some d → Rep K w m H v d) → Rep K w m H (.ref a) (.lst ds)
  | ins {a C dx : Addr} {f g : Str} {v u : V} {x y : D} : H a = some (.ins C dx [(f, v), (g, u)]) → ¬ m a → Rep K w m H v x → Rep K w m H u y → Rep K w m H (.ref a) (.ins C f g x y)
  | scr {a : Addr} {ns : List Int} : ((Rd H a (.lst (ns.map V.int)) ∧ ¬ m a) ∨ ∀ H2 : Hp, SqL K H2 a (ns.map V.int)) → Rep K w m H (.ref a) (.scr ns)
  | tp {a : Addr} : w a → Rep K w m H (.ref a) (.tp a)

def Reps (K : PySem.W.Frag) (w m : AD) (H : Hp) (vs : List V) (ds : List D) : Prop := vs.length = ds.length ∧ ∀ (i : Nat) (v : V) (d : D), vs[i]? = some v → ds[i]? = some d → Rep K w m H v d

section
variable {K : PySem.W.Frag} {w w' m m' : AD} {H H' : Hp} {v : V} {d : D} {vs : List V} {ds : List D}
theorem Rep.mono (k : ∀ b o, H b = some o → ¬ m b → NTbl o → H' b = some o ∧ ¬ m' b) (hw : ∀ b, w b → w' b) (r : Rep K w m H v d) : Rep K w' m' H' v d := by
  induction r with
  | non => exact .non
  | bl b => exact .bl b
  | int i => exact .int i
  | str x => exact .str x
  | tup h n l _ ih =>
    obtain ⟨h1, h2⟩ := k _ _ h n (fun ps e => nomatch e)
    exact .tup h1 h2 l ih
  | lst h n l _ ih =>
    obtain ⟨h1, h2⟩ := k _ _ h n (fun ps e => nomatch e)
    exact .lst h1 h2 l ih
  | ins h n _ _ i1 i2 =>
    obtain ⟨h1, h2⟩ := k _ _ h n (fun ps e => nomatch e)
    exact .ins h1 h2 i1 i2
  | scr h =>
    rcases h with ⟨h, n⟩ | h
    · rcases h with h | ⟨o, h⟩
      · obtain ⟨h1, h2⟩ := k _ _ h n (fun ps e => nomatch e)
        exact .scr (.inl ⟨.inl h1, h2⟩)
      · obtain ⟨h1, h2⟩ := k _ _ h n (fun ps e => nomatch e)
        exact .scr (.inl ⟨.inr ⟨o, h1⟩, h2⟩)
    · exact .scr (.inr h)
  | tp h => exact .tp (hw _ h)

theorem Reps.nil : Reps K w m H [] [] := ⟨rfl, fun i v d h => by simp at h⟩
theorem Reps.cons (r : Rep K w m H v d) (rs : Reps K w m H vs ds) : Reps K w m H (v :: vs) (d :: ds) := by
  refine ⟨by simp [rs.1], fun i u e h1 h2 => ?_⟩
  cases i with
  | zero =>
    simp only [List.getElem?_cons_zero, Option.some.injEq] at h1 h2
    subst h1; subst h2
    exact r
  | succ i => exact rs.2 i u e (by simpa using h1) (by simpa using h2)
theorem Reps.uncons {d : D} (rs : Reps K w m H vs (d :: ds)) : ∃ v vs', vs = v :: vs' ∧ Rep K w m H v d ∧ Reps K w m H vs' ds := by
  obtain ⟨l, f⟩ := rs
  cases vs with
  | nil => simp at l
  | cons v vs' => exact ⟨v, vs', rfl, f 0 v d rfl rfl, by simpa using l, fun i u e h1 h2 => f (i + 1) u e (by simpa using h1) (by simpa using h2)⟩
theorem Reps.eq_nil (rs : Reps K w m H vs []) : vs = [] := List.length_eq_zero_iff.mp rs.1
theorem Reps.mono (k : ∀ b o, H b = some o → ¬ m b → NTbl o → H' b = some o ∧ ¬ m' b) (hw : ∀ b, w b → w' b) (r : Reps K w m H vs ds) : Reps K w' m' H' vs ds := ⟨r.1, fun i v d h1 h2 => (r.2 i v d h1 h2).mono k hw⟩
theorem Reps.append {vs2 : List V} {ds2 : List D} (r : Reps K w m H vs ds) (r2 : Reps K w m H vs2 ds2) : Reps K w m H (vs ++ vs2) (ds ++ ds2) := by
  refine ⟨by simp [r.1, r2.1], fun i v d h1 h2 => ?_⟩
  by_cases hi : i < vs.length
  · rw [List.getElem?_append_left hi] at h1
    rw [List.getElem?_append_left (by rw [← r.1]; exact hi)] at h2
    exact r.2 i v d h1 h2
  · rw [List.getElem?_append_right (by omega)] at h1
    rw [List.getElem?_append_right (by rw [← r.1]; omega), ← r.1] at h2
    exact r2.2 _ v d h1 h2
theorem Reps.one (r : Rep K w m H v d) : Reps K w m H [v] [d] := .cons r .nil
theorem Reps.snoc (r : Reps K w m H vs ds) (q : Rep K w m H v d) : Reps K w m H (vs ++ [v]) (ds ++ [d]) := r.append (.one q)
theorem Reps.set (r : Reps K w m H vs ds) (q : Rep K w m H v d) (j : Nat) : Reps K w m H (vs.set j v) (ds.set j d) := by
  refine ⟨by simp [r.1], fun i u e h1 h2 => ?_⟩
  rw [List.getElem?_set] at h1 h2
  rw [← r.1] at h2
  by_cases hj : j = i
  · rw [if_pos hj] at h1 h2
    split at h1
    · rename_i hl
      rw [if_pos hl] at h2
      cases h1; cases h2
      exact q
    · cases h1
  · rw [if_neg hj] at h1 h2
    exact r.2 i u e h1 h2
theorem Reps.take (n : Nat) (r : Reps K w m H vs ds) : Reps K w m H (vs.take n) (ds.take n) := by
  refine ⟨by simp [r.1], fun i v d h1 h2 => ?_⟩
  rw [List.getElem?_take] at h1 h2
  by_cases hi : i < n
  · rw [if_pos hi] at h1 h2; exact r.2 i v d h1 h2
  · rw [if_neg hi] at h1; cases h1
theorem Reps.drop (n : Nat) (r : Reps K w m H vs ds) : Reps K w m H (vs.drop n) (ds.drop n) := by
  refine ⟨by simp [r.1], fun i v d h1 h2 => ?_⟩
  rw [List.getElem?_drop] at h1 h2
  exact r.2 _ v d h1 h2
theorem Reps.get {i : Nat} (r : Reps K w m H vs ds) (h : ds[i]? = some d) : ∃ v, vs[i]? = some v ∧ Rep K w m H v d := by
  have hi : i < vs.length := by rw [r.1]; exact (List.getElem?_eq_some_iff.mp h).1
  exact ⟨vs[i], List.getElem?_eq_getElem hi, r.2 i _ d (List.getElem?_eq_getElem hi) h⟩
theorem Reps.dropLast (r : Reps K w m H vs ds) : Reps K w m H vs.dropLast ds.dropLast := by
  rw [List.dropLast_eq_take, List.dropLast_eq_take, r.1]
  exact r.take _
theorem Reps.ints {ns : List Int} (r : Reps K w m H vs (ns.map D.int)) : vs = ns.map V.int := by
  obtain ⟨l, f⟩ := r
  refine List.ext_getElem? fun i => ?_
  rw [List.length_map] at l
  by_cases hi : i < ns.length
  · have h1 : i < vs.length := by omega
    have q := f i vs[i] (.int ns[i]) (List.getElem?_eq_getElem h1) (by rw [List.getElem?_map, List.getElem?_eq_getElem hi]; rfl)
    rw [List.getElem?_eq_getElem h1, List.getElem?_map, List.getElem?_eq_getElem hi]
    generalize vs[i] = x at q
    cases q
    rfl
  · rw [List.getElem?_eq_none (by omega), List.getElem?_eq_none (by rw [List.length_map]; omega)]
theorem Reps.of_ints (ns : List Int) : Reps K w m H (ns.map V.int) (ns.map D.int) := by
  refine ⟨by simp, fun i v d h1 h2 => ?_⟩
  rw [List.getElem?_map] at h1 h2
  cases hn : ns[i]? with
  | none => rw [hn] at h1; cases h1
  | some n =>
    rw [hn] at h1 h2
    cases h1; cases h2
    exact .int n
theorem Reps.replicate (n : Nat) (r : Reps K w m H vs ds) : Reps K w m H (List.replicate n vs).flatten (List.replicate n ds).flatten := by
  induction n with
  | zero => exact .nil
  | succ n ih =>
    rw [List.replicate_succ, List.replicate_succ, List.flatten_cons, List.flatten_cons]
    exact r.append ih
end

/-! ### the heap grows -/
def TapeAt (H : Hp) (b : Addr) : Prop := ∃ i j : Int, H b = some (.lst [.int i, .int j])
/-- the one lambda's name -/
def TQ : Str := "Lists.next_tie.<locals>.<lambda>"
structure Ex (w : AD) (H H' : Hp) : Prop where
  keep : ∀ b o, H b = some o → ¬ w b → NTbl o → H' b = some o
  tape : ∀ b, w b → TapeAt H b → TapeAt H' b
  tab : ∀ P, LamX.TabS H P TQ → LamX.TabS H' P TQ
section
variable {w w' : AD} {H H1 H2 : Hp} {p : Addr} {o : HO}
theorem Ex.refl : Ex w H H := ⟨fun _ _ h _ _ => h, fun _ _ h => h, fun _ h => h⟩
theorem Ex.trans (a : Ex w H H1) (b : Ex w H1 H2) : Ex w H H2 := ⟨fun c o h n t => b.keep c o (a.keep c o h n t) n t, fun c h t => b.tape c h (a.tape c h t), fun P t => b.tab P (a.tab P t)⟩
theorem Ex.of (e : ∀ b o, H b = some o → H1 b = some o) : Ex w H H1 := ⟨fun b o h _ _ => e b o h, fun b _ ⟨i, j, h⟩ => ⟨i, j, e _ _ h⟩, fun P t => t.ext e⟩
theorem Ex.new (h : H p = none) : Ex w H (upd H p o) := .of fun b u e => by rw [upd_ne (ne_of_none e h)]; exact e
theorem Ex.more (a : Ex w H H1) (h : H1 p = none) : Ex w H (upd H1 p o) := a.trans (.new h)
/-- a list that is not the tape's is changed -/
theorem tab_upd {P : Addr} {q : Str} (t : LamX.TabS H P q) (h : ∃ u, H p = some u ∧ NTbl u ∧ (∀ c q, u ≠ LamX.CodeO c q)) : LamX.TabS (upd H p o) P q := by
  obtain ⟨ps, h1, h2, h3⟩ := t
  obtain ⟨u, hu, n1, n2⟩ := h
  refine ⟨ps, ?_, h2, fun pos cv hc => ?_⟩
  · rw [upd_ne (fun e => n1 ps (by rw [e, hu] at h1; exact Option.some.inj h1))]; exact h1
  · obtain ⟨c, e1, e2⟩ := h3 pos cv hc
    refine ⟨c, e1, ?_⟩
    rw [upd_ne (fun e => by rw [e, hu] at e2; exact n2 _ q (Option.some.inj e2))]; exact e2
end

/-! ### slots -/
inductive Slot where
  | any | p (d : D) | o (a : Addr) (ds : List D) | oo (a : Addr) (bs : List Addr) (dss : List (List D)) | dk (a : Addr) (ks : List Int) | dt (a : Addr) (ks : List (Int × Int))
instance : Inhabited Slot := ⟨.any⟩
abbrev PSt := List Slot
def Slot.addrs : Slot → List Addr
  | .o a _ => [a] | .oo a bs _ => a :: bs | .dk a _ => [a] | .dt a _ => [a] | _ => []
/-- a thing that may be changed lies there -/
def Al (H : Hp) (a : Addr) : Prop := ∃ o, H a = some o ∧ NTbl o ∧ (∀ c q, o ≠ LamX.CodeO c q) ∧ (∀ C dx fs, o ≠ .ins C dx fs) ∧ ∀ vs, o ≠ .tup vs
theorem Al.lst {H : Hp} {a : Addr} {xs : List V} (h : H a = some (.lst xs)) : Al H a := by
  refine ⟨_, h, ntbl_lst _, ncode_lst _, ?_, ?_⟩
  · intro C dx fs z
    cases z
  · intro vs z
    cases z
theorem Al.dk {H : Hp} {a : Addr} {xs : List (Key × V)} (h : H a = some (.dK xs)) : Al H a := by
  refine ⟨_, h, ?_, ?_, ?_, ?_⟩
  · intro ps z
    cases z
  · intro c q z
    unfold LamX.CodeO at z
    cases z
  · intro C dx fs z
    cases z
  · intro vs z
    cases z
theorem Al.dt {H : Hp} {a : Addr} {xs : List (List Key × V)} (h : H a = some (.dT xs)) : Al H a := by
  refine ⟨_, h, ?_, ?_, ?_, ?_⟩
  · intro ps z
    cases z
  · intro c q z
    unfold LamX.CodeO at z
    cases z
  · intro C dx fs z
    cases z
  · intro vs z
    cases z
def SlotRel (K : PySem.W.Frag) (w m : AD) (H : Hp) (x : Option V) : Slot → Prop
  | .any => True
  | .p d => ∃ v, x = some v ∧ Rep K w m H v d
  | .o a ds => x = some (.ref a) ∧ m a ∧ ¬ w a ∧ ∃ vs, H a = some (.lst vs) ∧ Reps K w m H vs ds
  | .oo a bs dss => x = some (.ref a) ∧ m a ∧ ¬ w a ∧ H a = some (.lst (bs.map V.ref)) ∧ bs.length = dss.length ∧ bs.Nodup ∧ a ∉ bs ∧
      ∀ (i : Nat) (b : Addr) (ds : List D), bs[i]? = some b → dss[i]? = some ds → m b ∧ ¬ w b ∧ ∃ vs, H b = some (.lst vs) ∧ Reps K w m H vs ds
  | .dk a ks => x = some (.ref a) ∧ m a ∧ ¬ w a ∧ ∃ kvs, H a = some (.dK kvs) ∧ kvs.map (·.1) = ks.map Sum.inl
  | .dt a ks => x = some (.ref a) ∧ m a ∧ ¬ w a ∧ ∃ kvs, H a = some (.dT kvs) ∧ kvs.map (·.1) = ks.map fun k => [Sum.inl k.1, Sum.inl k.2]

/-- the table that the one lambda's code object is kept in -/
def TbK (K : PySem.W.Frag) : Addr := (He.cT K ("Lists", some "next_tie")).2
def Tbs (K : PySem.W.Frag) (H : Hp) : Prop := LamX.TabS H (TbK K) TQ
/-- what is fixed in a def's body, in a block of it -/
structure Sta where
  P : Program
  w : World
  K : PySem.W.Frag
  mg : Str → Option Value
  base : Heap
  N : List Str
  sc : Scope
  fn : Str → Bool
  k : Nat
  tw : AD
  ev : Env → Prop
structure XOk (S : Sta) (X : Cx) : Prop where
  prog : X.prog = S.P
  w : X.w = S.w
  K : X.K = S.K
  mg : X.mg = S.mg
  base : X.base = S.base
  N : X.N = S.N
  sc : X.env.scope = S.sc
  fn : X.fn = S.fn
  calm : X.calm = true
  room : Room S.k X.A
  xe : X.xe = fun _ _ => False
  ev : S.ev X.env
structure RE (S : Sta) (m : AD) (H : Hp) (σ : L2.St) (ρ : PSt) : Prop where
  len : σ.length = ρ.length
  rel : ∀ (i : Nat) (x : Option V) (s : Slot), σ[i]? = some x → ρ[i]? = some s → SlotRel S.K S.tw m H x s
  al : ∀ a, m a → Al H a
  tp : ∀ a, S.tw a → m a ∧ TapeAt H a
  tb : Tbs S.K H
section
variable {S : Sta} {m m' : AD} {H H' : Hp} {σ : L2.St} {ρ : PSt} {p : Addr} {o : HO}
theorem RE.fresh (r : RE S m H σ ρ) (h : H p = none) : ¬ m p := fun z => by
  obtain ⟨o, e, _⟩ := r.al p z
  rw [h] at e; cases e
theorem Al.ex (a : Al H p) (t : S.tw p → TapeAt H p) (e : Ex S.tw H H') : Al H' p := by
  by_cases hw : S.tw p
  · obtain ⟨i, j, h⟩ := e.tape p hw (t hw)
    exact Al.lst h
  · obtain ⟨o, h1, h2⟩ := a
    exact ⟨o, e.keep p o h1 hw h2.1, h2⟩
theorem SlotRel.mono {K : PySem.W.Frag} {w : AD} {x : Option V} {s : Slot} (k : ∀ b o, H b = some o → ¬ m b → NTbl o → H' b = some o ∧ ¬ m' b) (ko : ∀ a ∈ s.addrs, m a → ¬ w a → (∀ u, H a = some u → NTbl u → H' a = some u) ∧ m' a) (r : SlotRel K w m H x s) : SlotRel K w m' H' x s := by
  cases s with
  | any => trivial
  | p d => obtain ⟨v, e, r⟩ := r; exact ⟨v, e, r.mono k fun _ h => h⟩
  | o a ds =>
    obtain ⟨e, h1, h2, vs, h3, h4⟩ := r
    obtain ⟨k1, k2⟩ := ko a (by simp [Slot.addrs]) h1 h2
    exact ⟨e, k2, h2, vs, k1 _ h3 (fun ps q => nomatch q), h4.mono k fun _ h => h⟩
  | oo a bs dss =>
    obtain ⟨e, h1, h2, h3, h4, h5, h6, h7⟩ := r
    obtain ⟨k1, k2⟩ := ko a (by simp [Slot.addrs]) h1 h2
    refine ⟨e, k2, h2, k1 _ h3 (fun ps q => nomatch q), h4, h5, h6, fun i b ds q1 q2 => ?_⟩
    obtain ⟨g1, g2, vs, g3, g4⟩ := h7 i b ds q1 q2
    obtain ⟨l1, l2⟩ := ko b (by simp only [Slot.addrs, List.mem_cons]; exact .inr (List.mem_of_getElem? q1)) g1 g2
    exact ⟨l2, g2, vs, l1 _ g3 (fun ps q => nomatch q), g4.mono k fun _ h => h⟩
  | dk a ks =>
    obtain ⟨e, h1, h2, kvs, h3, h4⟩ := r
    obtain ⟨k1, k2⟩ := ko a (by simp [Slot.addrs]) h1 h2
    exact ⟨e, k2, h2, kvs, k1 _ h3 (fun ps q => nomatch q), h4⟩
  | dt a ks =>
    obtain ⟨e, h1, h2, kvs, h3, h4⟩ := r
    obtain ⟨k1, k2⟩ := ko a (by simp [Slot.addrs]) h1 h2
    exact ⟨e, k2, h2, kvs, k1 _ h3 (fun ps q => nomatch q), h4⟩
theorem RE.nw (r : RE S m H σ ρ) {b : Addr} (n : ¬ m b) : ¬ S.tw b := fun z => n (r.tp b z).1
theorem RE.ex (r : RE S m H σ ρ) (e : Ex S.tw H H') : RE S m H' σ ρ :=
  ⟨r.len, fun i x s h1 h2 => (r.rel i x s h1 h2).mono (fun b o h n t => ⟨e.keep b o h (r.nw n) t, n⟩) fun a _ h n => ⟨fun u hu t => e.keep a u hu n t, h⟩,
    fun a h => (r.al a h).ex (fun z => (r.tp a z).2) e, fun a h => ⟨(r.tp a h).1, e.tape a h (r.tp a h).2⟩, e.tab _ r.tb⟩
theorem RE.kp (r : RE S m H σ ρ) (e : Ex S.tw H H') : ∀ b o, H b = some o → ¬ m b → NTbl o → H' b = some o ∧ ¬ m b := fun b o h n t => ⟨e.keep b o h (r.nw n) t, n⟩
theorem RE.rep {v : V} {d : D} (r : RE S m H σ ρ) (e : Ex S.tw H H') (q : Rep S.K S.tw m H v d) : Rep S.K S.tw m H' v d := q.mono (r.kp e) fun _ h => h
theorem RE.reps {vs : List V} {ds : List D} (r : RE S m H σ ρ) (e : Ex S.tw H H') (q : Reps S.K S.tw m H vs ds) : Reps S.K S.tw m H' vs ds := q.mono (r.kp e) fun _ h => h
end
end U
set_option Elab.async false
set_option linter.all false
set_option maxRecDepth 100000
set_option maxHeartbeats 1000000
/-! the weakest readings; expressions over data -/
namespace U
open PySem PySem.Spec PyProof.Rows L2

section
variable (X : Cx)
def wE (e : Expr) : TE := fun σ H Q => ∀ (pins : List (Addr × Obj)) (s : Shared), Inv X pins σ H s → wpAny (model X.prog X.w) X.A (eval e X.env) (EP X pins σ Q) X.xe s
def wT (e : Expr) : TT := fun σ H Q => ∀ (pins : List (Addr × Obj)) (s : Shared), Inv X pins σ H s → wpAny (model X.prog X.w) X.A (isTrue e X.env (eval e X.env)) (TP X pins σ Q) X.xe s
def wA (es : List Expr) : TA := fun σ H Q => ∀ (pos : Pos) (pins : List (Addr × Obj)) (s : Shared), Inv X pins σ H s → wpAny (model X.prog X.w) X.A (spliced (backTo pos (starEach es X.env))) (AP X pins σ Q) X.xe s
def wI (tg iter : Expr) : TI := fun σ H R => ∀ (pins : List (Addr × Obj)) (s : Shared), Inv X pins σ H s →
  wpAny (model X.prog X.w) X.A (eval iter X.env) (fun v s1 => wpAny (model X.prog X.w) X.A (pyIter v) (PIE X pins σ tg R) X.xe s1) X.xe s
def wG (tg : Expr) : TG := fun v σ H Q => ∀ (pins : List (Addr × Obj)) (s : Shared) (u : Value), Inv X pins σ H s → RelV v u →
  wpAny (model X.prog X.w) X.A (assign tg X.env u) (fun _ s' => ∃ σ' H', Inv X pins σ' H' s' ∧ Q σ' H') X.xe s
def wGs (ts : List Expr) : TGs := fun vs σ H Q => ∀ (pins : List (Addr × Obj)) (s : Shared) (us : List Value), Inv X pins σ H s → Vals vs us →
  wpAny (model X.prog X.w) X.A (assignInOrder ((assignEach ts X.env).map (·.2)) us) (fun _ s' => ∃ σ' H', Inv X pins σ' H' s' ∧ Q σ' H') X.xe s
def wS (st : Stmt) : TS := fun D σ H => ∀ (pins : List (Addr × Obj)) (s : Shared), Inv X pins σ H s → wpAny (model X.prog X.w) X.A (exec st X.env) (SP X pins D) X.xe s
def wL (sts : List Stmt) : TS := fun D σ H => ∀ (pins : List (Addr × Obj)) (s : Shared), Inv X pins σ H s → wpAny (model X.prog X.w) X.A (execs sts X.env) (SP X pins D) X.xe s
end
section
variable {X : Cx} {e tg iter : Expr} {es : List Expr} {st : Stmt} {sts : List Stmt} {σ : L2.St} {H : Hp}
theorem pe_w : PE X e (wE X e) := ⟨fun pins s _ _ _ I h => h pins s I⟩
theorem pt_w : PT X e (wT X e) := ⟨fun pins s _ _ _ I h => h pins s I⟩
theorem pa_w : PA X es (wA X es) := ⟨fun pos pins s _ _ _ I h => h pos pins s I⟩
theorem pi_w : PI X tg iter (wI X tg iter) := ⟨fun pins s _ _ _ I h => h pins s I⟩
theorem pg_w : PG X tg (wG X tg) := ⟨fun pins s _ _ _ u _ I r h => h pins s u I r⟩
theorem pgs_w : PGs X es (wGs X es) := ⟨fun pins s _ _ _ us _ I r h => h pins s us I r⟩
theorem ps_w : PS X st (wS X st) := ⟨fun pins s _ _ _ I h => h pins s I⟩
theorem psl_w : PSs X sts (wL X sts) := ⟨fun pins s _ _ _ I h => h pins s I⟩
theorem _root_.L2.PE.to {t : TE} {Q : VK} (h : PE X e t) (q : t σ H Q) : wE X e σ H Q := fun pins s I => h.run pins s σ H Q I q
theorem _root_.L2.PT.to {t : TT} {Q : Bool → Hp → Prop} (h : PT X e t) (q : t σ H Q) : wT X e σ H Q := fun pins s I => h.run pins s σ H Q I q
theorem _root_.L2.PA.to {t : TA} {Q : List V → Hp → Prop} (h : PA X es t) (q : t σ H Q) : wA X es σ H Q := fun pos pins s I => h.run pos pins s σ H Q I q
theorem _root_.L2.PI.to {t : TI} {R : It → Hp → Prop} (h : PI X tg iter t) (q : t σ H R) : wI X tg iter σ H R := fun pins s I => h.run pins s σ H R I q
theorem _root_.L2.PG.to {t : TG} {v : V} {Q : L2.St → Hp → Prop} (h : PG X tg t) (q : t v σ H Q) : wG X tg v σ H Q := fun pins s u I r => h.run pins s σ H v u Q I r q
theorem _root_.L2.PGs.to {t : TGs} {vs : List V} {Q : L2.St → Hp → Prop} (h : PGs X es t) (q : t vs σ H Q) : wGs X es vs σ H Q := fun pins s us I r => h.run pins s σ H vs us Q I r q
theorem _root_.L2.PS.to {t : TS} {D : Ends} (h : PS X st t) (q : t D σ H) : wS X st D σ H := fun pins s I => h.run pins s σ H D I q
theorem _root_.L2.PSs.to {t : TS} {D : Ends} (h : PSs X sts t) (q : t D σ H) : wL X sts D σ H := fun pins s I => h.run pins s σ H D I q
/-- sizes of what is tracked -/
def Sz (H : Hp) : Prop := ∀ a xs, H a = some (.lst xs) ∨ H a = some (.tup xs) → xs.length ≤ sizeLine
theorem _root_.L2.Inv.sized {pins : List (Addr × Obj)} {s : Shared} (I : Inv X pins σ H s) : Sz H := fun a xs h => by
  rcases h with h | h
  · exact (I.hok a _ h).1
  · exact (I.hok a _ h).1
theorem wE_mono {Q Q' : VK} (h : wE X e σ H Q) (f : ∀ v H', Sz H' → Q v H' → Q' v H') : wE X e σ H Q' := fun pins s I => thn (h pins s I) fun _ _ ⟨v, H', I', r, q⟩ => ⟨v, H', I', r, f v H' I'.sized q⟩
theorem wT_mono {Q Q' : Bool → Hp → Prop} (h : wT X e σ H Q) (f : ∀ b H', Q b H' → Q' b H') : wT X e σ H Q' := fun pins s I => thn (h pins s I) fun _ _ ⟨H', I', q⟩ => ⟨H', I', f _ H' q⟩
theorem wA_mono {Q Q' : List V → Hp → Prop} (h : wA X es σ H Q) (f : ∀ vs H', Sz H' → Q vs H' → Q' vs H') : wA X es σ H Q' := fun pos pins s I => thn (h pos pins s I) fun _ _ ⟨v, H', I', r, q⟩ => ⟨v, H', I', r, f v H' I'.sized q⟩
theorem wI_mono {R R' : It → Hp → Prop} (h : wI X tg iter σ H R) (f : ∀ J H', R J H' → R' J H') : wI X tg iter σ H R' := fun pins s I => thn (h pins s I) fun _ _ h1 => thn h1 fun _ _ ⟨it, fp, tn, J, H', e, I', T, t0, fo, q⟩ => ⟨it, fp, tn, J, H', e, I', T, t0, fo, f J H' q⟩
theorem wG_mono {v : V} {Q Q' : L2.St → Hp → Prop} (h : wG X tg v σ H Q) (f : ∀ σ' H', Q σ' H' → Q' σ' H') : wG X tg v σ H Q' := fun pins s u I r => thn (h pins s u I r) fun _ _ ⟨σ', H', I', q⟩ => ⟨σ', H', I', f σ' H' q⟩
theorem wGs_mono {vs : List V} {Q Q' : L2.St → Hp → Prop} (h : wGs X es vs σ H Q) (f : ∀ σ' H', Q σ' H' → Q' σ' H') : wGs X es vs σ H Q' := fun pins s us I r => thn (h pins s us I r) fun _ _ ⟨σ', H', I', q⟩ => ⟨σ', H', I', f σ' H' q⟩
/-- ends that are weaker -/
structure EndsLe (D D' : Ends) : Prop where
  nx : ∀ σ H, D.nx σ H → D'.nx σ H
  rt : ∀ v H, D.rt v H → D'.rt v H
  bk : ∀ σ H, D.bk σ H → D'.bk σ H
  ct : ∀ σ H, D.ct σ H → D'.ct σ H
theorem SP.le {pins : List (Addr × Obj)} {D D' : Ends} {f : Flow} {s' : Shared} (l : EndsLe D D') (h : SP X pins D f s') : SP X pins D' f s' := by
  cases f with
  | next => obtain ⟨σ', H', I, q⟩ := h; exact ⟨σ', H', I, l.nx _ _ q⟩
  | brk => obtain ⟨σ', H', I, q⟩ := h; exact ⟨σ', H', I, l.bk _ _ q⟩
  | cont => obtain ⟨σ', H', I, q⟩ := h; exact ⟨σ', H', I, l.ct _ _ q⟩
  | ret u => obtain ⟨v, σ', H', I, r, q⟩ := h; exact ⟨v, σ', H', I, r, l.rt _ _ q⟩
theorem wS_mono {D D' : Ends} (h : wS X st D σ H) (l : EndsLe D D') : wS X st D' σ H := fun pins s I => thn (h pins s I) fun _ _ q => SP.le l q
theorem wL_mono {D D' : Ends} (h : wL X sts D σ H) (l : EndsLe D D') : wL X sts D' σ H := fun pins s I => thn (h pins s I) fun _ _ q => SP.le l q
/-- the state's sizes -/
theorem wS_sz {D : Ends} (h : Sz H → wS X st D σ H) : wS X st D σ H := fun pins s I => h I.sized pins s I
theorem wE_sz {Q : VK} (h : Sz H → wE X e σ H Q) : wE X e σ H Q := fun pins s I => h I.sized pins s I
end

/-! ### the readings over data -/
abbrev KE := PSt → (D → Prop) → Prop
abbrev KF := PSt → (List D → Prop) → Prop
abbrev KT := PSt → (Bool → Prop) → Prop
abbrev KA := PSt → (List D → Prop) → Prop
/-- v may be read as d (a list may be one that changes elsewhere) -/
def RepB (K : PySem.W.Frag) (w m : AD) (H : Hp) (v : V) (d : D) : Prop := Rep K w m H v d ∨ ∃ a ds vs, d = .lst ds ∧ v = .ref a ∧ ¬ w a ∧ H a = some (.lst vs) ∧ Reps K w m H vs ds
def RepsB (K : PySem.W.Frag) (w m : AD) (H : Hp) (vs : List V) (ds : List D) : Prop := vs.length = ds.length ∧ ∀ (i : Nat) (v : V) (d : D), vs[i]? = some v → ds[i]? = some d → RepB K w m H v d
def EvR (S : Sta) (e : Expr) (t : KE) : Prop := ∀ X, XOk S X → ∀ m H σ ρ P, RE S m H σ ρ → t ρ P → wE X e σ H fun v H' => ∃ d, P d ∧ Ex S.tw H H' ∧ Rep S.K S.tw m H' v d
def EvB (S : Sta) (e : Expr) (t : KE) : Prop := ∀ X, XOk S X → ∀ m H σ ρ P, RE S m H σ ρ → t ρ P → wE X e σ H fun v H' => ∃ d, P d ∧ Ex S.tw H H' ∧ RepB S.K S.tw m H' v d
/-- nothing lies there (but a table of code objects, for all one can tell) -/
def Fr0 (H : Hp) (p : Addr) : Prop := ∀ o, H p = some o → ¬ NTbl o
def plus (m : AD) (p : Addr) : AD := fun b => m b ∨ b = p
/-- a new list -/
def EvF (S : Sta) (e : Expr) (t : KF) : Prop := ∀ X, XOk S X → ∀ m H σ ρ P, RE S m H σ ρ → t ρ P → wE X e σ H fun v H' => ∃ ds, P ds ∧ Ex S.tw H H' ∧ ∃ p vs, v = .ref p ∧ Fr0 H p ∧ ¬ m p ∧ H' p = some (.lst vs) ∧ Reps S.K S.tw (plus m p) H' vs ds
def TeR (S : Sta) (e : Expr) (t : KT) : Prop := ∀ X, XOk S X → ∀ m H σ ρ P, RE S m H σ ρ → t ρ P → wT X e σ H fun b H' => P b ∧ Ex S.tw H H'
def ArR (S : Sta) (es : List Expr) (t : KA) : Prop := ∀ X, XOk S X → ∀ m H σ ρ P, RE S m H σ ρ → t ρ P → wA X es σ H fun vs H' => ∃ ds, P ds ∧ Ex S.tw H H' ∧ Reps S.K S.tw m H' vs ds
def ArB (S : Sta) (es : List Expr) (t : KA) : Prop := ∀ X, XOk S X → ∀ m H σ ρ P, RE S m H σ ρ → t ρ P → wA X es σ H fun vs H' => ∃ ds, P ds ∧ Ex S.tw H H' ∧ RepsB S.K S.tw m H' vs ds
def NS (e : Expr) : Prop := ∀ es env, starEach (e :: es) env = (false, eval e env) :: starEach es env

section
variable {S : Sta} {K : PySem.W.Frag} {w m : AD} {H H' : Hp} {v : V} {d : D} {ds : List D} {σ : L2.St} {ρ : PSt}
theorem RepB.ex (r : RE S m H σ ρ) (e : Ex S.tw H H') (q : RepB S.K S.tw m H v d) : RepB S.K S.tw m H' v d := by
  rcases q with q | ⟨a, ds, vs, e1, e2, n, h, q⟩
  · exact .inl (r.rep e q)
  · exact .inr ⟨a, ds, vs, e1, e2, n, e.keep a _ h n (ntbl_lst _), r.reps e q⟩
theorem RepB.lst (q : RepB K w m H v (.lst ds)) : ∃ a vs, v = .ref a ∧ H a = some (.lst vs) ∧ Reps K w m H vs ds := by
  rcases q with q | ⟨a, ds', vs, e1, e2, n, h, q⟩
  · cases q with
    | lst h n l f => exact ⟨_, _, rfl, h, l, f⟩
  · cases e1
    exact ⟨a, vs, e2, h, q⟩
theorem Rep.tupOf (q : Rep K w m H v (.tup ds)) : ∃ a vs, v = .ref a ∧ H a = some (.tup vs) ∧ Reps K w m H vs ds := by
  cases q with
  | tup h n l f => exact ⟨_, _, rfl, h, l, f⟩
theorem RepB.tup (q : RepB K w m H v (.tup ds)) : ∃ a vs, v = .ref a ∧ H a = some (.tup vs) ∧ Reps K w m H vs ds := by
  rcases q with q | ⟨a, ds', vs, e1, e2, n, h, q⟩
  · exact q.tupOf
  · cases e1
theorem RepB.scr {ns : List Int} (q : RepB K w m H v (.scr ns)) : ∃ a, v = .ref a ∧ SqL K H a (ns.map V.int) := by
  rcases q with q | ⟨a, ds', vs, e1, e2, n, h, q⟩
  · cases q with
    | scr h =>
      rcases h with ⟨h, _⟩ | h
      · exact ⟨_, rfl, .inl h⟩
      · exact ⟨_, rfl, h H⟩
  · cases e1
theorem RepB.int {i : Int} (q : RepB K w m H v (.int i)) : v = .int i := by
  rcases q with q | ⟨a, ds', vs, e1, e2, n, h, q⟩
  · cases q; rfl
  · cases e1
theorem RepB.bl {i : Bool} (q : RepB K w m H v (.bl i)) : v = .bl i := by
  rcases q with q | ⟨a, ds', vs, e1, e2, n, h, q⟩
  · cases q; rfl
  · cases e1
theorem RepB.str {i : Str} (q : RepB K w m H v (.str i)) : v = .str i := by
  rcases q with q | ⟨a, ds', vs, e1, e2, n, h, q⟩
  · cases q; rfl
  · cases e1
theorem RepB.non (q : RepB K w m H v .non) : v = .non := by
  rcases q with q | ⟨a, ds', vs, e1, e2, n, h, q⟩
  · cases q; rfl
  · cases e1
/-- what is laid anew -/
theorem rep_lst {p : Addr} {vs : List V} (hp : H p = none) (al : ∀ a, m a → Al H a) (q : Reps K w m H vs ds) : Rep K w m (upd H p (.lst vs)) (.ref p) (.lst ds) :=
  .lst upd_same (fun z => by obtain ⟨o, e, _⟩ := al p z; rw [hp] at e; cases e) q.1 fun i v d h1 h2 => (q.2 i v d h1 h2).mono (fun b o e n _ => ⟨by rw [upd_ne (ne_of_none e hp)]; exact e, n⟩) fun _ h => h
theorem rep_tup {p : Addr} {vs : List V} (hp : H p = none) (al : ∀ a, m a → Al H a) (q : Reps K w m H vs ds) : Rep K w m (upd H p (.tup vs)) (.ref p) (.tup ds) :=
  .tup upd_same (fun z => by obtain ⟨o, e, _⟩ := al p z; rw [hp] at e; cases e) q.1 fun i v d h1 h2 => (q.2 i v d h1 h2).mono (fun b o e n _ => ⟨by rw [upd_ne (ne_of_none e hp)]; exact e, n⟩) fun _ h => h
theorem reps_plus {p : Addr} {o : HO} {vs : List V} (hp : H p = none) (q : Reps K w m H vs ds) : Reps K w (plus m p) (upd H p o) vs ds := q.mono (fun b o e n _ => ⟨by rw [upd_ne (ne_of_none e hp)]; exact e, fun z => z.elim n (ne_of_none e hp)⟩) fun _ h => h
theorem reps_new {p : Addr} {o : HO} {vs : List V} (hp : H p = none) (q : Reps K w m H vs ds) : Reps K w m (upd H p o) vs ds := q.mono (fun b o e n _ => ⟨by rw [upd_ne (ne_of_none e hp)]; exact e, n⟩) fun _ h => h
end
section
variable {S : Sta} {m : AD} {H H' : Hp} {σ : L2.St} {ρ : PSt} {p : Addr}
theorem fr0_none (h : H p = none) : Fr0 H p := fun o e => by rw [h] at e; cases e
theorem Fr0.ex {w : AD} (e : Ex w H H') (t : ∀ b, w b → TapeAt H b) (f : Fr0 H' p) : Fr0 H p := fun o ho nt => by
  by_cases hw : w p
  · obtain ⟨i, j, h⟩ := e.tape p hw (t p hw)
    exact f _ h (ntbl_lst _)
  · exact f o (e.keep p o ho hw nt) nt
theorem RE.fr (r : RE S m H σ ρ) (e : Ex S.tw H H') (h : H' p = none) : Fr0 H p ∧ ¬ m p := ⟨(fr0_none h).ex e fun b hb => (r.tp b hb).2, (r.ex e).fresh h⟩
end
section
variable {S : Sta} {e e1 e2 : Expr} {pos : Pos}
theorem EvR.b {t : KE} (h : EvR S e t) : EvB S e t := fun X ok m H σ ρ P r q => wE_mono (h X ok m H σ ρ P r q) fun v H' _ ⟨d, p, ex, rp⟩ => ⟨d, p, ex, .inl rp⟩
/-- a new list, as a value -/
def kF (t : KF) : KE := fun ρ P => t ρ fun ds => P (.lst ds)
theorem EvF.r {t : KF} (h : EvF S e t) : EvR S e (kF t) := fun X ok m H σ ρ P r q => wE_mono (h X ok m H σ ρ _ r q) fun v H' _ ⟨ds, p, ex, pp, vs, e1, e2, e0, e3, rs⟩ => by
  subst e1
  have rs := rs.mono (m' := m) (fun b o hb hn _ => ⟨hb, fun z => hn (.inl z)⟩) fun _ h => h
  exact ⟨_, p, ex, .lst e3 e0 rs.1 rs.2⟩
/-! names -/
def kVar (i : Nat) : KE := fun ρ P => ∃ d, ρ[i]? = some (.p d) ∧ P d
def rdB : Option Slot → Option D
  | some (.p d) => some d
  | some (.o _ ds) => some (.lst ds)
  | _ => none
def kVarB (i : Nat) : KE := fun ρ P => ∃ d, rdB ρ[i]? = some d ∧ P d
theorem st_at {m : AD} {H : Hp} {σ : L2.St} {ρ : PSt} {i : Nat} {s : Slot} (r : RE S m H σ ρ) (h : ρ[i]? = some s) : ∃ x, σ[i]? = some x ∧ SlotRel S.K S.tw m H x s := by
  have hi : i < σ.length := by rw [r.len]; exact (List.getElem?_eq_some_iff.mp h).1
  exact ⟨σ[i], List.getElem?_eq_getElem hi, r.rel i _ s (List.getElem?_eq_getElem hi) h⟩
theorem r_var (i : Nat) {x : Str} (hN : S.N[i]? = some x) (hv : Vis S.sc x) (hd : (x == ("__debug__" : Str)) = false := by decide) (hcd : (x == ("__classdict__" : Str)) = false := by decide) : EvR S (.Name x pos) (kVar i) := by
  intro X ok m H σ ρ P r ⟨d, h1, h2⟩
  obtain ⟨x, e, v, rfl, q⟩ := st_at r h1
  exact (pe_var (by rw [ok.N]; exact hN) (by rw [ok.sc]; exact hv) hd hcd).to ⟨v, e, d, h2, .refl, q⟩
theorem r_varB (i : Nat) {x : Str} (hN : S.N[i]? = some x) (hv : Vis S.sc x) (hd : (x == ("__debug__" : Str)) = false := by decide) (hcd : (x == ("__classdict__" : Str)) = false := by decide) : EvB S (.Name x pos) (kVarB i) := by
  intro X ok m H σ ρ P r ⟨d, h1, h2⟩
  cases hs : ρ[i]? with
  | none => rw [hs] at h1; cases h1
  | some s =>
    rw [hs] at h1
    obtain ⟨x, e, q⟩ := st_at r hs
    cases s with
    | p d' =>
      cases h1
      obtain ⟨v, rfl, q⟩ := q
      exact (pe_var (by rw [ok.N]; exact hN) (by rw [ok.sc]; exact hv) hd hcd).to ⟨v, e, d, h2, .refl, .inl q⟩
    | o a ds =>
      cases h1
      obtain ⟨rfl, q1, q2, vs, q3, q4⟩ := q
      exact (pe_var (by rw [ok.N]; exact hN) (by rw [ok.sc]; exact hv) hd hcd).to ⟨.ref a, e, .lst ds, h2, .refl, .inr ⟨a, ds, vs, rfl, rfl, q2, q3, q4⟩⟩
    | any => cases h1
    | oo _ _ _ => cases h1
    | dk _ _ => cases h1
    | dt _ _ => cases h1
/-! constants -/
def kC (d : D) : KE := fun _ P => P d
theorem r_int {i : Int} {j : Nat} : EvR S (.Constant (.int i) j pos) (kC (.int i)) := fun X ok m H σ ρ P r h => pe_int.to ⟨_, h, .refl, .int i⟩
theorem r_bl {i : Bool} {j : Nat} : EvR S (.Constant (.bool i) j pos) (kC (.bl i)) := fun X ok m H σ ρ P r h => pe_bl.to ⟨_, h, .refl, .bl i⟩
theorem r_non {j : Nat} : EvR S (.Constant .none j pos) (kC .non) := fun X ok m H σ ρ P r h => pe_non.to ⟨_, h, .refl, .non⟩
theorem r_str {x : Str} {j : Nat} : EvR S (.Constant (.str x) j pos) (kC (.str x)) := fun X ok m H σ ρ P r h => pe_str.to ⟨_, h, .refl, .str x⟩
/-- a module's text -/
theorem r_gstr {x y : Str} {t : Tok} (hg : S.sc.names.lookup x = some .globalImplicit) (hm : S.mg x = some (.str y t)) (hd : (x == ("__debug__" : Str)) = false := by decide) : EvR S (.Name x pos) (kC (.str y)) := fun X ok m H σ ρ P r h =>
  (pe_glob (v := .str y) (show X.env.scope.names.lookup x = _ by rw [ok.sc]; exact hg) (by rw [ok.mg]; exact hm) ⟨t, rfl⟩ hd).to ⟨_, h, .refl, .str y⟩
end
end U
set_option Elab.async false
set_option linter.all false
set_option maxRecDepth 100000
set_option maxHeartbeats 1000000
/-! operators, comparisons, tests over data -/
namespace U
open PySem PySem.Spec PyProof.Rows L2

/-! ### items -/
def seqP : D → Option (List D)
  | .lst ds => some ds
  | .tup ds => some ds
  | .scr ns => some (ns.map D.int)
  | _ => none
section
variable {S : Sta} {K : PySem.W.Frag} {w m : AD} {H H' : Hp} {v u : V} {d : D} {ds : List D} {σ : L2.St} {ρ : PSt}
theorem RepB.seq (h : seqP d = some ds) (q : RepB K w m H v d) : ∃ a vs, v = .ref a ∧ (SqL K H a vs ∨ SqT K H a vs) ∧ Reps K w m H vs ds := by
  cases d with
  | lst ds' =>
    cases h
    obtain ⟨a, vs, e, h1, h2⟩ := q.lst
    exact ⟨a, vs, e, .inl (.of h1), h2⟩
  | tup ds' =>
    cases h
    obtain ⟨a, vs, e, h1, h2⟩ := q.tup
    exact ⟨a, vs, e, .inr (.of h1), h2⟩
  | scr ns =>
    cases h
    obtain ⟨a, e, h1⟩ := q.scr
    exact ⟨a, _, e, .inl h1, .of_ints ns⟩
  | non => cases h
  | bl _ => cases h
  | int _ => cases h
  | str _ => cases h
  | ins _ _ _ _ _ => cases h
  | tp _ => cases h
def isN : D → Bool
  | .non => true
  | _ => false
theorem RepB.isN (q : RepB K w m H v d) : decide (v = .non) = isN d := by
  rcases q with q | ⟨a, ds, vs, e1, e2, _⟩
  · cases q <;> rfl
  · subst e1 e2; rfl
/-- none, bools, ints -/
def dat0 : D → Bool
  | .non => true
  | .int _ => true
  | .bl _ => true
  | _ => false
/-- .. and tuples of these -/
def dat1 : D → Bool
  | .tup ds => ds.all dat0
  | d => dat0 d
theorem dp0 (h : dat0 d = true) (q : Rep K w m H v d) : ∃ p, Dp K H v p ∧ p.canLay0 = true ∧ p.depth ≤ 1 := by
  cases d with
  | non => cases q; exact ⟨_, .non, rfl, by simp [PyData.depth]⟩
  | bl b => cases q; exact ⟨_, .bl b, rfl, by simp [PyData.depth]⟩
  | int i => cases q; exact ⟨_, .int i, rfl, by simp [PyData.depth]⟩
  | str _ => cases h
  | tup _ => cases h
  | lst _ => cases h
  | ins _ _ _ _ _ => cases h
  | scr _ => cases h
  | tp _ => cases h
theorem dpAll_of (n : Nat) : ∀ {ds : List D} {vs : List V}, (∀ d ∈ ds, ∀ v, Rep K w m H v d → ∃ p, Dp K H v p ∧ p.canLay0 = true ∧ p.depth ≤ n) → Reps K w m H vs ds → ∃ ps, DpAll K H vs ps ∧ PyData.canLayAll0 ps = true ∧ PyData.depthAll ps ≤ n ∧ ps.length = ds.length
  | [], vs, _, r => by
    rw [r.eq_nil]
    exact ⟨[], .nil, rfl, by simp [PyData.depthAll], rfl⟩
  | d :: ds, vs, f, r => by
    obtain ⟨v, vs', e, r1, r2⟩ := r.uncons
    subst e
    obtain ⟨ps, h1, h2, h3, h4⟩ := dpAll_of n (fun d hd => f d (List.mem_cons_of_mem _ hd)) r2
    obtain ⟨p, g1, g2, g3⟩ := f d (List.mem_cons_self ..) v r1
    refine ⟨p :: ps, .cons g1 h1, ?_, ?_, by simp [h4]⟩
    · show (p.canLay0 && PyData.canLayAll0 ps) = true
      rw [g2, h2]; rfl
    · show max p.depth (PyData.depthAll ps) ≤ n
      omega
theorem dp1 (h : dat1 d = true) (q : Rep K w m H v d) : ∃ p, Dp K H v p ∧ p.canLay0 = true ∧ p.depth ≤ 2 := by
  by_cases hd : ∃ ds, d = .tup ds
  · obtain ⟨ds, rfl⟩ := hd
    obtain ⟨a, vs, rfl, h1, h2⟩ := q.tupOf
    have h' : ds.all dat0 = true := h
    obtain ⟨ps, g1, g2, g3, g4⟩ := dpAll_of 1 (fun d hd v r => dp0 (List.all_eq_true.mp h' d hd) r) h2
    refine ⟨.tuple ps, .tup (.of h1) g1, g2, ?_⟩
    show PyData.depthAll ps + 1 ≤ 2
    omega
  · have h' : dat0 d = true := by
      cases d with
      | tup ds => exact absurd ⟨ds, rfl⟩ hd
      | _ => exact h
    obtain ⟨p, g1, g2, g3⟩ := dp0 h' q
    exact ⟨p, g1, g2, by omega⟩
end

/-! ### operators -/
def kBin (f : D → D → (D → Prop) → Prop) (ta tb : KE) : KE := fun ρ P => ta ρ fun x => tb ρ fun y => f x y P
def kBinF (f : D → D → (List D → Prop) → Prop) (ta tb : KE) : KF := fun ρ P => ta ρ fun x => tb ρ fun y => f x y P
/-- what an operator does of data -/
def OpD (S : Sta) (op : Operator) (f : D → D → (D → Prop) → Prop) : Prop := ∀ X, XOk S X → ∃ r, OpR X (binaryOp op) r ∧ ∀ (m : AD) (H : Hp) (v u : V) (x y : D) (P : D → Prop) (Q : VK), (∀ a, m a → Al H a) → RepB S.K S.tw m H v x → RepB S.K S.tw m H u y → f x y P →
  (∀ z d H', P d → Ex S.tw H H' → Rep S.K S.tw m H' z d → Q z H') → r v u H Q
def OpF (S : Sta) (op : Operator) (f : D → D → (List D → Prop) → Prop) : Prop := ∀ X, XOk S X → ∃ r, OpR X (binaryOp op) r ∧ ∀ (m : AD) (H : Hp) (v u : V) (x y : D) (P : List D → Prop) (Q : VK), (∀ a, m a → Al H a) → RepB S.K S.tw m H v x → RepB S.K S.tw m H u y → f x y P →
  (∀ p vs ds, P ds → H p = none → Reps S.K S.tw m H vs ds → Q (.ref p) (upd H p (.lst vs))) → r v u H Q
section
variable {S : Sta} {a b c : Expr} {pos : Pos} {ta tb tc : KE}
theorem r_bin {op : Operator} {f : D → D → (D → Prop) → Prop} (ho : OpD S op f) (ha : EvB S a ta) (hb : EvB S b tb) : EvR S (.BinOp a op b pos) (kBin f ta tb) := by
  intro X ok m H σ ρ P r h
  obtain ⟨rr, h1, h2⟩ := ho X ok
  refine (pe_op h1 pe_w pe_w).to (wE_mono (ha X ok m H σ ρ _ r h) fun v H1 _ ⟨x, p1, e1, q1⟩ => wE_mono (hb X ok m H1 σ ρ _ (r.ex e1) p1) fun u H2 _ ⟨y, p2, e2, q2⟩ => ?_)
  exact h2 m H2 v u x y P _ ((r.ex e1).ex e2).al (q1.ex (r.ex e1) e2) q2 p2 fun z d H' p e q => ⟨d, p, (e1.trans e2).trans e, q⟩
theorem r_binF {op : Operator} {f : D → D → (List D → Prop) → Prop} (ho : OpF S op f) (ha : EvB S a ta) (hb : EvB S b tb) : EvF S (.BinOp a op b pos) (kBinF f ta tb) := by
  intro X ok m H σ ρ P r h
  obtain ⟨rr, h1, h2⟩ := ho X ok
  refine (pe_op h1 pe_w pe_w).to (wE_mono (ha X ok m H σ ρ _ r h) fun v H1 _ ⟨x, p1, e1, q1⟩ => wE_mono (hb X ok m H1 σ ρ _ (r.ex e1) p1) fun u H2 _ ⟨y, p2, e2, q2⟩ => ?_)
  refine h2 m H2 v u x y P _ ((r.ex e1).ex e2).al (q1.ex (r.ex e1) e2) q2 p2 fun p vs ds pd hn q => ⟨ds, pd, (e1.trans e2).more hn, p, vs, rfl, (r.fr (e1.trans e2) hn).1, (r.fr (e1.trans e2) hn).2, upd_same, reps_plus hn q⟩
/-! what they do -/
def addP : D → D → (D → Prop) → Prop
  | .int i, .int j, P => P (.int (i + j))
  | .lst xs, .lst ys, P => xs.length + ys.length ≤ sizeLine ∧ P (.lst (xs ++ ys))
  | .tup xs, .tup ys, P => xs.length + ys.length ≤ sizeLine ∧ P (.tup (xs ++ ys))
  | _, _, _ => False
theorem od_add : OpD S .Add addP := by
  intro X ok
  refine ⟨_, OpR.or (OpR.or op_add op_cat) op_catA, fun m H v u x y P Q al rx ry h q => ?_⟩
  unfold addP at h
  split at h
  · rename_i i j
    exact .inl (.inl ⟨i, j, rx.int, ry.int, q _ _ _ h .refl (.int _)⟩)
  · rename_i xs ys
    obtain ⟨a, vs, rfl, h1, h2⟩ := rx.lst
    obtain ⟨b, us, rfl, h3, h4⟩ := ry.lst
    exact .inl (.inr ⟨a, b, vs, us, rfl, rfl, h1, h3, by rw [h2.1, h4.1]; exact h.1, fun p hp => q _ _ _ h.2 (.new hp) (rep_lst hp al (h2.append h4))⟩)
  · rename_i xs ys
    obtain ⟨a, vs, rfl, h1, h2⟩ := rx.tup
    obtain ⟨b, us, rfl, h3, h4⟩ := ry.tup
    rw [ok.K]
    refine .inr ⟨a, b, vs, us, rfl, rfl, .of h1, .of h3, by rw [h2.1, h4.1]; exact h.1, fun e => ?_, fun _ e => ?_, fun _ _ p hp => q _ _ _ h.2 (.new hp) (rep_tup hp al (h2.append h4))⟩
    · have e2 : xs = [] := by have := h2.1; rw [e] at this; exact List.length_eq_zero_iff.mp this.symm
      subst e2
      rcases ry with ry | ⟨_, _, _, z, _⟩
      · exact q _ _ _ h.2 .refl ry
      · cases z
    · have e2 : ys = [] := by have := h4.1; rw [e] at this; exact List.length_eq_zero_iff.mp this.symm
      subst e2
      rcases rx with rx | ⟨_, _, _, z, _⟩
      · exact q _ _ _ h.2 .refl (by rw [List.append_nil]; exact rx)
      · cases z
  · exact h.elim
def catP : D → D → (List D → Prop) → Prop
  | .lst xs, .lst ys, P => xs.length + ys.length ≤ sizeLine ∧ P (xs ++ ys)
  | _, _, _ => False
theorem of_cat : OpF S .Add catP := by
  intro X ok
  refine ⟨_, op_cat, fun m H v u x y P Q al rx ry h q => ?_⟩
  unfold catP at h
  split at h
  · rename_i xs ys
    obtain ⟨a, vs, rfl, h1, h2⟩ := rx.lst
    obtain ⟨b, us, rfl, h3, h4⟩ := ry.lst
    exact ⟨a, b, vs, us, rfl, rfl, h1, h3, by rw [h2.1, h4.1]; exact h.1, fun p hp => q _ _ _ h.2 hp (h2.append h4)⟩
  · exact h.elim
def subP : D → D → (D → Prop) → Prop
  | .int i, .int j, P => P (.int (i - j))
  | _, _, _ => False
theorem od_sub : OpD S .Sub subP := by
  intro X ok
  refine ⟨_, op_sub, fun m H v u x y P Q al rx ry h q => ?_⟩
  unfold subP at h
  split at h
  · exact ⟨_, _, rx.int, ry.int, q _ _ _ h .refl (.int _)⟩
  · exact h.elim
/-- one factor is small -/
def mulP : D → D → (D → Prop) → Prop
  | .int i, .int j, P => CMul i j ∧ P (.int (i * j))
  | .lst xs, .int k, P => -(2 ^ 63) ≤ k ∧ k < 2 ^ 63 ∧ xs.length * k.toNat ≤ sizeLine ∧ P (.lst (List.replicate k.toNat xs).flatten)
  | _, _, _ => False
theorem od_mul : OpD S .Mult mulP := by
  intro X ok
  refine ⟨_, OpR.or op_mul op_rep, fun m H v u x y P Q al rx ry h q => ?_⟩
  unfold mulP at h
  split at h
  · exact .inl ⟨_, _, rx.int, ry.int, h.1, q _ _ _ h.2 .refl (.int _)⟩
  · rename_i xs k
    obtain ⟨a, vs, rfl, h1, h2⟩ := rx.lst
    exact .inr ⟨a, k, vs, rfl, ry.int, h1, h.1, h.2.1, by rw [h2.1]; exact h.2.2.1, fun p hp => q _ _ _ h.2.2.2 (.new hp) (rep_lst hp al (h2.replicate _))⟩
  · exact h.elim
def modP : D → D → (D → Prop) → Prop
  | .int i, .int j, P => 0 < j ∧ P (.int (i % j))
  | _, _, _ => False
theorem od_mod : OpD S .Mod modP := by
  intro X ok
  refine ⟨_, op_mod, fun m H v u x y P Q al rx ry h q => ?_⟩
  unfold modP at h
  split at h
  · exact ⟨_, _, rx.int, ry.int, h.1, q _ _ _ h.2 .refl (.int _)⟩
  · exact h.elim
def fdivP : D → D → (D → Prop) → Prop
  | .int i, .int j, P => CDiv i j ∧ P (.int (i / j))
  | _, _, _ => False
theorem od_fdiv : OpD S .FloorDiv fdivP := by
  intro X ok
  refine ⟨_, op_fdiv, fun m H v u x y P Q al rx ry h q => ?_⟩
  unfold fdivP at h
  split at h
  · exact ⟨_, _, rx.int, ry.int, h.1, q _ _ _ h.2 .refl (.int _)⟩
  · exact h.elim
def powP : D → D → (D → Prop) → Prop
  | .int i, .int j, P => CPow i j ∧ P (.int (i ^ j.toNat))
  | _, _, _ => False
theorem od_pow : OpD S .Pow powP := by
  intro X ok
  refine ⟨_, op_pow, fun m H v u x y P Q al rx ry h q => ?_⟩
  unfold powP at h
  split at h
  · exact ⟨_, _, rx.int, ry.int, h.1, q _ _ _ h.2 .refl (.int _)⟩
  · exact h.elim
def kNeg (ta : KE) : KE := fun ρ P => ta ρ fun x => ∃ i, x = .int i ∧ P (.int (-i))
theorem r_neg (ha : EvR S a ta) : EvR S (.UnaryOp .USub a pos) (kNeg ta) := by
  intro X ok m H σ ρ P r h
  refine (pe_un un_neg pe_w).to (wE_mono (ha X ok m H σ ρ _ r h) fun v H1 _ ⟨x, ⟨i, e, p⟩, e1, q1⟩ => ?_)
  subst e
  cases q1
  exact ⟨i, rfl, _, p, e1, .int _⟩
end

/-! ### comparisons -/
def kCmp (f : D → D → (Bool → Prop) → Prop) (ta tb : KE) : KE := fun ρ P => ta ρ fun x => tb ρ fun y => f x y fun b => P (.bl b)
def kCmpT (f : D → D → (Bool → Prop) → Prop) (ta tb : KE) : KT := fun ρ P => ta ρ fun x => tb ρ fun y => f x y P
def CmD (S : Sta) (op : CmpOp) (f : D → D → (Bool → Prop) → Prop) : Prop := ∀ X, XOk S X → ∃ r, OpR X (compareOp op) r ∧ ∀ (m : AD) (H : Hp) (v u : V) (x y : D) (P : Bool → Prop) (Q : VK), RepB S.K S.tw m H v x → RepB S.K S.tw m H u y → f x y P →
  (∀ b, P b → Q (.bl b) H) → r v u H Q
section
variable {S : Sta} {a b c : Expr} {pos : Pos} {ta tb tc : KE}
theorem r_cmp {op : CmpOp} {f : D → D → (Bool → Prop) → Prop} (ho : CmD S op f) (ha : EvB S a ta) (hb : EvB S b tb) (hm : behindInMarks op b = false) : EvR S (.Compare a [op] [b] pos) (kCmp f ta tb) := by
  intro X ok m H σ ρ P r h
  obtain ⟨rr, h1, h2⟩ := ho X ok
  refine (pe_cmpR h1 pe_w pe_w hm).to (wE_mono (ha X ok m H σ ρ _ r h) fun v H1 _ ⟨x, p1, e1, q1⟩ => wE_mono (hb X ok m H1 σ ρ _ (r.ex e1) p1) fun u H2 _ ⟨y, p2, e2, q2⟩ => ?_)
  exact h2 m H2 v u x y _ _ (q1.ex (r.ex e1) e2) q2 p2 fun b p => ⟨_, p, e1.trans e2, .bl b⟩
theorem t_cmp {op : CmpOp} {f : D → D → (Bool → Prop) → Prop} (ho : CmD S op f) (ha : EvB S a ta) (hb : EvB S b tb) (hm : behindInMarks op b = false) : TeR S (.Compare a [op] [b] pos) (kCmpT f ta tb) := by
  intro X ok m H σ ρ P r h
  obtain ⟨rr, h1, h2⟩ := ho X ok
  refine (pt_cmpR h1 pe_w pe_w hm).to (wE_mono (ha X ok m H σ ρ _ r h) fun v H1 _ ⟨x, p1, e1, q1⟩ => wE_mono (hb X ok m H1 σ ρ _ (r.ex e1) p1) fun u H2 _ ⟨y, p2, e2, q2⟩ => ?_)
  exact h2 m H2 v u x y _ _ (q1.ex (r.ex e1) e2) q2 p2 fun b p => ⟨b, rfl, p, e1.trans e2⟩
/-- a op b op' c, all ints -/
def kChain (f g : D → D → (Bool → Prop) → Prop) (ta tb tc : KE) : KT := fun ρ P => ta ρ fun x => tb ρ fun y => f x y fun k => if k = true then tc ρ fun z => g y z P else P false
def kBo (t : KT) : KE := fun ρ P => t ρ fun b => P (.bl b)
theorem r_chain {op op' : CmpOp} {f g : D → D → (Bool → Prop) → Prop} (ho : CmD S op f) (ho' : CmD S op' g) (ha : EvB S a ta) (hb : EvB S b tb) (hc : EvB S c tc) (hm : lastMarks [op, op'] [b, c] = false := by with_unfolding_all rfl) : EvR S (.Compare a [op, op'] [b, c] pos) (kBo (kChain f g ta tb tc)) := by
  intro X ok m H σ ρ P r h
  obtain ⟨r1, h1, h2⟩ := ho X ok
  obtain ⟨r1', h1', h2'⟩ := ho' X ok
  refine (pe_chain h1 h1' pe_w pe_w pe_w hm).to (wE_mono (ha X ok m H σ ρ _ r h) fun v H1 _ ⟨x, p1, e1, q1⟩ => wE_mono (hb X ok m H1 σ ρ _ (r.ex e1) p1) fun u H2 _ ⟨y, p2, e2, q2⟩ => ?_)
  refine h2 m H2 v u x y _ _ (q1.ex (r.ex e1) e2) q2 p2 fun k p => ⟨k, rfl, ?_⟩
  cases k with
  | false => exact ⟨_, p, e1.trans e2, .bl _⟩
  | true =>
    rw [if_pos rfl] at p ⊢
    exact wE_mono (hc X ok m H2 σ ρ _ ((r.ex e1).ex e2) p) fun z H3 _ ⟨y3, p3, e3, q3⟩ => h2' m H3 u z y y3 _ _ (q2.ex ((r.ex e1).ex e2) e3) q3 p3 fun b p => ⟨_, p, (e1.trans e2).trans e3, .bl b⟩
theorem t_chain {op op' : CmpOp} {f g : D → D → (Bool → Prop) → Prop} (ho : CmD S op f) (ho' : CmD S op' g) (ha : EvB S a ta) (hb : EvB S b tb) (hc : EvB S c tc) (hm : lastMarks [op, op'] [b, c] = false := by with_unfolding_all rfl) : TeR S (.Compare a [op, op'] [b, c] pos) (kChain f g ta tb tc) := by
  intro X ok m H σ ρ P r h
  obtain ⟨r1, h1, h2⟩ := ho X ok
  obtain ⟨r1', h1', h2'⟩ := ho' X ok
  refine (pt_chain h1 h1' pe_w pe_w pe_w hm).to (wE_mono (ha X ok m H σ ρ _ r h) fun v H1 _ ⟨x, p1, e1, q1⟩ => wE_mono (hb X ok m H1 σ ρ _ (r.ex e1) p1) fun u H2 _ ⟨y, p2, e2, q2⟩ => ?_)
  refine h2 m H2 v u x y _ _ (q1.ex (r.ex e1) e2) q2 p2 fun k p => ⟨k, rfl, ?_⟩
  cases k with
  | false => exact ⟨_, rfl, p, e1.trans e2⟩
  | true =>
    rw [if_pos rfl] at p ⊢
    exact wE_mono (hc X ok m H2 σ ρ _ ((r.ex e1).ex e2) p) fun z H3 _ ⟨y3, p3, e3, q3⟩ => h2' m H3 u z y y3 _ _ (q2.ex ((r.ex e1).ex e2) e3) q3 p3 fun b p => ⟨_, rfl, p, (e1.trans e2).trans e3⟩
def iiP (f : Int → Int → Bool) : D → D → (Bool → Prop) → Prop
  | .int i, .int j, P => P (f i j)
  | _, _, _ => False
theorem cd_ii {op : CmpOp} {f : Int → Int → Bool} (h : ∀ X, OpR X (compareOp op) (rI0 fun i j => .bl (f i j))) : CmD S op (iiP f) := by
  intro X ok
  refine ⟨_, h X, fun m H v u x y P Q rx ry h q => ?_⟩
  unfold iiP at h
  split at h
  · exact ⟨_, _, rx.int, ry.int, q _ h⟩
  · exact h.elim
abbrev ltP := iiP fun i j => decide (i < j)
abbrev leP := iiP fun i j => decide (i ≤ j)
abbrev gtP := iiP fun i j => decide (j < i)
abbrev geP := iiP fun i j => decide (j ≤ i)
theorem cd_lt : CmD S .Lt ltP := cd_ii fun X => op_lt
theorem cd_le : CmD S .LtE leP := cd_ii fun X => op_le
theorem cd_gt : CmD S .Gt gtP := cd_ii fun X => op_gt
theorem cd_ge : CmD S .GtE geP := cd_ii fun X => op_ge
/-- is none, is True, is False -/
def isP : D → D → (Bool → Prop) → Prop
  | .bl i, .bl j, P => P (decide (i = j))
  | x, .non, P => P (isN x)
  | _, _, _ => False
def nisP : D → D → (Bool → Prop) → Prop
  | .bl i, .bl j, P => P (!decide (i = j))
  | x, .non, P => P (!isN x)
  | _, _, _ => False
theorem cd_is : CmD S .Is isP := by
  intro X ok
  refine ⟨_, OpR.or op_isN op_isBl, fun m H v u x y P Q rx ry h q => ?_⟩
  unfold isP at h
  split at h
  · exact .inr ⟨_, _, rx.bl, ry.bl, q _ h⟩
  · exact .inl ⟨ry.non, q _ (by rw [rx.isN]; exact h)⟩
  · exact h.elim
theorem cd_nis : CmD S .IsNot nisP := by
  intro X ok
  refine ⟨_, OpR.or op_notN op_notBl, fun m H v u x y P Q rx ry h q => ?_⟩
  unfold nisP at h
  split at h
  · exact .inr ⟨_, _, rx.bl, ry.bl, q _ h⟩
  · exact .inl ⟨ry.non, q _ (by rw [rx.isN]; exact h)⟩
  · exact h.elim
/-- == of ints and none, of texts; of a list or tuple and an empty one -/
def eqP : D → D → (Bool → Prop) → Prop
  | .int i, .int j, P => P (decide (i = j))
  | .non, .int _, P => P false
  | .int _, .non, P => P false
  | .non, .non, P => P true
  | .str a, .str b, P => P (decide (a = b))
  | .tup xs, .tup [], P => xs.all dat1 = true ∧ P xs.isEmpty
  | .lst xs, .lst [], P => xs.all dat1 = true ∧ P xs.isEmpty
  | _, _, _ => False
theorem eqv_tup_nil (ps : List PyData) : PyData.eqv (.tuple ps) (.tuple []) = ps.isEmpty := by
  cases ps <;> simp [PyData.eqv, PyData.eqvAll]
theorem eqv_lst_nil (ps : List PyData) : PyData.eqv (.list ps) (.list []) = ps.isEmpty := by
  cases ps <;> simp [PyData.eqv, PyData.eqvAll]
theorem isEmpty_len {α β : Type} {xs : List α} {ys : List β} (h : xs.length = ys.length) : xs.isEmpty = ys.isEmpty := by
  cases xs <;> cases ys <;> first | rfl | simp at h
theorem cd_eqne {op : CmpOp} {neg : Bool} (h1 : ∀ X, OpR X (compareOp op) (fun x y H Q => scal x y = true ∧ Q (.bl (if neg then !decide (x = y) else decide (x = y))) H))
    (h2 : ∀ X : Cx, X.A.units + 64 < cLine → OpR X (compareOp op) (fun x y H Q => ∃ d e, Dp X.K H x d ∧ Dp X.K H y e ∧ SeqAt.shaped d = true ∧ SeqAt.shaped e = true ∧ Q (.bl (if neg then !PyData.eqv d e else PyData.eqv d e)) H)) :
    CmD S op (fun x y P => eqP x y fun b => P (if neg then !b else b)) := by
  intro X ok
  refine ⟨_, OpR.or (h1 X) (h2 X ok.room.units), fun m H v u x y P Q rx ry h q => ?_⟩
  change eqP x y _ at h
  generalize hP : (fun b : Bool => P (if neg = true then !b else b)) = P' at h
  have q : ∀ b, P' b → Q (.bl (if neg = true then !b else b)) H := fun b z => by
    subst hP
    exact q _ z
  clear hP
  unfold eqP at h
  split at h
  · rename_i i j
    have z1 : v = .int i := rx.int
    have z2 : u = .int j := ry.int
    subst z1 z2
    refine .inl ⟨rfl, q _ ?_⟩
    have e : decide (V.int i = V.int j) = decide (i = j) := decide_eq_decide.mpr ⟨fun z => V.int.inj z, fun z => by rw [z]⟩
    rw [e]; exact h
  · have z1 : v = .non := rx.non
    have z2 := ry.int
    subst z1 z2
    exact .inl ⟨rfl, q _ h⟩
  · have z1 := rx.int
    have z2 : u = .non := ry.non
    subst z1 z2
    exact .inl ⟨rfl, q _ h⟩
  · have z1 : v = .non := rx.non
    have z2 : u = .non := ry.non
    subst z1 z2
    exact .inl ⟨rfl, q _ h⟩
  · rename_i i j
    have z1 : v = .str i := rx.str
    have z2 : u = .str j := ry.str
    subst z1 z2
    refine .inl ⟨rfl, q _ ?_⟩
    have e : decide (V.str i = V.str j) = decide (i = j) := decide_eq_decide.mpr ⟨fun z => V.str.inj z, fun z => by rw [z]⟩
    rw [e]; exact h
  · rename_i xs
    obtain ⟨a, vs, rfl, g1, g2⟩ := rx.tup
    obtain ⟨b, us, rfl, g3, g4⟩ := ry.tup
    have e0 := g4.eq_nil
    subst e0
    obtain ⟨ps, k1, k2, k3, k4⟩ := dpAll_of 2 (fun d hd v r => dp1 (List.all_eq_true.mp h.1 d hd) r) g2
    rw [ok.K]
    refine .inr ⟨.tuple ps, .tuple [], .tup (.of g1) k1, .tup (.of g3) .nil, ?_, ?_, q _ ?_⟩
    · show (PyData.canLayAll0 ps && decide (PyData.depthAll ps + 1 ≤ 64)) = true
      rw [k2, decide_eq_true (by omega)]; rfl
    · show (PyData.canLayAll0 [] && decide (PyData.depthAll [] + 1 ≤ 64)) = true
      simp [PyData.depthAll, PyData.canLayAll0]
    · rw [eqv_tup_nil, isEmpty_len k4]; exact h.2
  · rename_i xs
    obtain ⟨a, vs, rfl, g1, g2⟩ := rx.lst
    obtain ⟨b, us, rfl, g3, g4⟩ := ry.lst
    have e0 := g4.eq_nil
    subst e0
    obtain ⟨ps, k1, k2, k3, k4⟩ := dpAll_of 2 (fun d hd v r => dp1 (List.all_eq_true.mp h.1 d hd) r) g2
    rw [ok.K]
    refine .inr ⟨.list ps, .list [], .lst (.of g1) k1, .lst (.of g3) .nil, ?_, ?_, q _ ?_⟩
    · show (PyData.canLayAll0 ps && decide (PyData.depthAll ps + 1 ≤ 64)) = true
      rw [k2, decide_eq_true (by omega)]; rfl
    · show (PyData.canLayAll0 [] && decide (PyData.depthAll [] + 1 ≤ 64)) = true
      simp [PyData.depthAll, PyData.canLayAll0]
    · rw [eqv_lst_nil, isEmpty_len k4]; exact h.2
  · exact h.elim
def neP : D → D → (Bool → Prop) → Prop := fun x y P => eqP x y fun b => P (!b)
theorem cd_eq : CmD S .Eq eqP := cd_eqne (neg := false) (fun X => op_eq) fun X h => op_eqD h
theorem cd_ne : CmD S .NotEq neP := cd_eqne (neg := true) (fun X => op_ne) fun X h => op_neD h
/-- in, not in: ints and none among ints and nones -/
def ni : D → Bool
  | .non => true
  | .int _ => true
  | _ => false
def eqN : D → D → Bool
  | .non, .non => true
  | .int i, .int j => i == j
  | _, _ => false
def inP : D → D → (Bool → Prop) → Prop := fun x y P => ∃ ds, seqP y = some ds ∧ ni x = true ∧ ds.all ni = true ∧ P (ds.any fun d => eqN d x)
def ninP : D → D → (Bool → Prop) → Prop := fun x y P => inP x y fun b => P (!b)
theorem ni_of {x : D} (h : ni x = true) : x = .non ∨ ∃ i, x = .int i := by
  cases x with
  | non => exact .inl rfl
  | int i => exact .inr ⟨i, rfl⟩
  | _ => exact absurd h (fun z => nomatch z)
theorem ni_flat {K : PySem.W.Frag} {w m : AD} {H : Hp} {v u : V} {x y : D} (hx : ni x = true) (hy : ni y = true) (rx : Rep K w m H v x) (ry : Rep K w m H u y) : flatV v = true ∧ eqV v u = eqN x y := by
  rcases ni_of hx with rfl | ⟨i, rfl⟩
  · cases rx
    rcases ni_of hy with rfl | ⟨j, rfl⟩
    · cases ry; exact ⟨rfl, rfl⟩
    · cases ry; exact ⟨rfl, rfl⟩
  · cases rx
    rcases ni_of hy with rfl | ⟨j, rfl⟩
    · cases ry; exact ⟨rfl, rfl⟩
    · cases ry; exact ⟨rfl, rfl⟩
theorem any_ni {K : PySem.W.Frag} {w m : AD} {H : Hp} {u : V} {y : D} (hy : ni y = true) (ry : Rep K w m H u y) : ∀ {ds : List D} {vs : List V}, ds.all ni = true → Reps K w m H vs ds → vs.all flatV = true ∧ inV u vs = ds.any fun d => eqN d y
  | [], vs, _, r => by rw [r.eq_nil]; exact ⟨rfl, rfl⟩
  | d :: ds, vs, h, r => by
    obtain ⟨v, vs', e, r1, r2⟩ := r.uncons
    subst e
    rw [List.all_cons, Bool.and_eq_true] at h
    obtain ⟨h1, h2⟩ := any_ni hy ry h.2 r2
    obtain ⟨g1, g2⟩ := ni_flat h.1 hy r1 ry
    refine ⟨by rw [List.all_cons, g1, h1]; rfl, ?_⟩
    show (eqV v u || inV u vs') = (eqN d y || _)
    rw [g2, h2]
theorem RepB.ni {K : PySem.W.Frag} {w m : AD} {H : Hp} {v : V} {x : D} (h : ni x = true) (r : RepB K w m H v x) : Rep K w m H v x := by
  rcases r with r | ⟨_, _, _, e, _⟩
  · exact r
  · subst e; cases h
theorem cd_in : CmD S .In inP := by
  intro X ok
  refine ⟨_, op_in_seq, fun m H v u x y P Q rx ry h q => ?_⟩
  obtain ⟨ds, h1, h2, h3, h4⟩ := h
  obtain ⟨a, vs, rfl, g1, g2⟩ := ry.seq h1
  obtain ⟨k1, k2⟩ := any_ni h2 (rx.ni h2) h3 g2
  rw [ok.K]
  exact ⟨a, vs, rfl, g1, (ni_flat h2 h2 (rx.ni h2) (rx.ni h2)).1, k1, q _ (by rw [if_neg (by decide), k2]; exact h4)⟩
theorem cd_nin : CmD S .NotIn ninP := by
  intro X ok
  refine ⟨_, op_notIn_seq, fun m H v u x y P Q rx ry h q => ?_⟩
  obtain ⟨ds, h1, h2, h3, h4⟩ := h
  obtain ⟨a, vs, rfl, g1, g2⟩ := ry.seq h1
  obtain ⟨k1, k2⟩ := any_ni h2 (rx.ni h2) h3 g2
  rw [ok.K]
  exact ⟨a, vs, rfl, g1, (ni_flat h2 h2 (rx.ni h2) (rx.ni h2)).1, k1, q _ (by rw [if_pos rfl, k2]; exact h4)⟩
end
end U
set_option Elab.async false
set_option linter.all false
set_option maxRecDepth 100000
set_option maxHeartbeats 1000000
/-! tests, displays, subscripts, slices over data -/
namespace U
open PySem PySem.Spec PyProof.Rows L2

section
variable (X : Cx)
def wW (e : Expr) : TT := fun σ H Q => ∀ (whole : Sem Value) (pins : List (Addr × Obj)) (s : Shared), Inv X pins σ H s → wpAny (model X.prog X.w) X.A (isTrue e X.env whole) (TP X pins σ Q) X.xe s
end
theorem pw_w {X : Cx} {e : Expr} : PW X e (wW X e) := ⟨fun wh pins s _ _ _ I h => h wh pins s I⟩
theorem _root_.L2.PW.to {X : Cx} {e : Expr} {t : TT} {σ : L2.St} {H : Hp} {Q : Bool → Hp → Prop} (h : PW X e t) (q : t σ H Q) : wW X e σ H Q := fun wh pins s I => h.run wh pins s σ H Q I q
theorem wW_mono {X : Cx} {e : Expr} {σ : L2.St} {H : Hp} {Q Q' : Bool → Hp → Prop} (h : wW X e σ H Q) (f : ∀ b H', Q b H' → Q' b H') : wW X e σ H Q' := fun wh pins s I => thn (h wh pins s I) fun _ _ ⟨H', I', q⟩ => ⟨H', I', f _ H' q⟩
def TwR (S : Sta) (e : Expr) (t : KT) : Prop := ∀ X, XOk S X → ∀ m H σ ρ P, RE S m H σ ρ → t ρ P → wW X e σ H fun b H' => P b ∧ Ex S.tw H H'
section
variable {S : Sta} {e a b c : Expr} {rest : List Expr} {pos : Pos} {ta tb tc : KE} {qa qb qc : KT}
theorem TwR.t (h : TwR S e qa) : TeR S e qa := fun X ok m H σ ρ P r q => fun pins s I => h X ok m H σ ρ P r q _ pins s I
/-! and, or, not as tests -/
def tkAnd (qa qb : KT) : KT := fun ρ P => qa ρ fun c => if c = true then qb ρ P else P false
def tkOr (qa qb : KT) : KT := fun ρ P => qa ρ fun c => if c = true then P true else qb ρ P
def tkNot (qa : KT) : KT := fun ρ P => qa ρ fun c => P (!c)
theorem t_and1 (ha : TeR S a qa) : TwR S (.BoolOp .And [a] pos) qa := fun X ok m H σ ρ P r h => (pw_and1 pt_w).to (ha X ok m H σ ρ P r h)
theorem t_or1 (ha : TeR S a qa) : TwR S (.BoolOp .Or [a] pos) qa := fun X ok m H σ ρ P r h => (pw_or1 pt_w).to (ha X ok m H σ ρ P r h)
theorem t_and (ha : TeR S a qa) (hb : TwR S (.BoolOp .And (b :: rest) pos) qb) : TwR S (.BoolOp .And (a :: b :: rest) pos) (tkAnd qa qb) := by
  intro X ok m H σ ρ P r h
  refine (pw_and pt_w pw_w).to (wT_mono (ha X ok m H σ ρ _ r h) fun c H1 ⟨p, e1⟩ => ?_)
  cases c with
  | true =>
    rw [if_pos rfl] at p ⊢
    exact wW_mono (hb X ok m H1 σ ρ P (r.ex e1) p) fun b H2 ⟨p2, e2⟩ => ⟨p2, e1.trans e2⟩
  | false => exact ⟨p, e1⟩
theorem t_or (ha : TeR S a qa) (hb : TwR S (.BoolOp .Or (b :: rest) pos) qb) : TwR S (.BoolOp .Or (a :: b :: rest) pos) (tkOr qa qb) := by
  intro X ok m H σ ρ P r h
  refine (pw_or pt_w pw_w).to (wT_mono (ha X ok m H σ ρ _ r h) fun c H1 ⟨p, e1⟩ => ?_)
  cases c with
  | false =>
    rw [if_neg (by decide)] at p ⊢
    exact wW_mono (hb X ok m H1 σ ρ P (r.ex e1) p) fun b H2 ⟨p2, e2⟩ => ⟨p2, e1.trans e2⟩
  | true => exact ⟨p, e1⟩
theorem t_not (ha : TeR S a qa) : TeR S (.UnaryOp .Not a pos) (tkNot qa) := by
  intro X ok m H σ ρ P r h
  exact (pt_not pt_w).to (wT_mono (ha X ok m H σ ρ _ r h) fun c H1 q => q)
/-- a value that is a bool -/
def tkV (ta : KE) : KT := fun ρ P => ta ρ fun x => ∃ c, x = .bl c ∧ P c
theorem t_val (ha : EvR S e ta) (he : ∀ env whole, isTrue e env whole = (do let v ← whole; standAt e.pos; holding [v] (truthy v)) := by intro _ _; rfl) : TeR S e (tkV ta) := by
  intro X ok m H σ ρ P r h
  refine (pt_val pe_w (he _)).to (wE_mono (ha X ok m H σ ρ _ r h) fun v H1 _ ⟨x, ⟨c, e, p⟩, e1, q⟩ => ?_)
  subst e
  cases q
  exact ⟨c, rfl, p, e1⟩
/-! .. as values -/
def kAnd (ta tb : KE) : KE := fun ρ P => ta ρ fun x => ∃ c, x = .bl c ∧ if c = true then tb ρ P else P (.bl false)
def kOr (ta tb : KE) : KE := fun ρ P => ta ρ fun x => ∃ c, x = .bl c ∧ if c = true then P (.bl true) else tb ρ P
def kNot (ta : KE) : KE := fun ρ P => ta ρ fun x => ∃ c, x = .bl c ∧ P (.bl (!c))
theorem r_one {op : BoolOp} (ha : EvR S a ta) : EvR S (.BoolOp op [a] pos) ta := fun X ok m H σ ρ P r h => (pe_one pe_w).to (ha X ok m H σ ρ P r h)
theorem r_and (ha : EvR S a ta) (hb : EvR S (.BoolOp .And (b :: rest) pos) tb) : EvR S (.BoolOp .And (a :: b :: rest) pos) (kAnd ta tb) := by
  intro X ok m H σ ρ P r h
  refine (pe_and pe_w pe_w).to (wE_mono (ha X ok m H σ ρ _ r h) fun v H1 _ ⟨x, ⟨c, e, p⟩, e1, q⟩ => ?_)
  subst e
  cases q
  refine ⟨c, rfl, ?_⟩
  cases c with
  | true =>
    rw [if_pos rfl] at p ⊢
    exact wE_mono (hb X ok m H1 σ ρ P (r.ex e1) p) fun v H2 _ ⟨d, p2, e2, q2⟩ => ⟨d, p2, e1.trans e2, q2⟩
  | false => exact ⟨_, p, e1, .bl _⟩
theorem r_or (ha : EvR S a ta) (hb : EvR S (.BoolOp .Or (b :: rest) pos) tb) : EvR S (.BoolOp .Or (a :: b :: rest) pos) (kOr ta tb) := by
  intro X ok m H σ ρ P r h
  refine (pe_or pe_w pe_w).to (wE_mono (ha X ok m H σ ρ _ r h) fun v H1 _ ⟨x, ⟨c, e, p⟩, e1, q⟩ => ?_)
  subst e
  cases q
  refine ⟨c, rfl, ?_⟩
  cases c with
  | false =>
    rw [if_neg (by decide)] at p ⊢
    exact wE_mono (hb X ok m H1 σ ρ P (r.ex e1) p) fun v H2 _ ⟨d, p2, e2, q2⟩ => ⟨d, p2, e1.trans e2, q2⟩
  | true => exact ⟨_, p, e1, .bl _⟩
theorem r_not (ha : EvR S a ta) : EvR S (.UnaryOp .Not a pos) (kNot ta) := by
  intro X ok m H σ ρ P r h
  refine (pe_not pe_w).to (wE_mono (ha X ok m H σ ρ _ r h) fun v H1 _ ⟨x, ⟨c, e, p⟩, e1, q⟩ => ?_)
  subst e
  cases q
  exact ⟨c, rfl, _, p, e1, .bl _⟩
def kIf (q : KT) (ta tb : KE) : KE := fun ρ P => q ρ fun c => if c = true then ta ρ P else tb ρ P
theorem r_if (hc : TeR S c qc) (ha : EvR S a ta) (hb : EvR S b tb) : EvR S (.IfExp c a b pos) (kIf qc ta tb) := by
  intro X ok m H σ ρ P r h
  refine (pe_ifExp pt_w pe_w pe_w).to (wT_mono (hc X ok m H σ ρ _ r h) fun k H1 ⟨p, e1⟩ => ?_)
  cases k with
  | true => rw [if_pos rfl] at p ⊢; exact wE_mono (ha X ok m H1 σ ρ P (r.ex e1) p) fun v H2 _ ⟨d, p2, e2, q2⟩ => ⟨d, p2, e1.trans e2, q2⟩
  | false => rw [if_neg (by decide)] at p ⊢; exact wE_mono (hb X ok m H1 σ ρ P (r.ex e1) p) fun v H2 _ ⟨d, p2, e2, q2⟩ => ⟨d, p2, e1.trans e2, q2⟩
/-! argument lists -/
def kNil : KA := fun _ P => P []
def kCons (ta : KE) (ts : KA) : KA := fun ρ P => ta ρ fun x => ts ρ fun xs => P (x :: xs)
variable {es : List Expr} {ts : KA}
theorem a_nil : ArR S [] kNil := fun X ok m H σ ρ P r h => pa_nil.to ⟨[], h, .refl, .nil⟩
theorem a_cons (ha : EvR S a ta) (hs : ArR S es ts) (ns : NS a := by intro _ _; rfl) : ArR S (a :: es) (kCons ta ts) := by
  intro X ok m H σ ρ P r h
  refine (pa_cons pe_w pa_w (ns _ _)).to (wE_mono (ha X ok m H σ ρ _ r h) fun v H1 _ ⟨x, p1, e1, q1⟩ => wA_mono (hs X ok m H1 σ ρ _ (r.ex e1) p1) fun vs H2 _ ⟨xs, p2, e2, q2⟩ => ?_)
  exact ⟨_, p2, e1.trans e2, .cons ((r.ex e1).rep e2 q1) q2⟩
theorem RepsB.nil {K : PySem.W.Frag} {w m : AD} {H : Hp} : RepsB K w m H [] [] := ⟨rfl, fun i v d h => by simp at h⟩
theorem RepsB.cons {K : PySem.W.Frag} {w m : AD} {H : Hp} {v : V} {d : D} {vs : List V} {ds : List D} (r : RepB K w m H v d) (rs : RepsB K w m H vs ds) : RepsB K w m H (v :: vs) (d :: ds) := by
  refine ⟨by simp [rs.1], fun i u e h1 h2 => ?_⟩
  cases i with
  | zero =>
    simp only [List.getElem?_cons_zero, Option.some.injEq] at h1 h2
    subst h1; subst h2
    exact r
  | succ i => exact rs.2 i u e (by simpa using h1) (by simpa using h2)
theorem RepsB.uncons {K : PySem.W.Frag} {w m : AD} {H : Hp} {vs : List V} {d : D} {ds : List D} (rs : RepsB K w m H vs (d :: ds)) : ∃ v vs', vs = v :: vs' ∧ RepB K w m H v d ∧ RepsB K w m H vs' ds := by
  obtain ⟨l, f⟩ := rs
  cases vs with
  | nil => simp at l
  | cons v vs' => exact ⟨v, vs', rfl, f 0 v d rfl rfl, by simpa using l, fun i u e h1 h2 => f (i + 1) u e (by simpa using h1) (by simpa using h2)⟩
theorem RepsB.eq_nil {K : PySem.W.Frag} {w m : AD} {H : Hp} {vs : List V} (rs : RepsB K w m H vs []) : vs = [] := List.length_eq_zero_iff.mp rs.1
theorem RepsB.one {K : PySem.W.Frag} {w m : AD} {H : Hp} {vs : List V} {d : D} (rs : RepsB K w m H vs [d]) : ∃ v, vs = [v] ∧ RepB K w m H v d := by
  obtain ⟨v, vs', rfl, h1, h2⟩ := rs.uncons
  exact ⟨v, by rw [h2.eq_nil], h1⟩
theorem RepsB.two {K : PySem.W.Frag} {w m : AD} {H : Hp} {vs : List V} {d d2 : D} (rs : RepsB K w m H vs [d, d2]) : ∃ v v2, vs = [v, v2] ∧ RepB K w m H v d ∧ RepB K w m H v2 d2 := by
  obtain ⟨v, vs', rfl, h1, h2⟩ := rs.uncons
  obtain ⟨v2, rfl, h3⟩ := h2.one
  exact ⟨v, v2, rfl, h1, h3⟩
theorem ab_nil : ArB S [] kNil := fun X ok m H σ ρ P r h => pa_nil.to ⟨[], h, .refl, .nil⟩
theorem ab_cons (ha : EvB S a ta) (hs : ArB S es ts) (ns : NS a := by intro _ _; rfl) : ArB S (a :: es) (kCons ta ts) := by
  intro X ok m H σ ρ P r h
  refine (pa_cons pe_w pa_w (ns _ _)).to (wE_mono (ha X ok m H σ ρ _ r h) fun v H1 _ ⟨x, p1, e1, q1⟩ => wA_mono (hs X ok m H1 σ ρ _ (r.ex e1) p1) fun vs H2 _ ⟨xs, p2, e2, q2⟩ => ?_)
  exact ⟨_, p2, e1.trans e2, .cons (q1.ex (r.ex e1) e2) q2⟩
/-! displays -/
def kTup (ts : KA) : KE := fun ρ P => ts ρ fun ds => ds.length ≤ 1000 ∧ P (.tup ds)
def kLst (ts : KA) : KF := fun ρ P => ts ρ fun ds => ds.length ≤ 1000 ∧ P ds
theorem r_tup {x1 : Nat} (h : ArR S es ts) : EvR S (.Tuple es x1 pos) (kTup ts) := by
  intro X ok m H σ ρ P r q
  refine (pe_tup pa_w).to (wA_mono (h X ok m H σ ρ _ r q) fun vs H1 _ ⟨ds, ⟨l, p⟩, e, rs⟩ => ⟨by rw [rs.1]; exact Nat.le_of_lt (small1000 l), fun t ht => ⟨_, p, e.more ht, rep_tup ht (r.ex e).al rs⟩⟩)
theorem r_lst (h : ArR S es ts) : EvF S (.List es pos) (kLst ts) := by
  intro X ok m H σ ρ P r q
  refine (pe_lst pa_w).to (wA_mono (h X ok m H σ ρ _ r q) fun vs H1 _ ⟨ds, ⟨l, p⟩, e, rs⟩ => ⟨by rw [rs.1]; exact Nat.le_of_lt (small1000 l), fun t ht => ⟨_, p, e.more ht, t, vs, rfl, (r.fr e ht).1, (r.fr e ht).2, upd_same, reps_plus ht rs⟩⟩)
/-! subscripts -/
def ixP : D → D → (D → Prop) → Prop
  | .lst ds, .int i, P => ∃ d, atI ds i = some d ∧ P d
  | .tup ds, .int i, P => ∃ d, atI ds i = some d ∧ P d
  | .scr ns, .int i, P => ∃ n, atI ns i = some n ∧ P (.int n)
  | .tp _, .int i, P => (i = 0 ∨ i = 1) ∧ ∀ n, P (.int n)
  | _, _, _ => False
theorem atI_rel {K : PySem.W.Frag} {w m : AD} {H : Hp} {vs : List V} {ds : List D} {i : Int} {d : D} (r : Reps K w m H vs ds) (h : atI ds i = some d) : ∃ v, atI vs i = some v ∧ Rep K w m H v d := by
  unfold atI at h ⊢
  rw [r.1]
  cases e : ixN ds.length i with
  | none => rw [e] at h; cases h
  | some j =>
    rw [e] at h
    obtain ⟨v, h1, h2⟩ := r.get h
    exact ⟨v, h1, h2⟩
theorem r_ix (ha : EvB S a ta) (hb : EvB S b tb) (hs : PlainIx b := by intro _ _; rfl) : EvR S (.Subscript a b pos) (kBin ixP ta tb) := by
  intro X ok m H σ ρ P r h
  refine (pe_ix (IxR.or ix_list ix_tup) pe_w pe_w hs).to (wE_mono (ha X ok m H σ ρ _ r h) fun v H1 _ ⟨x, p1, e1, q1⟩ => wE_mono (hb X ok m H1 σ ρ _ (r.ex e1) p1) fun u H2 _ ⟨y, p2, e2, q2⟩ => ?_)
  replace q1 := q1.ex (r.ex e1) e2
  have e := e1.trans e2
  rw [ok.K]
  unfold ixP at p2
  split at p2
  · obtain ⟨d, h1, h2⟩ := p2
    obtain ⟨a, vs, rfl, g1, g2⟩ := q1.lst
    obtain ⟨z, h3, h4⟩ := atI_rel g2 h1
    exact .inl ⟨a, vs, _, z, rfl, q2.int, .of g1, h3, d, h2, e, h4⟩
  · obtain ⟨d, h1, h2⟩ := p2
    obtain ⟨a, vs, rfl, g1, g2⟩ := q1.tup
    obtain ⟨z, h3, h4⟩ := atI_rel g2 h1
    exact .inr ⟨a, vs, _, z, rfl, q2.int, .of g1, h3, d, h2, e, h4⟩
  · rename_i ns i _
    obtain ⟨n, h1, h2⟩ := p2
    obtain ⟨a, rfl, g1⟩ := q1.scr
    have h3 : atI (ns.map V.int) i = some (.int n) := by
      unfold atI at h1 ⊢
      rw [List.length_map]
      cases ei : ixN ns.length i with
      | none => rw [ei] at h1; cases h1
      | some j =>
        rw [ei] at h1
        have h1' : ns[j]? = some n := h1
        show (ns.map V.int)[j]? = _
        rw [List.getElem?_map, h1']; rfl
    exact .inl ⟨a, _, _, _, rfl, q2.int, g1, h3, _, h2, e, .int n⟩
  · rename_i b i _
    have hb : v = .ref b ∧ S.tw b := by
      rcases q1 with q1 | ⟨_, _, _, z, _⟩
      · cases q1 with
        | tp h => exact ⟨rfl, h⟩
      · cases z
    obtain ⟨rfl, hb⟩ := hb
    obtain ⟨n0, n1, hT⟩ := (((r.ex e1).ex e2).tp b hb).2
    obtain ⟨h1, h2⟩ := p2
    rcases h1 with rfl | rfl
    · exact .inl ⟨b, _, 0, .int n0, rfl, q2.int, .of hT, rfl, _, h2 n0, e, .int n0⟩
    · exact .inl ⟨b, _, 1, .int n1, rfl, q2.int, .of hT, rfl, _, h2 n1, e, .int n1⟩
  · exact p2.elim
/-! slices -/
def cutD (xs : List D) (lo hi : Option Int) : List D := (xs.drop (HT.sIx xs.length 0 lo)).take (HT.sIx xs.length xs.length hi - HT.sIx xs.length 0 lo)
theorem cut_rel {K : PySem.W.Frag} {w m : AD} {H : Hp} {vs : List V} {ds : List D} (lo hi : Option Int) (r : Reps K w m H vs ds) : Reps K w m H (cutV vs lo hi) (cutD ds lo hi) := by
  unfold cutV cutD
  rw [r.1]
  exact (r.drop _).take _
abbrev KO := PSt → (Option Int → Prop) → Prop
def PoR (S : Sta) (e : Option Expr) (t : KO) : Prop := ∀ X, XOk S X → ∃ u, PO X e u ∧ ∀ m H σ ρ P, RE S m H σ ρ → t ρ P → ∀ Q : Option Int → Hp → Prop, (∀ o H', P o → Ex S.tw H H' → Q o H') → u σ H Q
def koN : KO := fun _ P => P none
def koS (ta : KE) : KO := fun ρ P => ta ρ fun x => ∃ i, x = .int i ∧ P (some i)
theorem o_none : PoR S none koN := fun X ok => ⟨_, po_none, fun m H σ ρ P r h Q q => q _ _ h .refl⟩
theorem o_some (ha : EvR S a ta) : PoR S (some a) (koS ta) := fun X ok => ⟨_, po_some pe_w, fun m H σ ρ P r h Q q => by
  refine wE_mono (ha X ok m H σ ρ _ r h) fun v H1 _ ⟨x, ⟨i, e, p⟩, e1, q1⟩ => ?_
  subst e
  cases q1
  exact ⟨i, rfl, q _ _ p e1⟩⟩
def slP : D → Option Int → Option Int → (D → Prop) → Prop
  | .lst ds, lo, hi, P => P (.lst (cutD ds lo hi))
  | .tup ds, lo, hi, P => P (.tup (cutD ds lo hi))
  | _, _, _, _ => False
def kSl (ta : KE) (tl th : KO) : KE := fun ρ P => ta ρ fun x => tl ρ fun l => th ρ fun u => slP x l u P
theorem cut_all {xs : List D} {lo hi : Option Int} (h : HT.sIx xs.length 0 lo = 0 ∧ HT.sIx xs.length xs.length hi = xs.length) : cutD xs lo hi = xs := by
  unfold cutD
  rw [h.1, h.2, List.drop_zero, Nat.sub_zero, List.take_length]
theorem r_slice {lo hi : Option Expr} {p2 : Pos} {tl th : KO} (ha : EvB S a ta) (hl : PoR S lo tl) (hu : PoR S hi th) : EvR S (.Subscript a (.Slice lo hi none p2) pos) (kSl ta tl th) := by
  intro X ok m H σ ρ P r h
  obtain ⟨ul, l1, l2⟩ := hl X ok
  obtain ⟨uh, u1, u2⟩ := hu X ok
  refine (pe_slice (SlR.or sl_list sl_tupA) pe_w l1 u1).to (wE_mono (ha X ok m H σ ρ _ r h) fun v H1 _ ⟨x, p1, e1, q1⟩ => l2 m H1 σ ρ _ (r.ex e1) p1 _ fun o1 H2 p2 e2 => u2 m H2 σ ρ _ ((r.ex e1).ex e2) p2 _ fun o2 H3 p3 e3 => ?_)
  replace q1 := (q1.ex (r.ex e1) e2).ex ((r.ex e1).ex e2) e3
  have e := (e1.trans e2).trans e3
  have al := (((r.ex e1).ex e2).ex e3).al
  rw [ok.K]
  unfold slP at p3
  split at p3
  · obtain ⟨a, vs, rfl, g1, g2⟩ := q1.lst
    exact .inl ⟨a, vs, rfl, .of g1, fun p hp => ⟨_, p3, e.more hp, rep_lst hp al (cut_rel _ _ g2)⟩⟩
  · rename_i ds _ _
    obtain ⟨a, vs, rfl, g1, g2⟩ := q1.tup
    refine .inr ⟨a, vs, rfl, .of g1, fun hw => ?_, fun _ p hp => ⟨_, p3, e.more hp, rep_tup hp al (cut_rel _ _ g2)⟩⟩
    rw [g2.1] at hw
    rw [cut_all hw] at p3
    rcases q1 with q1 | ⟨_, _, _, z, _⟩
    · exact ⟨_, p3, e, q1⟩
    · cases z
  · exact p3.elim
end
end U
set_option Elab.async false
set_option linter.all false
set_option maxRecDepth 100000
set_option maxHeartbeats 1000000
/-! calls over data -/
namespace U
open PySem PySem.Spec PyProof.Rows L2

abbrev PSp := List D → (D → Prop) → Prop
abbrev FSp := List D → (List D → Prop) → Prop
def kCall (f : PSp) (ts : KA) : KE := fun ρ P => ts ρ fun ds => f ds P
def kCallF (f : FSp) (ts : KA) : KF := fun ρ P => ts ρ fun ds => f ds P
/-- a built-in callable -/
def BiD (S : Sta) (fv : Value) (f : PSp) : Prop := ∀ X, XOk S X → ∃ r, CallR X fv r ∧ ∀ (m : AD) (H : Hp) (vs : List V) (ds : List D) (P : D → Prop) (Q : VK), (∀ a, m a → Al H a) → Sz H → RepsB S.K S.tw m H vs ds → f ds P →
  (∀ z d H', P d → Ex S.tw H H' → Rep S.K S.tw m H' z d → Q z H') → r vs H Q
def BiF (S : Sta) (fv : Value) (f : FSp) : Prop := ∀ X, XOk S X → ∃ r, CallR X fv r ∧ ∀ (m : AD) (H : Hp) (vs : List V) (ds : List D) (P : List D → Prop) (Q : VK), (∀ a, m a → Al H a) → Sz H → RepsB S.K S.tw m H vs ds → f ds P →
  (∀ p vs ds, P ds → H p = none → Reps S.K S.tw m H vs ds → Q (.ref p) (upd H p (.lst vs))) → r vs H Q
def Glo (S : Sta) (x : Str) : Prop := S.sc.names.lookup x = some .globalImplicit
theorem Glo.gl {S : Sta} {X : Cx} {x : Str} (ok : XOk S X) (h : Glo S x) : Gl X x := show X.env.scope.names.lookup x = _ by rw [ok.sc]; exact h
section
variable {S : Sta} {e a b c : Expr} {es : List Expr} {pos p : Pos} {ta tb tc : KE} {ts : KA} {x : Str} {id T : String} {f : PSp} {g : FSp}
def Plain (es : List Expr) : Prop := ∀ pos env, (backTo pos (starEach es env)).any (·.1) = false
theorem r_callB (hb : BiD S (.builtin id) f) (hg : Glo S x) (hm : S.mg x = none) (hv : bootBuiltins x = some (.builtin id)) (ha : ArB S (e :: es) ts) (hn : x ≠ "__name__" := by decide) (hdb : (x == ("__debug__" : Str)) = false := by decide)
    (ns : NS e := by intro _ _; rfl) (hpl : Plain es := by intro _ _; rfl) : EvR S (.Call (.Name x p) (e :: es) [] pos) (kCall f ts) := by
  intro X ok m H σ ρ P r h
  obtain ⟨rr, h1, h2⟩ := hb X ok
  refine (pe_callB h1 (hg.gl ok) (by rw [ok.mg]; exact hm) hv pa_w hn hdb (ns _ _) (hpl _ _)).to (wA_mono (ha X ok m H σ ρ _ r h) fun vs H1 sz ⟨ds, p1, e1, q1⟩ => ?_)
  exact h2 m H1 vs ds P _ (r.ex e1).al sz q1 p1 fun z d H' p e q => ⟨d, p, e1.trans e, q⟩
theorem r_callT (hb : BiD S (.type T) f) (hg : Glo S x) (hm : S.mg x = none) (hv : bootBuiltins x = some (.type T)) (ha : ArB S (e :: es) ts) (hn : x ≠ "__name__" := by decide) (hdb : (x == ("__debug__" : Str)) = false := by decide)
    (ns : NS e := by intro _ _; rfl) (hpl : Plain es := by intro _ _; rfl) : EvR S (.Call (.Name x p) (e :: es) [] pos) (kCall f ts) := by
  intro X ok m H σ ρ P r h
  obtain ⟨rr, h1, h2⟩ := hb X ok
  refine (pe_callTy h1 (hg.gl ok) (by rw [ok.mg]; exact hm) hv pa_w hn hdb (ns _ _) (hpl _ _)).to (wA_mono (ha X ok m H σ ρ _ r h) fun vs H1 sz ⟨ds, p1, e1, q1⟩ => ?_)
  exact h2 m H1 vs ds P _ (r.ex e1).al sz q1 p1 fun z d H' p e q => ⟨d, p, e1.trans e, q⟩
theorem r_callTF (hb : BiF S (.type T) g) (hg : Glo S x) (hm : S.mg x = none) (hv : bootBuiltins x = some (.type T)) (ha : ArB S (e :: es) ts) (hn : x ≠ "__name__" := by decide) (hdb : (x == ("__debug__" : Str)) = false := by decide)
    (ns : NS e := by intro _ _; rfl) (hpl : Plain es := by intro _ _; rfl) : EvF S (.Call (.Name x p) (e :: es) [] pos) (kCallF g ts) := by
  intro X ok m H σ ρ P r h
  obtain ⟨rr, h1, h2⟩ := hb X ok
  refine (pe_callTy h1 (hg.gl ok) (by rw [ok.mg]; exact hm) hv pa_w hn hdb (ns _ _) (hpl _ _)).to (wA_mono (ha X ok m H σ ρ _ r h) fun vs H1 sz ⟨ds, p1, e1, q1⟩ => ?_)
  exact h2 m H1 vs ds P _ (r.ex e1).al sz q1 p1 fun p vs ds pd hn q => ⟨ds, pd, e1.more hn, p, vs, rfl, (r.fr e1 hn).1, (r.fr e1 hn).2, upd_same, reps_plus hn q⟩
/-! the built-ins -/
def lenP : PSp := fun ds P => ∃ d xs, ds = [d] ∧ seqP d = some xs ∧ P (.int (xs.length : Nat))
theorem bd_len : BiD S (.builtin "len") lenP := by
  intro X ok
  refine ⟨_, call_len_seq, fun m H vs ds P Q al sz r h q => ?_⟩
  obtain ⟨d, xs, rfl, h1, h2⟩ := h
  obtain ⟨v, rfl, r1⟩ := r.one
  obtain ⟨a, us, rfl, g1, g2⟩ := r1.seq h1
  rw [ok.K]
  exact ⟨a, us, rfl, g1, q _ _ _ h2 .refl (by rw [g2.1]; exact .int _)⟩
def max2P : PSp := fun ds P => ∃ i j, ds = [.int i, .int j] ∧ P (.int (max i j))
def min2P : PSp := fun ds P => ∃ i j, ds = [.int i, .int j] ∧ P (.int (min i j))
theorem bd_max2 : BiD S (.builtin "max") max2P := by
  intro X ok
  refine ⟨_, call_max2 ok.calm, fun m H vs ds P Q al sz r h q => ?_⟩
  obtain ⟨i, j, rfl, h2⟩ := h
  obtain ⟨v, u, rfl, r1, r2⟩ := r.two
  refine ⟨i, j, by rw [r1.int, r2.int], q _ _ _ h2 .refl ?_⟩
  have e : max i j = if j > i then j else i := by split <;> omega
  rw [e]; exact .int _
theorem bd_min2 : BiD S (.builtin "min") min2P := by
  intro X ok
  refine ⟨_, call_min2 ok.calm, fun m H vs ds P Q al sz r h q => ?_⟩
  obtain ⟨i, j, rfl, h2⟩ := h
  obtain ⟨v, u, rfl, r1, r2⟩ := r.two
  refine ⟨i, j, by rw [r1.int, r2.int], q _ _ _ h2 .refl ?_⟩
  have e : min i j = if j < i then j else i := by split <;> omega
  rw [e]; exact .int _
/-- the least, the greatest of a pair -/
def maxUP : PSp := fun ds P => ∃ i j, ds = [.tup [.int i, .int j]] ∧ P (.int (max i j))
def minUP : PSp := fun ds P => ∃ i j, ds = [.tup [.int i, .int j]] ∧ P (.int (min i j))
theorem rep_ints {K : PySem.W.Frag} {w m : AD} {H : Hp} {vs : List V} {ns : List Int} {ds : List D} (h : Reps K w m H vs ds) (e : ds = ns.map D.int) : vs = ns.map V.int := by subst e; exact h.ints
theorem bd_maxU : BiD S (.builtin "max") maxUP := by
  intro X ok
  refine ⟨_, cr_maxU ok.calm ok.room.units, fun m H vs ds P Q al sz r h q => ?_⟩
  obtain ⟨i, j, rfl, h2⟩ := h
  obtain ⟨v, rfl, r1⟩ := r.one
  obtain ⟨a, us, rfl, g1, g2⟩ := r1.tup
  have e := rep_ints (ns := [i, j]) g2 rfl
  subst e
  rw [ok.K]
  exact ⟨a, i, [j], rfl, .of g1, q _ _ _ h2 .refl (.int _)⟩
theorem bd_minU : BiD S (.builtin "min") minUP := by
  intro X ok
  refine ⟨_, cr_minU ok.calm ok.room.units, fun m H vs ds P Q al sz r h q => ?_⟩
  obtain ⟨i, j, rfl, h2⟩ := h
  obtain ⟨v, rfl, r1⟩ := r.one
  obtain ⟨a, us, rfl, g1, g2⟩ := r1.tup
  have e := rep_ints (ns := [i, j]) g2 rfl
  subst e
  rw [ok.K]
  exact ⟨a, i, [j], rfl, .of g1, q _ _ _ h2 .refl (.int _)⟩
/-- of a list of ints -/
def maxLP : PSp := fun ds P => ∃ ns : List Int, ds = [.lst (ns.map D.int)] ∧ 0 < ns.length ∧ ∀ m, m ∈ ns → (∀ y, y ∈ ns → y ≤ m) → P (.int m)
def minLP : PSp := fun ds P => ∃ ns : List Int, ds = [.lst (ns.map D.int)] ∧ 0 < ns.length ∧ ∀ m, m ∈ ns → (∀ y, y ∈ ns → m ≤ y) → P (.int m)
theorem bd_maxL : BiD S (.builtin "max") maxLP := by
  intro X ok
  refine ⟨_, cr_max ok.calm, fun m H vs ds P Q al sz r h q => ?_⟩
  obtain ⟨ns, rfl, h1, h2⟩ := h
  obtain ⟨v, rfl, r1⟩ := r.one
  obtain ⟨a, us, rfl, g1, g2⟩ := r1.lst
  have e := g2.ints
  subst e
  rw [ok.K]
  exact ⟨a, ns, rfl, .of g1, h1, fun m a b => q _ _ _ (h2 m a b) .refl (.int _)⟩
theorem bd_minL : BiD S (.builtin "min") minLP := by
  intro X ok
  refine ⟨_, cr_min ok.calm, fun m H vs ds P Q al sz r h q => ?_⟩
  obtain ⟨ns, rfl, h1, h2⟩ := h
  obtain ⟨v, rfl, r1⟩ := r.one
  obtain ⟨a, us, rfl, g1, g2⟩ := r1.lst
  have e := g2.ints
  subst e
  rw [ok.K]
  exact ⟨a, ns, rfl, .of g1, h1, fun m a b => q _ _ _ (h2 m a b) .refl (.int _)⟩
/-- one of a list of tuples of ints -/
def minTP : PSp := fun ds P => ∃ nss : List (List Int), ds = [.lst (nss.map fun ns => .tup (ns.map D.int))] ∧ 0 < nss.length ∧ ∀ ns ∈ nss, P (.tup (ns.map D.int))
theorem bd_minT : BiD S (.builtin "min") minTP := by
  intro X ok
  refine ⟨_, cr_minT ok.calm ok.room.units, fun m H vs ds P Q al sz r h q => ?_⟩
  obtain ⟨nss, rfl, h1, h2⟩ := h
  obtain ⟨v, rfl, r1⟩ := r.one
  obtain ⟨a, us, rfl, g1, g2⟩ := r1.lst
  rw [ok.K]
  have at_ : ∀ (i : Nat) (x : V), us[i]? = some x → ∃ ns, nss[i]? = some ns ∧ Rep S.K S.tw m H x (.tup (ns.map D.int)) := fun i x hx => by
    have hi : i < nss.length := by
      have h1 := (List.getElem?_eq_some_iff.mp hx).1
      have h2 := g2.1
      rw [List.length_map] at h2
      omega
    exact ⟨nss[i], List.getElem?_eq_getElem hi, g2.2 i x _ hx (by rw [List.getElem?_map, List.getElem?_eq_getElem hi]; rfl)⟩
  refine ⟨a, us, rfl, .of g1, fun z => ?_, fun x hx => ?_, fun x hx => ?_⟩
  · subst z
    have := g2.1
    simp only [List.length_nil, List.length_map] at this
    omega
  · obtain ⟨i, hi⟩ := List.getElem?_of_mem hx
    obtain ⟨ns, e1, e2⟩ := at_ i x hi
    obtain ⟨b, ws, rfl, k1, k2⟩ := e2.tupOf
    have e := k2.ints
    subst e
    exact ⟨b, ns, rfl, .of k1⟩
  · obtain ⟨i, hi⟩ := List.getElem?_of_mem hx
    obtain ⟨ns, e1, e2⟩ := at_ i x hi
    exact q _ _ _ (h2 ns (List.mem_of_getElem? e1)) .refl e2
def sumTP : PSp := fun ds P => ∃ ns : List Int, ds = [.tup (ns.map D.int)] ∧ P (.int ns.sum)
theorem bd_sumT : BiD S (.builtin "sum") sumTP := by
  intro X ok
  refine ⟨_, cr_sumT ok.calm, fun m H vs ds P Q al sz r h q => ?_⟩
  obtain ⟨ns, rfl, h2⟩ := h
  obtain ⟨v, rfl, r1⟩ := r.one
  obtain ⟨a, us, rfl, g1, g2⟩ := r1.tup
  have e := g2.ints
  subst e
  rw [ok.K]
  exact ⟨a, ns, rfl, .of g1, q _ _ _ h2 .refl (.int _)⟩
def absP : PSp := fun ds P => ∃ i, ds = [.int i] ∧ P (.int (if i < 0 then -i else i))
theorem bd_abs : BiD S (.builtin "abs") absP := by
  intro X ok
  refine ⟨_, call_abs, fun m H vs ds P Q al sz r h q => ?_⟩
  obtain ⟨i, rfl, h2⟩ := h
  obtain ⟨v, rfl, r1⟩ := r.one
  exact ⟨i, by rw [r1.int], q _ _ _ h2 .refl (.int _)⟩
def intBP : PSp := fun ds P => ∃ b, ds = [.bl b] ∧ P (.int (if b then 1 else 0))
theorem bd_intB : BiD S (.type "int") intBP := by
  intro X ok
  refine ⟨_, call_int1, fun m H vs ds P Q al sz r h q => ?_⟩
  obtain ⟨i, rfl, h2⟩ := h
  obtain ⟨v, rfl, r1⟩ := r.one
  exact .inr ⟨i, by rw [r1.bl], q _ _ _ h2 .refl (.int _)⟩
theorem Reps.bls {K : PySem.W.Frag} {w m : AD} {H : Hp} {vs : List V} {bs : List Bool} (r : Reps K w m H vs (bs.map D.bl)) : vs = bs.map V.bl := by
  induction bs generalizing vs with
  | nil => exact r.eq_nil
  | cons b bs ih =>
    obtain ⟨v, vs', rfl, r1, r2⟩ := r.uncons
    have e := ih r2
    subst e
    cases r1
    rfl
def allP : PSp := fun ds P => ∃ bs : List Bool, ds = [.lst (bs.map D.bl)] ∧ P (.bl (bs.all _root_.id))
def anyP : PSp := fun ds P => ∃ bs : List Bool, ds = [.lst (bs.map D.bl)] ∧ P (.bl (bs.any _root_.id))
theorem bd_all : BiD S (.builtin "all") allP := by
  intro X ok
  refine ⟨_, cr_all ok.calm, fun m H vs ds P Q al sz r h q => ?_⟩
  obtain ⟨bs, rfl, h2⟩ := h
  obtain ⟨v, rfl, r1⟩ := r.one
  obtain ⟨a, us, rfl, g1, g2⟩ := r1.lst
  have e := g2.bls
  subst e
  rw [ok.K]
  exact ⟨a, bs, rfl, .of g1, q _ _ _ h2 .refl (.bl _)⟩
theorem bd_any : BiD S (.builtin "any") anyP := by
  intro X ok
  refine ⟨_, cr_any ok.calm, fun m H vs ds P Q al sz r h q => ?_⟩
  obtain ⟨bs, rfl, h2⟩ := h
  obtain ⟨v, rfl, r1⟩ := r.one
  obtain ⟨a, us, rfl, g1, g2⟩ := r1.lst
  have e := g2.bls
  subst e
  rw [ok.K]
  exact ⟨a, bs, rfl, .of g1, q _ _ _ h2 .refl (.bl _)⟩
def tupleP : PSp := fun ds P => ∃ xs, ds = [.lst xs] ∧ P (.tup xs)
theorem bd_tuple : BiD S (.type "tuple") tupleP := by
  intro X ok
  refine ⟨_, call_tuple_of, fun m H vs ds P Q al sz r h q => ?_⟩
  obtain ⟨xs, rfl, h2⟩ := h
  obtain ⟨v, rfl, r1⟩ := r.one
  obtain ⟨a, us, rfl, g1, g2⟩ := r1.lst
  rw [ok.K]
  exact ⟨a, us, rfl, .inl ⟨.of g1, fun l hl => q _ _ _ h2 (.new hl) (rep_tup hl al g2)⟩⟩
def listP : FSp := fun ds P => ∃ d xs, ds = [d] ∧ seqP d = some xs ∧ P xs
theorem bf_list : BiF S (.type "list") listP := by
  intro X ok
  refine ⟨_, call_list_of, fun m H vs ds P Q al sz r h q => ?_⟩
  obtain ⟨d, xs, rfl, h1, h2⟩ := h
  obtain ⟨v, rfl, r1⟩ := r.one
  obtain ⟨a, us, rfl, g1, g2⟩ := r1.seq h1
  rw [ok.K]
  exact ⟨a, us, rfl, g1, fun l hl => q _ _ _ h2 hl g2⟩
/-! max, min with a default -/
def maxDP : PSp := fun ds P => ∃ (ns : List Int) (d : D), ds = [.lst (ns.map D.int), d] ∧ (ns = [] → P d) ∧ ∀ m, m ∈ ns → (∀ y, y ∈ ns → y ≤ m) → P (.int m)
def minDP : PSp := fun ds P => ∃ (ns : List Int) (d : D), ds = [.lst (ns.map D.int), d] ∧ (ns = [] → P d) ∧ ∀ m, m ∈ ns → (∀ y, y ∈ ns → m ≤ y) → P (.int m)
/-! isinstance -/
def tyD : D → Option String
  | .non => some "NoneType"
  | .bl _ => some "bool"
  | .int _ => some "int"
  | .str _ => some "str"
  | .tup _ => some "tuple"
  | .lst _ => some "list"
  | _ => none
theorem RepB.ty {K : PySem.W.Frag} {w m : AD} {H : Hp} {v : V} {d : D} {n : String} (h : tyD d = some n) (r : RepB K w m H v d) : TyX K H v (.type n) := by
  cases d with
  | non => cases h; rw [r.non]; exact .base .non
  | bl b => cases h; rw [r.bl]; exact .base (.bl b)
  | int i => cases h; rw [r.int]; exact .base (.int i)
  | str x => cases h; rw [r.str]; exact .base (.str x)
  | tup ds => cases h; obtain ⟨a, vs, rfl, g1, _⟩ := r.tup; exact .base (.tup g1)
  | lst ds => cases h; obtain ⟨a, vs, rfl, g1, _⟩ := r.lst; exact .base (.lst g1)
  | ins _ _ _ _ _ => cases h
  | scr _ => cases h
  | tp _ => cases h
def isiD (T : String) (d : D) : Option Bool := (tyD d).bind fun n => kitB n T
def kIsi (g : D → Option Bool) (ta : KE) : KE := fun ρ P => ta ρ fun d => ∃ b, g d = some b ∧ P (.bl b)
theorem r_isi {T : String} {y : Str} {p2 : Pos} (hg : Glo S "isinstance") (hm : S.mg "isinstance" = none) (hy : Glo S y) (hmy : S.mg y = none) (hv : bootBuiltins y = some (.type T)) (ha : EvB S a ta) (hyn : y ≠ "__name__" := by decide) (hyd : (y == ("__debug__" : Str)) = false := by decide) (ns : NS a := by intro _ _; rfl) :
    EvR S (.Call (.Name "isinstance" p) [a, .Name y p2] [] pos) (kIsi (isiD T) ta) := by
  intro X ok m H σ ρ P r h
  refine (pe_callB call_isi (hg.gl ok) (by rw [ok.mg]; exact hm) (by rfl) (pa_cons pe_w (pa_cons (pe_bltn (v := .ty T) (hy.gl ok) (by rw [ok.mg]; exact hmy) hv rfl hyn hyd) pa_nil) (ns _ _)) (by decide) (by decide) (ns _ _)).to ?_
  refine wE_mono (ha X ok m H σ ρ _ r h) fun v H1 _ ⟨d, ⟨b, h1, p1⟩, e1, q1⟩ => ?_
  unfold isiD at h1
  cases ht : tyD d with
  | none => rw [ht] at h1; cases h1
  | some n =>
    rw [ht] at h1
    rw [ok.K]
    exact ⟨v, .ty T, .type n, .type T, b, rfl, .ty T, q1.ty ht, kit_ty h1, _, p1, e1, .bl b⟩
def isiD2 (d : D) : Option Bool := (tyD d).bind fun n => (kitB n "list").bind fun b => (kitB n "tuple").map fun c => b || c
/-- isinstance(x, (list, tuple)) -/
theorem r_isi2 {p2 p3 p4 : Pos} {k : Nat} (hg : Glo S "isinstance") (hm : S.mg "isinstance" = none) (h1 : Glo S "list") (hm1 : S.mg "list" = none) (h2 : Glo S "tuple") (hm2 : S.mg "tuple" = none) (ha : EvB S a ta) (ns : NS a := by intro _ _; rfl) :
    EvR S (.Call (.Name "isinstance" p) [a, .Tuple [.Name "list" p2, .Name "tuple" p3] k p4] [] pos) (kIsi isiD2 ta) := by
  intro X ok m H σ ρ P r h
  refine (pe_callB call_isiT (hg.gl ok) (by rw [ok.mg]; exact hm) (by rfl) (pa_cons pe_w (pa_cons (pe_tup (pa_cons (pe_bltn (v := .ty "list") (h1.gl ok) (by rw [ok.mg]; exact hm1) PyProof.Rows.boot_list rfl)
    (pa_cons (pe_bltn (v := .ty "tuple") (h2.gl ok) (by rw [ok.mg]; exact hm2) PyProof.Rows.boot_tuple rfl) pa_nil))) pa_nil) (ns _ _)) (by decide) (by decide) (ns _ _)).to ?_
  refine wE_mono (ha X ok m H σ ρ _ r h) fun v H1 _ ⟨d, ⟨b, h1, p1⟩, e1, q1⟩ => ⟨by decide, fun tp htp => ?_⟩
  unfold isiD2 at h1
  cases ht : tyD d with
  | none => rw [ht] at h1; cases h1
  | some n =>
    rw [ht] at h1
    have h1 : ((kitB n "list").bind fun b => (kitB n "tuple").map fun c => b || c) = some b := h1
    cases hl : kitB n "list" with
    | none => rw [hl] at h1; cases h1
    | some b1 =>
      cases hu : kitB n "tuple" with
      | none => rw [hl, hu] at h1; cases h1
      | some b2 =>
        rw [hl, hu] at h1
        have h1 : (b1 || b2) = b := Option.some.inj h1
        have e2 := Ex.new (w := S.tw) (o := .tup [.ty "list", .ty "tuple"]) htp
        rw [ok.K]
        refine ⟨v, tp, _, .type n, [.type "list", .type "tuple"], b, rfl, upd_same, .cons (.ty _) (.cons (.ty _) .nil), (q1.ex (r.ex e1) e2).ty ht, ?_, _, p1, e1.trans e2, .bl b⟩
        refine kitAny_cons (kit_ty hl) (fun e => ?_) fun e => ?_
        · refine kitAny_cons (kit_ty hu) (fun e3 => ?_) fun e3 => ?_
          · rw [← h1, e, e3]; rfl
          · rw [← h1, e, e3]; rfl
        · rw [← h1, e]; rfl
/-! len(set(..)) -/
def kLenSet (ta : KE) : KE := fun ρ P => ta ρ fun d => ∃ ns : List Int, d = .lst (ns.map D.int) ∧ ns.length ≤ 1000 ∧ ∀ ds : List Int, ds.Nodup → (∀ x, x ∈ ds ↔ x ∈ ns) → P (.int (ds.length : Nat))
theorem r_lenSet {p2 q pos : Pos} (hg : Glo S "len") (hm : S.mg "len" = none) (hg2 : Glo S "set") (hm2 : S.mg "set" = none) (ha : EvB S a ta) (ns : NS a := by intro _ _; rfl) : EvR S (.Call (.Name "len" p) [.Call (.Name "set" p2) [a] [] q] [] pos) (kLenSet ta) := by
  intro X ok m H σ ρ P r h
  refine (pe_lenSet (hg.gl ok) (by rw [ok.mg]; exact hm) (hg2.gl ok) (by rw [ok.mg]; exact hm2) pe_w ok.calm (ns _ _)).to (wE_mono (ha X ok m H σ ρ _ r h) fun v H1 _ ⟨d, ⟨ns, hd, hl, p1⟩, e1, q1⟩ => ?_)
  subst hd
  obtain ⟨a, us, rfl, g1, g2⟩ := q1.lst
  have e := g2.ints
  subst e
  rw [ok.K]
  exact ⟨a, ns, rfl, .of g1, hl, fun ds nd hm => ⟨_, p1 ds nd hm, e1, .int _⟩⟩
/-! list(range(n)) -/
/-! a def of the text -/
/-- what it promises, over data -/
def toSp (K : PySem.W.Frag) (q : PSp) : Sp := fun vs H Q _ => ∃ (w m : AD) (ds : List D) (P : D → Prop), (∀ a, m a → Al H a) ∧ (∀ a, w a → m a ∧ TapeAt H a) ∧ Tbs K H ∧ Reps K w m H vs ds ∧ q ds P ∧ ∀ v H' d, P d → Ex w H H' → Rep K w m H' v d → Q v H'
structure Callee (P : Program) (w : World) (K : PySem.W.Frag) (mg : Str → Option Value) (base : Heap) (k : Nat) (x : Str) (q : PSp) : Prop where
  ex : ∃ (f : Addr) (fd : FuncData) (ps : List Str), mg x = some (.ref f) ∧ PySem.W.keepIn K (.ref f) = true ∧ Binds K fd ps [] ∧ FnOk P w K mg base CX0 k f fd ps (toSp K q)
theorem Callee.mono {P : Program} {w : World} {K : PySem.W.Frag} {mg : Str → Option Value} {base : Heap} {j k : Nat} {q : PSp} (c : Callee P w K mg base j x q) (h : j ≤ k) : Callee P w K mg base k x q := by
  obtain ⟨f, fd, ps, h1, h2, h3, h4⟩ := c.ex
  exact ⟨f, fd, ps, h1, h2, h3, h4.mono h⟩
theorem Callee.imp {P : Program} {w : World} {K : PySem.W.Frag} {mg : Str → Option Value} {base : Heap} {k : Nat} {q q' : PSp} (c : Callee P w K mg base k x q) (h : ∀ ds P, q' ds P → q ds P) : Callee P w K mg base k x q' := by
  obtain ⟨f, fd, ps, h1, h2, h3, h4⟩ := c.ex
  refine ⟨f, fd, ps, h1, h2, h3, h4.imp fun vs H Q E ⟨w, m, ds, P, a1, a2, a0, a3, a4, a5⟩ => ⟨w, m, ds, P, a1, a2, a0, a3, h _ _ a4, a5⟩⟩
theorem r_call {k : Nat} {q : PSp} (hc : Callee S.P S.w S.K S.mg S.base k x q) (hk : k ≤ S.k) (hg : Glo S x) (ha : ArR S (e :: es) ts) (hdb : (x == ("__debug__" : Str)) = false := by decide) (ns : NS e := by intro _ _; rfl) (hpl : Plain es := by intro _ _; rfl) :
    EvR S (.Call (.Name x p) (e :: es) [] pos) (kCall q ts) := by
  intro X ok m H σ ρ P r h
  obtain ⟨f, fd, ps, h1, h2, h3, h4⟩ := hc.ex
  have F : FnOk X.prog X.w X.K X.mg X.base CX0 k f fd ps (toSp S.K q) := by rw [ok.prog, ok.w, ok.K, ok.mg, ok.base]; exact h4
  refine (pe_call F (ok.room.mono hk) (hg.gl ok) (by rw [ok.mg]; exact h1) (by rw [ok.K]; exact h2) (by rw [ok.K]; exact h3) .nil (pass0 (X := X)) pa_w hdb (ns _ _) (hpl _ _)).to ?_
  refine wA_mono (ha X ok m H σ ρ _ r h) fun vs H1 _ ⟨ds, p1, e1, q1⟩ => ?_
  refine ⟨S.tw, m, ds, P, (r.ex e1).al, (r.ex e1).tp, (r.ex e1).tb, by rw [List.append_nil]; exact q1, p1, fun v H' d p e q => ⟨d, p, e1.trans e, q⟩⟩
theorem r_call0 {k : Nat} {q : PSp} (hc : Callee S.P S.w S.K S.mg S.base k x q) (hk : k ≤ S.k) (hg : Glo S x) (hdb : (x == ("__debug__" : Str)) = false := by decide) :
    EvR S (.Call (.Name x p) [] [] pos) (kCall q kNil) := by
  intro X ok m H σ ρ P r h
  obtain ⟨f, fd, ps, h1, h2, h3, h4⟩ := hc.ex
  have F : FnOk X.prog X.w X.K X.mg X.base CX0 k f fd ps (toSp S.K q) := by rw [ok.prog, ok.w, ok.K, ok.mg, ok.base]; exact h4
  refine (pe_call0 F (ok.room.mono hk) (hg.gl ok) (by rw [ok.mg]; exact h1) (by rw [ok.K]; exact h2) (by rw [ok.K]; exact h3) .nil (pass0 (X := X)) hdb).to ?_
  exact ⟨S.tw, m, [], P, r.al, r.tp, r.tb, .nil, h, fun v H' d p e q => ⟨d, p, e, q⟩⟩
end
end U
set_option Elab.async false
set_option linter.all false
set_option maxRecDepth 100000
set_option maxHeartbeats 1000000
/-! targets, what is walked, comprehensions over data -/
namespace U
open PySem PySem.Spec PyProof.Rows L2

/-! ### targets -/
abbrev KG := D → PSt → (PSt → Prop) → Prop
abbrev KGs := List D → PSt → (PSt → Prop) → Prop
/-- alike but at the slots sl -/
def SOut (sl : List Nat) (σ σ' : L2.St) : Prop := σ'.length = σ.length ∧ ∀ j, j ∉ sl → σ'[j]? = σ[j]?
theorem SOut.refl {sl : List Nat} {σ : L2.St} : SOut sl σ σ := ⟨rfl, fun _ _ => rfl⟩
theorem SOut.trans {sl sl2 : List Nat} {σ σ1 σ2 : L2.St} (a : SOut sl σ σ1) (b : SOut sl2 σ1 σ2) : SOut (sl ++ sl2) σ σ2 :=
  ⟨b.1.trans a.1, fun j h => (b.2 j (fun z => h (List.mem_append_right _ z))).trans (a.2 j (fun z => h (List.mem_append_left _ z)))⟩
theorem wipe_at {σ : L2.St} {i : Nat} : ∀ {vs : List Nat}, i ∈ vs → i < σ.length → (wipe σ vs)[i]? = some none
  | v :: vs, h, hl => by
    unfold wipe
    by_cases e : v = i
    · subst e
      rw [List.getElem?_set_self (by rw [wipe_length]; exact hl)]
    · rw [List.getElem?_set_ne e]
      exact wipe_at ((List.mem_cons.mp h).resolve_left (fun z => e z.symm)) hl
theorem wipe_out' {σ : L2.St} {i : Nat} : ∀ {vs : List Nat}, i ∉ vs → (wipe σ vs)[i]? = σ[i]?
  | [], _ => rfl
  | v :: vs, h => by
    unfold wipe
    rw [List.getElem?_set_ne (fun e => h (by rw [← e]; exact List.mem_cons_self ..))]
    exact wipe_out' fun z => h (List.mem_cons_of_mem _ z)
theorem SOut.wipe {sl vs : List Nat} {σ σ' : L2.St} (s : SOut sl σ σ') (h : ∀ j ∈ sl, j ∈ vs) : wipe σ' vs = wipe σ vs := by
  refine List.ext_getElem? fun i => ?_
  by_cases hi : i ∈ vs
  · by_cases hl : i < σ.length
    · rw [wipe_at hi hl, wipe_at hi (by rw [s.1]; exact hl)]
    · rw [List.getElem?_eq_none (by rw [wipe_length, s.1]; omega), List.getElem?_eq_none (by rw [wipe_length]; omega)]
  · rw [wipe_out' hi, wipe_out' hi]
    exact s.2 i fun z => hi (h i z)
/-- slots: as they were, or data -/
def PSub (ρ ρ' : PSt) : Prop := ∀ (i : Nat) (s : Slot), ρ'[i]? = some s → ρ[i]? = some s ∨ s.addrs = []
theorem PSub.refl {ρ : PSt} : PSub ρ ρ := fun _ _ h => .inl h
theorem PSub.trans {ρ ρ1 ρ2 : PSt} (a : PSub ρ ρ1) (b : PSub ρ1 ρ2) : PSub ρ ρ2 := fun i s h => (b i s h).elim (fun z => a i s z) .inr
def GtR (S : Sta) (tg : Expr) (sl : List Nat) (g : KG) : Prop := ∀ X, XOk S X → ∀ m H σ ρ v d N, RE S m H σ ρ → Rep S.K S.tw m H v d → g d ρ N →
  wG X tg v σ H fun σ' H' => ∃ ρ', N ρ' ∧ Ex S.tw H H' ∧ RE S m H' σ' ρ' ∧ SOut sl σ σ' ∧ PSub ρ ρ'
def GsR (S : Sta) (ts : List Expr) (sl : List Nat) (g : KGs) : Prop := ∀ X, XOk S X → ∀ m H σ ρ vs ds N, RE S m H σ ρ → Reps S.K S.tw m H vs ds → g ds ρ N →
  wGs X ts vs σ H fun σ' H' => ∃ ρ', N ρ' ∧ Ex S.tw H H' ∧ RE S m H' σ' ρ' ∧ SOut sl σ σ' ∧ PSub ρ ρ'
section
variable {S : Sta} {m : AD} {H H' : Hp} {σ : L2.St} {ρ : PSt} {v : V} {d : D}
theorem RE.setP (r : RE S m H σ ρ) (i : Nat) (q : Rep S.K S.tw m H v d) : RE S m H (σ.set i (some v)) (ρ.set i (.p d)) := by
  refine ⟨by rw [List.length_set, List.length_set, r.len], fun j x s h1 h2 => ?_, r.al, r.tp, r.tb⟩
  rw [List.getElem?_set] at h1 h2
  by_cases e : i = j
  · rw [if_pos e] at h1 h2
    split at h1
    · cases h1
      split at h2
      · cases h2; exact ⟨v, rfl, q⟩
      · cases h2
    · cases h1
  · rw [if_neg e] at h1 h2
    exact r.rel j x s h1 h2
theorem psub_setP {i : Nat} : PSub ρ (ρ.set i (.p d)) := fun j s h => by
  rw [List.getElem?_set] at h
  split at h
  · split at h
    · cases h; exact .inr rfl
    · cases h
  · exact .inl h
end
section
variable {S : Sta} {e tg : Expr} {es : List Expr} {pos : Pos} {sl sl2 : List Nat} {g : KG} {gs : KGs}
def gkName (i : Nat) : KG := fun d ρ N => N (ρ.set i (.p d))
def Loc2 (S : Sta) (x : Str) : Prop := S.sc.names.lookup x = some .local ∨ (S.sc.names.lookup x = some .cell ∧ S.fn x = true)
theorem g_name (i : Nat) {x : Str} (hN : S.N.Nodup) (hi : S.N[i]? = some x) (hx : Loc2 S x) : GtR S (.Name x pos) [i] (gkName i) := by
  intro X ok m H σ ρ v d N r q h
  refine (pg_name (i := i) (by rw [ok.N]; exact hN) (by rw [ok.N]; exact hi) (by rw [ok.sc]; exact hx.elim .inl fun z => .inr z.1) (by rw [ok.sc, ok.fn]; exact hx.elim .inr fun z => .inl z.2)).to ?_
  refine ⟨_, h, .refl, r.setP i q, ⟨by rw [List.length_set], fun j hj => ?_⟩, psub_setP⟩
  rw [List.getElem?_set_ne]
  intro e
  exact hj (by rw [e]; exact List.mem_cons_self ..)
def gkNil : KGs := fun ds ρ N => ds = [] ∧ N ρ
def gkCons (g : KG) (gs : KGs) : KGs := fun ds ρ N => ∃ d r, ds = d :: r ∧ g d ρ fun ρ' => gs r ρ' N
theorem gs_nil : GsR S [] [] gkNil := by
  intro X ok m H σ ρ vs ds N r q h
  obtain ⟨rfl, h⟩ := h
  exact pgs_nil.to ⟨q.eq_nil, ρ, h, .refl, r, .refl, .refl⟩
theorem gs_cons (h1 : GtR S e sl g) (h2 : GsR S es sl2 gs) (hs : ∀ env, (assignEach (e :: es) env).map (·.2) = assign e env :: (assignEach es env).map (·.2) := by intro _; rfl) : GsR S (e :: es) (sl ++ sl2) (gkCons g gs) := by
  intro X ok m H σ ρ vs ds N r q h
  obtain ⟨d, ds', rfl, h⟩ := h
  obtain ⟨v, vs', rfl, q1, q2⟩ := q.uncons
  refine (pgs_cons pg_w pgs_w (hs _)).to ⟨v, vs', rfl, wG_mono (h1 X ok m H σ ρ v d _ r q1 h) fun σ1 H1 ⟨ρ1, n1, e1, r1, s1, p1⟩ => ?_⟩
  exact wGs_mono (h2 X ok m H1 σ1 ρ1 vs' ds' N r1 (r.reps e1 q2) n1) fun σ2 H2 ⟨ρ2, n2, e2, r2, s2, p2⟩ => ⟨ρ2, n2, e1.trans e2, r2, s1.trans s2, p1.trans p2⟩
def gkTup (n : Nat) (gs : KGs) : KG := fun d ρ N => ∃ ds, d = .tup ds ∧ ds.length = n ∧ gs ds ρ N
theorem g_tup {k n : Nat} (hG : GsR S es sl gs) (hn : ∀ env, (assignEach es env).length = n := by intro _; rfl) (hst : ∀ env, (assignEach es env).findIdx? (·.1) = none := by intro _; rfl) : GtR S (.Tuple es k pos) sl (gkTup n gs) := by
  intro X ok m H σ ρ v d N r q h
  obtain ⟨ds, rfl, hl, h⟩ := h
  obtain ⟨a, vs, rfl, g1, g2⟩ := q.tupOf
  exact (pg_tup ok.calm pgs_w (hn _) (hst _)).to ⟨a, vs, rfl, .of g1, by rw [g2.1, hl], hG X ok m H σ ρ vs ds N r g2 h⟩
end

/-! ### what is walked -/
def Kp (m : AD) (H1 H2 : Hp) : Prop := ∀ b o, H1 b = some o → ¬ m b → NTbl o → H2 b = some o
def Yd (S : Sta) (m : AD) (H1 : Hp) (ds : List D) : Nat → Hp → V → Hp → Prop := fun i H2 x H3 => ∃ d, ds[i]? = some d ∧ Ex S.tw H2 H3 ∧
  ∀ m' : AD, (∀ b, m' b → Al H2 b) → (∀ b o, H1 b = some o → ¬ m b → NTbl o → ¬ m' b) → Rep S.K S.tw m' H3 x d
structure IterOk (S : Sta) (m : AD) (J : It) (H1 : Hp) (ds : List D) : Prop where
  sz : ds.length ≤ sizeLine
  walk : Walk J ds.length (Kp m H1) (Yd S m H1 ds)
def ItR (S : Sta) (tg iter : Expr) (t : KF) : Prop := ∀ X, XOk S X → ∀ m H σ ρ P, RE S m H σ ρ → t ρ P → wI X tg iter σ H fun J H1 => ∃ ds, P ds ∧ Ex S.tw H H1 ∧ IterOk S m J H1 ds
section
variable {S : Sta} {K : PySem.W.Frag} {m : AD} {H1 : Hp} {a b : Addr} {vs us : List V} {ds es : List D}
theorem kp_rep {w : AD} {H2 : Hp} {v : V} {d : D} (k : Kp m H1 H2) {m' : AD} (hm : ∀ b o, H1 b = some o → ¬ m b → NTbl o → ¬ m' b) (r : Rep K w m H1 v d) : Rep K w m' H2 v d := r.mono (fun b o h n t => ⟨k b o h n t, hm b o h n t⟩) fun _ h => h
theorem io_list (sz : Sz H1) (h : H1 a = some (.lst vs)) (n : ¬ m a) (r : Reps S.K S.tw m H1 vs ds) : IterOk S m (Itl S.K a) H1 ds := by
  refine ⟨by rw [← r.1]; exact sz a vs (.inl h), ?_⟩
  rw [← r.1]
  refine walk_list.mono (fun H2 k => .of (k a _ h n (ntbl_lst _))) fun i H2 x H3 hi k y => ?_
  obtain ⟨rfl, hx⟩ := y
  have hd : i < ds.length := by rw [← r.1]; exact hi
  exact ⟨ds[i], List.getElem?_eq_getElem hd, .refl, fun m' _ hm => kp_rep k hm (r.2 i x _ hx (List.getElem?_eq_getElem hd))⟩
theorem io_tup (sz : Sz H1) (h : H1 a = some (.tup vs)) (n : ¬ m a) (r : Reps S.K S.tw m H1 vs ds) : IterOk S m (Itt S.K a) H1 ds := by
  refine ⟨by rw [← r.1]; exact sz a vs (.inr h), ?_⟩
  rw [← r.1]
  refine walk_tup.mono (fun H2 k => .of (k a _ h n (fun ps e => nomatch e))) fun i H2 x H3 hi k y => ?_
  obtain ⟨rfl, hx⟩ := y
  have hd : i < ds.length := by rw [← r.1]; exact hi
  exact ⟨ds[i], List.getElem?_eq_getElem hd, .refl, fun m' _ hm => kp_rep k hm (r.2 i x _ hx (List.getElem?_eq_getElem hd))⟩
theorem io_range {lo : Int} {n : Nat} (h : n ≤ sizeLine) : IterOk S m (Itr lo n) H1 ((List.range n).map fun (i : Nat) => D.int (lo + i)) := by
  refine ⟨by simpa using h, ?_⟩
  rw [List.length_map, List.length_range]
  refine walk_range.mono (fun H2 k => trivial) fun i H2 x H3 hi k y => ?_
  obtain ⟨rfl, rfl⟩ := y
  exact ⟨.int (lo + i), by simp [hi], .refl, fun m' _ hm => .int _⟩
/-- pairs that are laid at each turn -/
theorem pair_rep {w m' : AD} {H2 : Hp} {T : Addr} {x y : V} {c d : D} (al : ∀ b, m' b → Al H2 b) (nT : H2 T = none) (r1 : Rep K w m' H2 x c) (r2 : Rep K w m' H2 y d) : Rep K w m' (upd H2 T (.tup [x, y])) (.ref T) (.tup [c, d]) := rep_tup nT al (.cons r1 (.one r2))
theorem yd_pair {J : It} {n : Nat} {G : Hp → Prop} {xs ys : Nat → Option V} {cs : List D} (W : Walk J n G (YPair xs ys)) (hn : cs.length = n) (sz : n ≤ sizeLine) (hg : ∀ H2, Kp m H1 H2 → G H2)
    (hr : ∀ i x y, i < n → xs i = some x → ys i = some y → ∃ c d, cs[i]? = some (.tup [c, d]) ∧ Rep S.K S.tw m H1 x c ∧ Rep S.K S.tw m H1 y d) : IterOk S m J H1 cs := by
  refine ⟨by rw [hn]; exact sz, ?_⟩
  rw [hn]
  refine W.mono hg fun i H2 v H3 hi k y => ?_
  obtain ⟨T, x, y, rfl, nT, rfl, h1, h2⟩ := y
  obtain ⟨c, d, e, r1, r2⟩ := hr i x y hi h1 h2
  exact ⟨_, e, .new nT, fun m' al hm => pair_rep al nT (kp_rep k hm r1) (kp_rep k hm r2)⟩
def enumD (ds : List D) : List D := (List.range ds.length).map fun (i : Nat) => .tup [.int (i : Nat), ds.getD i .non]
def zipD (ds es : List D) : List D := (List.range (min ds.length es.length)).map fun (i : Nat) => .tup [ds.getD i .non, es.getD i .non]
theorem getD_of {i : Nat} (h : i < ds.length) : ds.getD i .non = ds[i] := by simp [h]
theorem io_enum (sz : Sz H1) (h : H1 a = some (.lst vs)) (n : ¬ m a) (r : Reps S.K S.tw m H1 vs ds) : IterOk S m (Ite S.K a) H1 (enumD ds) := by
  refine yd_pair (walk_enum (xs := vs)) (by rw [r.1]; simp [enumD]) (sz a vs (.inl h)) (fun H2 k => .of (k a _ h n (ntbl_lst _))) fun i x y hi h1 h2 => ?_
  have hd : i < ds.length := by rw [← r.1]; exact hi
  cases h1
  exact ⟨.int (i : Nat), ds[i], by simp [enumD, hd], .int _, r.2 i y _ h2 (List.getElem?_eq_getElem hd)⟩
theorem io_enumT (sz : Sz H1) (h : H1 a = some (.tup vs)) (n : ¬ m a) (r : Reps S.K S.tw m H1 vs ds) : IterOk S m (IteT S.K a) H1 (enumD ds) := by
  refine yd_pair (walk_enumT (xs := vs)) (by rw [r.1]; simp [enumD]) (sz a vs (.inr h)) (fun H2 k => .of (k a _ h n (fun ps e => nomatch e))) fun i x y hi h1 h2 => ?_
  have hd : i < ds.length := by rw [← r.1]; exact hi
  cases h1
  exact ⟨.int (i : Nat), ds[i], by simp [enumD, hd], .int _, r.2 i y _ h2 (List.getElem?_eq_getElem hd)⟩
theorem zip_pair {i : Nat} {x y : V} (r : Reps S.K S.tw m H1 vs ds) (r2 : Reps S.K S.tw m H1 us es) (h1 : vs[i]? = some x) (h2 : us[i]? = some y) : ∃ c d, (zipD ds es)[i]? = some (.tup [c, d]) ∧ Rep S.K S.tw m H1 x c ∧ Rep S.K S.tw m H1 y d := by
  have hd : i < ds.length := by rw [← r.1]; exact (List.getElem?_eq_some_iff.mp h1).1
  have he : i < es.length := by rw [← r2.1]; exact (List.getElem?_eq_some_iff.mp h2).1
  refine ⟨ds[i], es[i], ?_, r.2 i x _ h1 (List.getElem?_eq_getElem hd), r2.2 i y _ h2 (List.getElem?_eq_getElem he)⟩
  unfold zipD
  rw [List.getElem?_map, List.getElem?_range (by omega)]
  simp [hd, he]
theorem io_zip (sz : Sz H1) (h : H1 a = some (.lst vs)) (n : ¬ m a) (r : Reps S.K S.tw m H1 vs ds) (h2 : H1 b = some (.lst us)) (n2 : ¬ m b) (r2 : Reps S.K S.tw m H1 us es) : IterOk S m (Itz S.K a b) H1 (zipD ds es) := by
  refine yd_pair (walk_zip (xs := vs) (ys := us) (n := min vs.length us.length) rfl) (by rw [r.1, r2.1]; simp [zipD]) (by have := sz a vs (.inl h); omega) (fun H2 k => ⟨.of (k a _ h n (ntbl_lst _)), .of (k b _ h2 n2 (ntbl_lst _))⟩) fun i x y hi e1 e2 => zip_pair r r2 e1 e2
theorem io_zipM (sz : Sz H1) (hl : ds.length = es.length) (h : H1 a = some (.lst vs)) (n : ¬ m a) (r : Reps S.K S.tw m H1 vs ds) (h2 : H1 b = some (.tup us)) (n2 : ¬ m b) (r2 : Reps S.K S.tw m H1 us es) : IterOk S m (ItzM S.K a b) H1 (zipD ds es) := by
  refine yd_pair (walk_zipM (xs := vs) (ys := us) (by rw [r.1, r2.1, hl])) (by rw [r.1]; simp [zipD, hl]) (sz a vs (.inl h)) (fun H2 k => ⟨.of (k a _ h n (ntbl_lst _)), .of (k b _ h2 n2 (fun ps e => nomatch e))⟩) fun i x y hi e1 e2 => zip_pair r r2 e1 e2
end
section
variable {S : Sta} {e e2 tg : Expr} {es : List Expr} {pos p tpos : Pos} {kk : Nat} {ta tb : KE} {ts : KA}
/-- a list or a tuple as it is read -/
theorem pi_any {X : Cx} {l : Expr} {tl : TE} (hl : PE X l tl) : PI X tg l (fun σ H R => tl σ H fun x H1 => ∃ a, x = .ref a ∧ ((∃ xs, SqL X.K H1 a xs ∧ R (Itl X.K a) H1) ∨ ∃ xs, SqT X.K H1 a xs ∧ R (Itt X.K a) H1)) := by
  refine ⟨fun pins s σ H R I h => ?_⟩
  refine thn (hl.run pins s σ H _ I h) fun v s1 ⟨x, H1, I1, r1, a, ex, q⟩ => ?_
  subst ex
  have at_ : ∀ {b : Addr}, b ∈ [s1.heap.objs.size] → FpOk X pins H1 b := fun {b} hb => by
    have e : b = s1.heap.objs.size := by simpa using hb
    rw [e]
    exact I1.fpOk (Nat.le_refl _) (I1.hok.fresh (Nat.le_refl _))
  rcases q with ⟨xs, hq, q⟩ | ⟨xs, hq, q⟩
  · cases r1
    obtain ⟨its, rv, pl, hz⟩ := I1.list hq
    refine wpAny_pyIter_list pl.isList ?_
    exact ⟨s1.heap.objs.size, _, _, _, H1, rfl, I1.kept (t' := s1.toks) fun b o h => Heap.get?_push_of_some _ h, turn_list a _, ⟨_, Heap.get?_push_size _ rfl, rfl, rfl⟩, fun b hb => at_ hb, q⟩
  · cases r1
    obtain ⟨its, rv, pl, hz⟩ := I1.tuple hq
    refine wpAny_pyIter_tuple (show s1.heap.IsTuple a its.toArray from pl) ?_
    exact ⟨s1.heap.objs.size, _, _, _, H1, rfl, I1.kept (t' := s1.toks) fun b o h => Heap.get?_push_of_some _ h, turn_tuple a _, ⟨_, Heap.get?_push_size _ rfl, rfl, rfl⟩, fun b hb => at_ hb, q⟩
def kItS (ta : KE) : KF := fun ρ P => ta ρ fun d => match d with
  | .lst ds => P ds
  | .tup ds => P ds
  | _ => False
theorem Rep.lstOf {K : PySem.W.Frag} {w m : AD} {H : Hp} {v : V} {ds : List D} (q : Rep K w m H v (.lst ds)) : ∃ a vs, v = .ref a ∧ ¬ m a ∧ H a = some (.lst vs) ∧ Reps K w m H vs ds := by
  cases q with
  | lst h n l f => exact ⟨_, _, rfl, n, h, l, f⟩
theorem Rep.tupOf' {K : PySem.W.Frag} {w m : AD} {H : Hp} {v : V} {ds : List D} (q : Rep K w m H v (.tup ds)) : ∃ a vs, v = .ref a ∧ ¬ m a ∧ H a = some (.tup vs) ∧ Reps K w m H vs ds := by
  cases q with
  | tup h n l f => exact ⟨_, _, rfl, n, h, l, f⟩
theorem i_seq (ha : EvR S e ta) : ItR S tg e (kItS ta) := by
  intro X ok m H σ ρ P r h
  refine (pi_any pe_w).to (wE_mono (ha X ok m H σ ρ _ r h) fun v H1 sz ⟨d, p1, e1, q1⟩ => ?_)
  rw [ok.K]
  split at p1
  · obtain ⟨a, vs, rfl, n, g1, g2⟩ := q1.lstOf
    exact ⟨a, rfl, .inl ⟨vs, .of g1, _, p1, e1, io_list sz g1 n g2⟩⟩
  · obtain ⟨a, vs, rfl, n, g1, g2⟩ := q1.tupOf'
    exact ⟨a, rfl, .inr ⟨vs, .of g1, _, p1, e1, io_tup sz g1 n g2⟩⟩
  · exact p1.elim
def rngD (lo hi : Int) : List D := (List.range (hi - lo).toNat).map fun (i : Nat) => D.int (lo + i)
def kItR1 (ta : KE) : KF := fun ρ P => ta ρ fun d => ∃ j : Int, d = .int j ∧ 0 ≤ j ∧ j ≤ 1000000 ∧ P (rngD 0 j)
def kItR2 (ta tb : KE) : KF := fun ρ P => ta ρ fun d => tb ρ fun d2 => ∃ i j : Int, d = .int i ∧ d2 = .int j ∧ 0 ≤ i ∧ i ≤ 1000000 ∧ 0 ≤ j ∧ j ≤ 1000000 ∧ P (rngD i j)
theorem line_big : 1000000 ≤ sizeLine := by rw [sizeLine_eq]; decide
theorem i_range1 (hg : Glo S "range") (hm : S.mg "range" = none) (ha : EvR S e ta) (ns : NS e := by intro _ _; rfl) : ItR S tg (.Call (.Name "range" p) [e] [] pos) (kItR1 ta) := by
  intro X ok m H σ ρ P r h
  refine (pi_range1 (hg.gl ok) (by rw [ok.mg]; exact hm) (pa_cons pe_w pa_nil (ns _ _)) (ns _ _)).to (wE_mono (ha X ok m H σ ρ _ r h) fun v H1 sz ⟨d, ⟨j, e, h1, h2, p1⟩, e1, q1⟩ => ?_)
  subst e
  cases q1
  refine ⟨j, rfl, by omega, by omega, rngD 0 j, p1, e1, ?_⟩
  have z : j.toNat = (j - 0).toNat := by omega
  rw [z]
  exact io_range (lo := 0) (n := (j - 0).toNat) (Nat.le_trans (by omega : (j - 0).toNat ≤ 1000000) line_big)
theorem i_range2 (hg : Glo S "range") (hm : S.mg "range" = none) (ha : EvR S e ta) (hb : EvR S e2 tb) (ns : NS e := by intro _ _; rfl) (ns2 : NS e2 := by intro _ _; rfl) : ItR S tg (.Call (.Name "range" p) [e, e2] [] pos) (kItR2 ta tb) := by
  intro X ok m H σ ρ P r h
  refine (pi_range2 (hg.gl ok) (by rw [ok.mg]; exact hm) (pa_cons pe_w (pa_cons pe_w pa_nil (ns2 _ _)) (ns _ _)) (by rw [ns, ns2]; rfl) (ns2 _ _)).to ?_
  refine wE_mono (ha X ok m H σ ρ _ r h) fun v H1 sz ⟨d, p1, e1, q1⟩ => wE_mono (hb X ok m H1 σ ρ _ (r.ex e1) p1) fun v2 H2 sz ⟨d2, ⟨i, j, ed, ed2, h1, h2, h3, h4, p2⟩, e2', q2⟩ => ?_
  subst ed ed2
  cases q1
  cases q2
  exact ⟨i, j, rfl, by omega, rngD i j, p2, e1.trans e2', io_range (lo := i) (n := (j - i).toNat) (Nat.le_trans (by omega : (j - i).toNat ≤ 1000000) line_big)⟩
/-- enumerate -/
def kItE (ta : KE) : KF := fun ρ P => ta ρ fun d => ∃ ds, d = .lst ds ∧ P (enumD ds)
def kItET (ta : KE) : KF := fun ρ P => ta ρ fun d => ∃ ds, d = .tup ds ∧ P (enumD ds)
variable {elts : List Expr}
theorem i_enum (hg : Glo S "enumerate") (hm : S.mg "enumerate" = none) (ha : EvR S e ta) (ns : NS e := by intro _ _; rfl) : ItR S (.Tuple elts kk tpos) (.Call (.Name "enumerate" p) [e] [] pos) (kItE ta) := by
  intro X ok m H σ ρ P r h
  refine (pi_enum (hg.gl ok) (by rw [ok.mg]; exact hm) (pa_cons pe_w pa_nil (ns _ _)) (ns _ _)).to (wE_mono (ha X ok m H σ ρ _ r h) fun v H1 sz ⟨d, ⟨ds, e, p1⟩, e1, q1⟩ => ?_)
  subst e
  obtain ⟨a, vs, rfl, n, g1, g2⟩ := q1.lstOf
  rw [ok.K]
  exact ⟨a, vs, rfl, .of g1, _, p1, e1, io_enum sz g1 n g2⟩
theorem i_enumT (hg : Glo S "enumerate") (hm : S.mg "enumerate" = none) (ha : EvR S e ta) (ns : NS e := by intro _ _; rfl) : ItR S (.Tuple elts kk tpos) (.Call (.Name "enumerate" p) [e] [] pos) (kItET ta) := by
  intro X ok m H σ ρ P r h
  refine (pi_enumT (hg.gl ok) (by rw [ok.mg]; exact hm) (pa_cons pe_w pa_nil (ns _ _)) (ns _ _)).to (wE_mono (ha X ok m H σ ρ _ r h) fun v H1 sz ⟨d, ⟨ds, e, p1⟩, e1, q1⟩ => ?_)
  subst e
  obtain ⟨a, vs, rfl, n, g1, g2⟩ := q1.tupOf'
  rw [ok.K]
  exact ⟨a, vs, rfl, .of g1, _, p1, e1, io_enumT sz g1 n g2⟩
/-- zip of two lists; of a list and a tuple of one length -/
def kItZ (ta tb : KE) : KF := fun ρ P => ta ρ fun d => tb ρ fun d2 => ∃ ds es, d = .lst ds ∧ d2 = .lst es ∧ P (zipD ds es)
def kItZM (ta tb : KE) : KF := fun ρ P => ta ρ fun d => tb ρ fun d2 => ∃ ds es, d = .lst ds ∧ d2 = .tup es ∧ ds.length = es.length ∧ P (zipD ds es)
theorem i_zip (hg : Glo S "zip") (hm : S.mg "zip" = none) (ha : EvR S e ta) (hb : EvR S e2 tb) (ns : NS e := by intro _ _; rfl) (ns2 : NS e2 := by intro _ _; rfl) (hpl : Plain [e2] := by intro _ _; rfl) : ItR S (.Tuple elts kk tpos) (.Call (.Name "zip" p) [e, e2] [] pos) (kItZ ta tb) := by
  intro X ok m H σ ρ P r h
  refine (pi_zip (hg.gl ok) (by rw [ok.mg]; exact hm) (pa_cons pe_w (pa_cons pe_w pa_nil (ns2 _ _)) (ns _ _)) (ns _ _) (hpl _ _)).to ?_
  refine wE_mono (ha X ok m H σ ρ _ r h) fun v H1 sz ⟨d, p1, e1, q1⟩ => wE_mono (hb X ok m H1 σ ρ _ (r.ex e1) p1) fun v2 H2 sz ⟨d2, ⟨ds, es, ed, ed2, p2⟩, e2', q2⟩ => ?_
  subst ed ed2
  obtain ⟨a, vs, rfl, n, g1, g2⟩ := ((r.ex e1).rep e2' q1).lstOf
  obtain ⟨b, us, rfl, n2, g3, g4⟩ := q2.lstOf
  rw [ok.K]
  exact ⟨a, b, vs, us, rfl, .of g1, .of g3, _, p2, e1.trans e2', io_zip sz g1 n g2 g3 n2 g4⟩
theorem i_zipM (hg : Glo S "zip") (hm : S.mg "zip" = none) (ha : EvR S e ta) (hb : EvR S e2 tb) (ns : NS e := by intro _ _; rfl) (ns2 : NS e2 := by intro _ _; rfl) (hpl : Plain [e2] := by intro _ _; rfl) : ItR S (.Tuple elts kk tpos) (.Call (.Name "zip" p) [e, e2] [] pos) (kItZM ta tb) := by
  intro X ok m H σ ρ P r h
  refine (pi_zipM (hg.gl ok) (by rw [ok.mg]; exact hm) (pa_cons pe_w (pa_cons pe_w pa_nil (ns2 _ _)) (ns _ _)) (ns _ _) (hpl _ _)).to ?_
  refine wE_mono (ha X ok m H σ ρ _ r h) fun v H1 sz ⟨d, p1, e1, q1⟩ => wE_mono (hb X ok m H1 σ ρ _ (r.ex e1) p1) fun v2 H2 sz ⟨d2, ⟨ds, es, ed, ed2, hl, p2⟩, e2', q2⟩ => ?_
  subst ed ed2
  obtain ⟨a, vs, rfl, n, g1, g2⟩ := ((r.ex e1).rep e2' q1).lstOf
  obtain ⟨b, us, rfl, n2, g3, g4⟩ := q2.tupOf'
  rw [ok.K]
  exact ⟨a, b, vs, us, rfl, .of g1, .of g3, _, p2, e1.trans e2', io_zipM sz hl g1 n g2 g3 n2 g4⟩
end

/-! ### comprehensions -/
def Sta.blk (S : Sta) (scope : Scope) : Sta := { S with sc := relS scope S.sc, fn := fun x => scope.names.lookup x == some .cell, ev := fun _ => True }
theorem XOk.blk {S : Sta} {X : Cx} (ok : XOk S X) (s : Shared) (H : Hp) (scope : Scope) (C : Addr) (cl : List (Str × Addr)) (fp : List Addr) : XOk (S.blk scope) (X.blk s H scope (compEnvC scope cl C X.env) fp) :=
  ⟨ok.prog, ok.w, ok.K, ok.mg, ok.base, ok.N, by show relS scope X.env.scope = relS scope S.sc; rw [ok.sc], rfl, ok.calm, ok.room, rfl, trivial⟩
def wipeP (ρ : PSt) : List Nat → PSt
  | [] => ρ
  | v :: vs => (wipeP ρ vs).set v .any
theorem RE.wiped {S : Sta} {m : AD} {H : Hp} {σ : L2.St} {ρ : PSt} (r : RE S m H σ ρ) : ∀ vs, RE S m H (wipe σ vs) (wipeP ρ vs)
  | [] => r
  | v :: vs => by
    have r' := r.wiped vs
    refine ⟨by show ((wipe σ vs).set v none).length = ((wipeP ρ vs).set v .any).length; rw [List.length_set, List.length_set, r'.len], fun j x s h1 h2 => ?_, r.al, r.tp, r.tb⟩
    have h1 : ((wipe σ vs).set v none)[j]? = some x := h1
    have h2 : ((wipeP ρ vs).set v .any)[j]? = some s := h2
    rw [List.getElem?_set] at h1 h2
    by_cases e : v = j
    · rw [if_pos e] at h2
      split at h2
      · cases h2; trivial
      · cases h2
    · rw [if_neg e] at h1 h2
      exact r'.rel j x s h1 h2
def kLc (it : KF) (g : KG) (tt : KT) (te : KE) (vs : List Nat) : KF := fun ρ P => it ρ fun ds => ∃ I : Nat → List D → Prop, I 0 [] ∧
  (∀ i d acc, ds[i]? = some d → I i acc → g d (wipeP ρ vs) fun ρ' => tt ρ' fun b => if b = true then te ρ' fun y => I (i + 1) (acc ++ [y]) else I (i + 1) acc) ∧ ∀ acc, I ds.length acc → P acc
def tkYes : KT := fun _ P => P true
/-- the tests of a comprehension: none, or one -/
inductive TsR (S : Sta) : List Expr → KT → Prop
  | nil : TsR S [] tkYes
  | one {c : Expr} {t : KT} (h : TeR S c t) : TsR S [c] t
def wTs (X : Cx) : List Expr → TT
  | [c] => wT X c
  | _ => tYes
theorem TsR.pts {S : Sta} {X : Cx} {ifs : List Expr} {t : KT} (h : TsR S ifs t) : PTs X ifs (wTs X ifs) := by
  cases h with
  | nil => exact pts_nil
  | one h => exact pts_one pt_w
theorem TsR.to {S : Sta} {X : Cx} {ifs : List Expr} {t : KT} (h : TsR S ifs t) (ok : XOk S X) {m : AD} {H : Hp} {σ : L2.St} {ρ : PSt} {P : Bool → Prop} (r : RE S m H σ ρ) (p : t ρ P) : wTs X ifs σ H fun b H' => P b ∧ Ex S.tw H H' := by
  cases h with
  | nil => exact ⟨p, .refl⟩
  | one h => exact h X ok m H σ ρ P r p
theorem wTs_mono {X : Cx} {ifs : List Expr} {σ : L2.St} {H : Hp} {Q Q' : Bool → Hp → Prop} (h : wTs X ifs σ H Q) (f : ∀ b H', Q b H' → Q' b H') : wTs X ifs σ H Q' := by
  unfold wTs at h ⊢
  split at h
  · exact wT_mono h f
  · exact f _ _ h
section
variable {S : Sta} {elt tg iter : Expr} {ifs : List Expr} {scope : Scope} {pos : Pos} {sl : List Nat} {it : KF} {g : KG} {tt : KT} {te : KE} {own : List (Str × Nat)}
/-- the parts' readings, for every block -/
def bG (X : Cx) (scope : Scope) (tg : Expr) : TG := fun v σ H Q => ∀ (s : Shared) (H0 : Hp) (C : Addr) (cl : List (Str × Addr)) (fp : List Addr), wG (X.blk s H0 scope (compEnvC scope cl C X.env) fp) tg v σ H Q
def bT (X : Cx) (scope : Scope) (ifs : List Expr) : TT := fun σ H Q => ∀ (s : Shared) (H0 : Hp) (C : Addr) (cl : List (Str × Addr)) (fp : List Addr), wTs (X.blk s H0 scope (compEnvC scope cl C X.env) fp) ifs σ H Q
def bE (X : Cx) (scope : Scope) (e : Expr) : TE := fun σ H Q => ∀ (s : Shared) (H0 : Hp) (C : Addr) (cl : List (Str × Addr)) (fp : List Addr), wE (X.blk s H0 scope (compEnvC scope cl C X.env) fp) e σ H Q
theorem lc_main {X : Cx} (ok : XOk S X) (hi : ItR S tg iter it) (hg : GtR (S.blk scope) tg sl g) (hs : ∀ j ∈ sl, j ∈ own.map (·.2)) (ht : TsR (S.blk scope) ifs tt) (he : EvR (S.blk scope) elt te)
    {m : AD} {H : Hp} {σ : L2.St} {ρ : PSt} {P : List D → Prop} (r : RE S m H σ ρ) (h : kLc it g tt te (own.map (·.2)) ρ P) :
    tLc (wI X tg iter) (bG X scope tg) (bT X scope ifs) (bE X scope elt) (own.map (·.2)) σ H fun v H' => ∃ ds, P ds ∧ Ex S.tw H H' ∧ ∃ p vs, v = .ref p ∧ Fr0 H p ∧ ¬ m p ∧ H' p = some (.lst vs) ∧ Reps S.K S.tw (plus m p) H' vs ds := by
  refine wI_mono (hi X ok m H σ ρ _ r h) fun J H1 ⟨ds, ⟨I, i0, istep, iend⟩, e1, io⟩ => fun D0 hD => ?_
  have r1 := r.ex e1
  have nw : ¬ S.tw D0 := fun z => by
    obtain ⟨i, j, q⟩ := (r1.tp D0 z).2
    rw [hD] at q; cases q
  have nm : ¬ m D0 := r1.fresh hD
  let m' : AD := fun b => m b ∨ b = D0
  refine lc_it io.walk (fun i H2 => ∃ acc vs, I i acc ∧ H2 D0 = some (.lst vs) ∧ Reps S.K S.tw m' H2 vs acc ∧ vs.length ≤ i ∧ Ex S.tw H1 H2) ⟨[], [], i0, upd_same, .nil, Nat.le_refl _, .new hD⟩ (fun i H2 _ ⟨_, _, _, _, _, _, e⟩ b o hb hn ht => e.keep b o hb (r1.nw hn) ht) (fun i x H2 H3 hi' ⟨acc, vs, hI, hDv, hr, hl, e2⟩ y => ?_) (fun H2 ⟨acc, vs, hI, hDv, hr, hl, e2⟩ => ?_)
  · obtain ⟨d, hd, e3, hx⟩ := y
    have al2 : ∀ b, m' b → Al H2 b := fun b hb => by
      rcases hb with hb | hb
      · exact (r1.al b hb).ex (fun z => (r1.tp b z).2) e2
      · subst hb; exact .lst hDv
    have rx : Rep S.K S.tw m' H3 x d := hx m' al2 fun b o hb hn _ => fun z => by
      rcases z with z | z
      · exact hn z
      · subst z; rw [hD] at hb; cases hb
    have r2 : RE (S.blk scope) m' H2 (wipe σ (own.map (·.2))) (wipeP ρ (own.map (·.2))) := by
      have q := (r1.ex e2).wiped (own.map (·.2))
      refine ⟨q.len, fun i x s a b => ?_, al2, fun a ha => ⟨.inl (q.tp a ha).1, (q.tp a ha).2⟩, q.tb⟩
      -- what is old does not lie at the new list
      refine ((r.wiped (own.map (·.2))).rel i x s a b).mono (fun b o hb hn ht => ⟨e2.keep b o (e1.keep b o hb (r.nw hn) ht) (r.nw hn) ht, fun z => ?_⟩) fun a hs hm hn => ⟨fun u hu ht => e2.keep a u (e1.keep a u hu hn ht) hn ht, .inl hm⟩
      rcases z with z | z
      · exact hn z
      · subst z
        rw [e1.keep b o hb (r.nw hn) ht] at hD
        cases hD
    have r3 := r2.ex e3
    have kD : ∀ {Ha Hb : Hp} {vs : List V}, Ex S.tw Ha Hb → Ha D0 = some (.lst vs) → Hb D0 = some (.lst vs) := fun {Ha Hb vs} e h => e.keep D0 _ h nw (ntbl_lst _)
    intro s0 H0 C0 cl0 fp0
    refine wG_mono (hg _ (ok.blk s0 H0 scope C0 cl0 fp0) m' H3 _ _ x d _ r3 rx (istep i d acc hd hI)) fun σ4 H4 ⟨ρ4, p4, e4, r4, s4, _⟩ => ⟨s4.wipe hs |>.trans ?_, ?_⟩
    · -- wiped twice
      refine List.ext_getElem? fun j => ?_
      by_cases hj : j ∈ own.map (·.2)
      · by_cases hl2 : j < σ.length
        · rw [wipe_at hj (by rw [wipe_length]; exact hl2), wipe_at hj hl2]
        · rw [List.getElem?_eq_none (by rw [wipe_length, wipe_length]; omega), List.getElem?_eq_none (by rw [wipe_length]; omega)]
      · rw [wipe_out' hj]
    intro s5 H5' C5 cl5 fp5
    refine wTs_mono (ht.to (ok.blk s5 H5' scope C5 cl5 fp5) r4 p4) fun b H5 ⟨p5, e5⟩ => ?_
    have e35 := (e2.trans e3).trans (e4.trans e5)
    have keepR : Reps S.K S.tw m' H5 vs acc := hr.mono (fun b o hb hn ht => ⟨((e3.trans e4).trans e5).keep b o hb (r2.nw hn) ht, hn⟩) fun _ h => h
    cases b with
    | false =>
      rw [if_neg (by decide)] at p5 ⊢
      exact ⟨acc, vs, p5, kD (e4.trans e5) (kD e3 hDv), keepR, Nat.le_succ_of_le hl, e35⟩
    | true =>
      rw [if_pos rfl] at p5 ⊢
      intro s6 H6' C6 cl6 fp6
      refine wE_mono (he _ (ok.blk s6 H6' scope C6 cl6 fp6) m' H5 σ4 ρ4 _ (r4.ex e5) p5) fun y H6 _ ⟨d6, p6, e6, q6⟩ => ?_
      have hD6 : H6 D0 = some (.lst vs) := kD e6 (kD (e4.trans e5) (kD e3 hDv))
      refine ⟨vs, hD6, ?_, acc ++ [d6], vs ++ [y], p6, upd_same, ?_, by simp; omega, ?_⟩
      · exact Nat.lt_of_lt_of_le (Nat.lt_of_le_of_lt hl hi') io.sz
      · have kk : Reps S.K S.tw m' H6 vs acc := keepR.mono (fun b o hb hn ht => ⟨e6.keep b o hb (r2.nw hn) ht, hn⟩) fun _ h => h
        refine (kk.snoc q6).mono (fun b o hb hn _ => ⟨?_, hn⟩) fun _ h => h
        rw [upd_ne (fun z => hn (.inr z))]; exact hb
      · refine ⟨fun b o hb hn ht => ?_, fun b hb hT => ?_, fun P hT => ?_⟩
        · rw [upd_ne (fun z => by subst z; rw [hD] at hb; cases hb)]
          exact (e35.trans e6).keep b o hb hn ht
        · obtain ⟨i', j', q⟩ := (e35.trans e6).tape b hb hT
          exact ⟨i', j', by rw [upd_ne (fun z => nw (by rw [← z]; exact hb))]; exact q⟩
        · exact tab_upd ((e35.trans e6).tab P hT) ⟨_, hD6, ntbl_lst _, ncode_lst _⟩
  · refine ⟨acc, iend acc hI, e1.trans e2, D0, vs, rfl, (r.fr e1 hD).1, (r.fr e1 hD).2, hDv, hr⟩
theorem r_lc (hN : S.N.Nodup) (hb : blkC S.N S.sc scope own = true) (hi : ItR S tg iter it) (hg : GtR (S.blk scope) tg sl g) (hs : ∀ j ∈ sl, j ∈ own.map (·.2)) (ht : TsR (S.blk scope) ifs tt) (he : EvR (S.blk scope) elt te)
    (hf : ∀ env x, foldedSetIterable iter env x = pure x := by intro _ _; rfl) : EvF S (.ListComp elt [⟨tg, iter, ifs, 0⟩] scope pos) (kLc it g tt te (own.map (·.2))) := by
  intro X ok m H σ ρ P r h
  refine (pe_lc ok.calm (by rw [ok.N]; exact hN) pi_w (blkOk_by (by rw [ok.N, ok.sc]; exact hb)) (fun s H C cl fp => ⟨fun pins s1 σ H1 v u Q I rv q => q s H C cl fp pins s1 u I rv⟩) (fun s H C cl fp => ⟨fun pins s1 σ H1 Q I q => ht.pts.run pins s1 σ H1 Q I (q s H C cl fp)⟩) (fun s H C cl fp => ⟨fun pins s1 σ H1 Q I q => q s H C cl fp pins s1 I⟩) (hf _)).to (lc_main ok hi hg hs ht he r h)
end
end U
set_option Elab.async false
set_option linter.all false
set_option maxRecDepth 100000
set_option maxHeartbeats 1000000
/-! statements over data; defs -/
namespace U
open PySem PySem.Spec PyProof.Rows L2

abbrev KS := PSt → (PSt → Prop) → (D → Prop) → Prop
def mOf (m0 : AD) (ρ : PSt) : AD := fun a => m0 a ∨ ∃ (i : Nat) (s : Slot), ρ[i]? = some s ∧ a ∈ s.addrs
def Stp (m : AD) (H : Hp) (m' : AD) (H' : Hp) : Prop := ∀ b o, H b = some o → ¬ m b → NTbl o → H' b = some o ∧ ¬ m' b
theorem Stp.refl {m : AD} {H : Hp} : Stp m H m H := fun b o h n _ => ⟨h, n⟩
theorem Stp.trans {m m1 m2 : AD} {H H1 H2 : Hp} (a : Stp m H m1 H1) (b : Stp m1 H1 m2 H2) : Stp m H m2 H2 := fun c o h n t => let ⟨h1, n1⟩ := a c o h n t; b c o h1 n1 t
structure RS (S : Sta) (m0 : AD) (H0 H : Hp) (σ : L2.St) (ρ : PSt) : Prop where
  re : RE S (mOf m0 ρ) H σ ρ
  sep : ∀ (i j : Nat) (s t : Slot) (a : Addr), i ≠ j → ρ[i]? = some s → ρ[j]? = some t → a ∈ s.addrs → a ∉ t.addrs
  fr : ∀ (i : Nat) (s : Slot) (a : Addr), ρ[i]? = some s → a ∈ s.addrs → Fr0 H0 a
  ex : Ex S.tw H0 H
  t0 : ∀ a, S.tw a → m0 a ∧ TapeAt H0 a
  a0 : ∀ a, m0 a → Al H0 a
section
variable {S : Sta} {m0 : AD} {H0 H H1 : Hp} {σ σ' : L2.St} {ρ ρ' : PSt} {v : V} {d : D} {i : Nat}
theorem RS.exx (r : RS S m0 H0 H σ ρ) (e : Ex S.tw H H1) : RS S m0 H0 H1 σ ρ := ⟨r.re.ex e, r.sep, r.fr, r.ex.trans e, r.t0, r.a0⟩
theorem RS.stp (r : RS S m0 H0 H σ ρ) (e : Ex S.tw H H1) : Stp (mOf m0 ρ) H (mOf m0 ρ) H1 := r.re.kp e
/-- fewer things may change -/
theorem RS.shrink (r : RS S m0 H0 H σ ρ) (q : RE S (mOf m0 ρ) H1 σ' ρ') (e : Ex S.tw H0 H1) (s : PSub ρ ρ') : RS S m0 H0 H1 σ' ρ' ∧ ∀ b, mOf m0 ρ' b → mOf m0 ρ b := by
  have sub : ∀ b, mOf m0 ρ' b → mOf m0 ρ b := fun b hb => by
    rcases hb with hb | ⟨j, t, h1, h2⟩
    · exact .inl hb
    · rcases s j t h1 with z | z
      · exact .inr ⟨j, t, z, h2⟩
      · rw [z] at h2; simp at h2
  have ad : ∀ (j : Nat) (t : Slot) (a : Addr), ρ'[j]? = some t → a ∈ t.addrs → ρ[j]? = some t := fun j t a h1 h2 => by
    rcases s j t h1 with z | z
    · exact z
    · rw [z] at h2; simp at h2
  refine ⟨⟨⟨q.len, fun j x t h1 h2 => ?_, fun a h => q.al a (sub a h), fun a h => ⟨.inl (r.t0 a h).1, (q.tp a h).2⟩, q.tb⟩, fun j k t u a n h1 h2 h3 h4 => r.sep j k t u a n (ad j t a h1 h3) (ad k u a h2 h4) h3 h4, fun j t a h1 h2 => r.fr j t a (ad j t a h1 h2) h2, e, r.t0, r.a0⟩, sub⟩
  exact (q.rel j x t h1 h2).mono (fun b o hb hn _ => ⟨hb, fun z => hn (sub b z)⟩) fun a ha hm hn => ⟨fun u hu _ => hu, .inr ⟨j, t, h2, ha⟩⟩
theorem stp_sub {m m' : AD} (s : ∀ b, m' b → m b) (e : Stp m H m H1) : Stp m H m' H1 := fun b o h n t => let ⟨h1, n1⟩ := e b o h n t; ⟨h1, fun z => n1 (s b z)⟩
theorem RS.setP (r : RS S m0 H0 H σ ρ) (i : Nat) (q : Rep S.K S.tw (mOf m0 ρ) H v d) : RS S m0 H0 H (σ.set i (some v)) (ρ.set i (.p d)) ∧ ∀ b, mOf m0 (ρ.set i (.p d)) b → mOf m0 ρ b := r.shrink (r.re.setP i q) r.ex psub_setP
theorem get_set {α : Type} {l : List α} {i j : Nat} {x y : α} (h : (l.set i x)[j]? = some y) : (i = j ∧ i < l.length ∧ y = x) ∨ (i ≠ j ∧ l[j]? = some y) := by
  rw [List.getElem?_set] at h
  split at h
  · split at h
    · cases h; exact .inl ⟨by assumption, by assumption, rfl⟩
    · cases h
  · exact .inr ⟨by assumption, h⟩
/-- a new thing of the def's own comes into slot i -/
theorem RS.own {t : Slot} {p : Addr} {o : HO} (r : RS S m0 H0 H σ ρ) (hp : H p = none) (i : Nat) (ha : t.addrs = [p]) (al : Al (upd H p o) p) (rel : ¬ S.tw p → (∀ m : AD, m p → SlotRel S.K S.tw m (upd H p o) (some (.ref p)) t)) :
    RS S m0 H0 (upd H p o) (σ.set i (some (.ref p))) (ρ.set i t) ∧ Stp (mOf m0 ρ) H (mOf m0 (ρ.set i t)) (upd H p o) := by
  have np : ¬ mOf m0 ρ p := r.re.fresh hp
  have nw : ¬ S.tw p := fun z => np (r.re.tp p z).1
  have e : Ex S.tw H (upd H p o) := .new hp
  have back : ∀ b, mOf m0 (ρ.set i t) b → mOf m0 ρ b ∨ b = p := fun b hb => by
    rcases hb with hb | ⟨j, u, h1, h2⟩
    · exact .inl (.inl hb)
    · rcases get_set h1 with ⟨_, _, ez⟩ | ⟨_, h1⟩
      · rw [ez, ha] at h2; exact .inr (List.mem_singleton.mp h2)
      · exact .inl (.inr ⟨j, u, h1, h2⟩)
  have ft : Fr0 H0 p := (fr0_none hp).ex r.ex fun b hb => (r.t0 b hb).2
  have st : Stp (mOf m0 ρ) H (mOf m0 (ρ.set i t)) (upd H p o) := fun b u hb hn ht => ⟨by rw [upd_ne (ne_of_none hb hp)]; exact hb, fun z => (back b z).elim hn (ne_of_none hb hp)⟩
  refine ⟨⟨⟨by rw [List.length_set, List.length_set, r.re.len], fun j x u h1 h2 => ?_, fun a h => ?_, fun a h => ⟨.inl (r.t0 a h).1, e.tape a h (r.re.tp a h).2⟩, e.tab _ r.re.tb⟩, fun j k u w' a n h1 h2 h3 h4 => ?_, fun j u a h1 h2 => ?_, r.ex.trans e, r.t0, r.a0⟩, st⟩
  · rcases get_set h2 with ⟨rfl, hl, ez⟩ | ⟨n, h2⟩
    · rw [List.getElem?_set_self (by rw [r.re.len]; exact hl)] at h1
      cases h1
      rw [ez] at h2 ⊢
      exact rel nw _ (.inr ⟨i, t, h2, by rw [ha]; exact List.mem_cons_self ..⟩)
    · rw [List.getElem?_set_ne n] at h1
      refine (r.re.rel j x u h1 h2).mono (fun b o hb hn ht => st b o hb hn ht) fun a ha2 hm hn => ⟨fun u' hu _ => by rw [upd_ne (ne_of_none hu hp)]; exact hu, .inr ⟨j, u, by rw [List.getElem?_set_ne n]; exact h2, ha2⟩⟩
  · rcases back a h with h | rfl
    · exact (r.re.al a h).ex (fun z => (r.re.tp a z).2) e
    · exact al
  · rcases get_set h1 with ⟨rfl, _, ez⟩ | ⟨n1, h1⟩
    · rcases get_set h2 with ⟨rfl, _, _⟩ | ⟨n2, h2⟩
      · exact n rfl
      · rw [ez, ha] at h3
        rw [List.mem_singleton.mp h3] at h4
        exact np (.inr ⟨k, w', h2, h4⟩)
    · rcases get_set h2 with ⟨rfl, _, ez⟩ | ⟨n2, h2⟩
      · rw [ez, ha] at h4
        rw [List.mem_singleton.mp h4] at h3
        exact np (.inr ⟨j, u, h1, h3⟩)
      · exact r.sep j k u w' a n h1 h2 h3 h4
  · rcases get_set h1 with ⟨rfl, _, ez⟩ | ⟨n1, h1⟩
    · rw [ez, ha] at h2
      rw [List.mem_singleton.mp h2]
      exact ft
    · exact r.fr j u a h1 h2
/-- what is the def's own in slot i is changed, at a -/
theorem RS.mut {s t : Slot} {a : Addr} {o : HO} (r : RS S m0 H0 H σ ρ) (hs : ρ[i]? = some s) (ha : a ∈ s.addrs) (nw : ¬ S.tw a) (hadd : t.addrs = s.addrs) (al : Al (upd H a o) a)
    (rel : ∀ x, σ[i]? = some x → SlotRel S.K S.tw (mOf m0 ρ) (upd H a o) x t) : RS S m0 H0 (upd H a o) σ (ρ.set i t) ∧ Stp (mOf m0 ρ) H (mOf m0 (ρ.set i t)) (upd H a o) := by
  have hi : i < ρ.length := (List.getElem?_eq_some_iff.mp hs).1
  have same : ∀ b, mOf m0 (ρ.set i t) b ↔ mOf m0 ρ b := fun b => by
    constructor
    · rintro (hb | ⟨j, u, h1, h2⟩)
      · exact .inl hb
      · rcases get_set h1 with ⟨rfl, _, rfl⟩ | ⟨_, h1⟩
        · exact .inr ⟨i, s, hs, by rw [← hadd]; exact h2⟩
        · exact .inr ⟨j, u, h1, h2⟩
    · rintro (hb | ⟨j, u, h1, h2⟩)
      · exact .inl hb
      · by_cases e : i = j
        · subst e
          rw [hs] at h1; cases h1
          exact .inr ⟨i, t, List.getElem?_set_self hi, by rw [hadd]; exact h2⟩
        · exact .inr ⟨j, u, by rw [List.getElem?_set_ne e]; exact h1, h2⟩
  have ma : mOf m0 ρ a := .inr ⟨i, s, hs, ha⟩
  obtain ⟨oa, ea, nt, nc, _⟩ := r.re.al a ma
  have st : Stp (mOf m0 ρ) H (mOf m0 (ρ.set i t)) (upd H a o) := fun b u hb hn ht => ⟨by rw [upd_ne (fun z => hn (by rw [z]; exact ma))]; exact hb, fun z => hn ((same b).mp z)⟩
  have f0 := r.fr i s a hs ha
  have e0 : Ex S.tw H0 (upd H a o) := ⟨fun b u hb hn ht => by rw [upd_ne (fun z => f0 u (by rw [← z]; exact hb) ht)]; exact r.ex.keep b u hb hn ht, fun b hb hT => by
    obtain ⟨i', j', q⟩ := r.ex.tape b hb hT
    exact ⟨i', j', by rw [upd_ne (fun z => nw (by rw [← z]; exact hb))]; exact q⟩, fun P hT => tab_upd (r.ex.tab P hT) ⟨oa, ea, nt, nc⟩⟩
  have ad : ∀ (j : Nat) (u : Slot), (ρ.set i t)[j]? = some u → ∃ u', ρ[j]? = some u' ∧ u'.addrs = u.addrs := fun j u h => by
    rcases get_set h with ⟨rfl, _, rfl⟩ | ⟨_, h⟩
    · exact ⟨s, hs, hadd.symm⟩
    · exact ⟨u, h, rfl⟩
  refine ⟨⟨⟨by rw [List.length_set, r.re.len], fun j x u h1 h2 => ?_, fun b h => ?_, fun b h => ⟨.inl (r.t0 b h).1, ?_⟩, tab_upd r.re.tb ⟨oa, ea, nt, nc⟩⟩, fun j k u w' b n h1 h2 h3 h4 => ?_, fun j u b h1 h2 => ?_, e0, r.t0, r.a0⟩, st⟩
  · rcases get_set h2 with ⟨rfl, _, rfl⟩ | ⟨n, h2⟩
    · refine (rel x h1).mono (fun b o hb hn _ => ⟨hb, fun z => hn ((same b).mp z)⟩) fun b hb hm hn => ⟨fun u hu _ => hu, (same b).mpr hm⟩
    · refine (r.re.rel j x u h1 h2).mono (fun b o hb hn ht => st b o hb hn ht) fun b hb hm hn => ⟨fun u' hu _ => ?_, (same b).mpr hm⟩
      rw [upd_ne (fun z => r.sep i j s u a n hs h2 ha (by rw [← z]; exact hb))]; exact hu
  · have hb := (same b).mp h
    by_cases e : b = a
    · rw [e]; exact al
    · obtain ⟨u, hu, q⟩ := r.re.al b hb
      exact ⟨u, by rw [upd_ne e]; exact hu, q⟩
  · obtain ⟨i', j', q⟩ := (r.re.tp b h).2
    exact ⟨i', j', by rw [upd_ne (fun z => nw (by rw [← z]; exact h))]; exact q⟩
  · obtain ⟨u1, g1, g2⟩ := ad j u h1
    obtain ⟨u2, g3, g4⟩ := ad k w' h2
    exact r.sep j k u1 u2 b n g1 g3 (by rw [g2]; exact h3) (by rw [g4]; exact h4)
  · obtain ⟨u1, g1, g2⟩ := ad j u h1
    exact r.fr j u1 b g1 (by rw [g2]; exact h2)
end
/-! ### statements -/
def endsOf (S : Sta) (m0 : AD) (H0 : Hp) (ρ : PSt) (H : Hp) (N : PSt → Prop) (Rt : D → Prop) : Ends where
  nx := fun σ' H' => ∃ ρ', N ρ' ∧ RS S m0 H0 H' σ' ρ' ∧ Stp (mOf m0 ρ) H (mOf m0 ρ') H'
  rt := fun v H' => ∃ d, Rt d ∧ Ex S.tw H0 H' ∧ Rep S.K S.tw m0 H' v d
def StR (S : Sta) (st : Stmt) (t : KS) : Prop := ∀ X, XOk S X → ∀ m0 H0 H σ ρ N Rt, RS S m0 H0 H σ ρ → t ρ N Rt → wS X st (endsOf S m0 H0 ρ H N Rt) σ H
def SlR (S : Sta) (sts : List Stmt) (t : KS) : Prop := ∀ X, XOk S X → ∀ m0 H0 H σ ρ N Rt, RS S m0 H0 H σ ρ → t ρ N Rt → wL X sts (endsOf S m0 H0 ρ H N Rt) σ H
section
variable {S : Sta} {e c tg : Expr} {st : Stmt} {rest body : List Stmt} {pos pos' p apos cpos : Pos} {t u : KS} {te ta tb : KE} {tf : KF} {q : KT} {x y : Str} {i j : Nat}
def kNext : KS := fun ρ N _ => N ρ
def kSeq (t u : KS) : KS := fun ρ N Rt => t ρ (fun ρ' => u ρ' N Rt) Rt
theorem l_nil : SlR S [] kNext := fun X ok m0 H0 H σ ρ N Rt r h => pss_nil.to ⟨ρ, h, r, .refl⟩
theorem l_cons (h1 : StR S st t) (h2 : SlR S rest u) : SlR S (st :: rest) (kSeq t u) := by
  intro X ok m0 H0 H σ ρ N Rt r h
  refine (pss_cons ps_w psl_w).to ?_
  refine wS_mono (h1 X ok m0 H0 H σ ρ _ Rt r h) ⟨fun σ1 H1 ⟨ρ1, n1, r1, s1⟩ => ?_, fun _ _ z => z, fun _ _ z => z, fun _ _ z => z⟩
  exact wL_mono (h2 X ok m0 H0 H1 σ1 ρ1 N Rt r1 n1) ⟨fun σ2 H2 ⟨ρ2, n2, r2, s2⟩ => ⟨ρ2, n2, r2, s1.trans s2⟩, fun _ _ z => z, fun _ _ z => z, fun _ _ z => z⟩
/-- what is never come to -/
def kNever : KS := fun _ _ _ => False
theorem s_never : StR S st kNever := fun X ok m0 H0 H σ ρ N Rt r h => h.elim
theorem l_never : SlR S rest kNever := fun X ok m0 H0 H σ ρ N Rt r h => h.elim
def kRet (te : KE) : KS := fun ρ _ Rt => te ρ Rt
theorem rep_m0 {m0 : AD} {H : Hp} {ρ : PSt} {v : V} {d : D} {K : PySem.W.Frag} {w : AD} (q : Rep K w (mOf m0 ρ) H v d) : Rep K w m0 H v d := q.mono (fun b o h n _ => ⟨h, fun z => n (.inl z)⟩) fun _ h => h
theorem s_ret (he : EvR S e te) : StR S (.Return (some e) pos) (kRet te) := by
  intro X ok m0 H0 H σ ρ N Rt r h
  exact (ps_ret pe_w).to (wE_mono (he X ok _ H σ ρ _ r.re h) fun v H1 _ ⟨d, p, e1, q1⟩ => ⟨d, p, r.ex.trans e1, rep_m0 q1⟩)
def kSet (i : Nat) (te : KE) : KS := fun ρ N _ => te ρ fun d => N (ρ.set i (.p d))
theorem s_set (i : Nat) (hN : S.N.Nodup) (hi : S.N[i]? = some x) (hx : Loc2 S x) (he : EvR S e te) (hs : ∀ X, XOk S X → swapsWith e (some (.Name x pos')) pos.line X.env = pure false := by intro _ _; rfl) : StR S (.Assign [.Name x pos'] e pos) (kSet i te) := by
  intro X ok m0 H0 H σ ρ N Rt r h
  refine (ps_set (i := i) (by rw [ok.N]; exact hN) (by rw [ok.N]; exact hi) (by rw [ok.sc]; exact hx.elim .inl fun z => .inr z.1) pe_w (hs X ok) (by rw [ok.sc, ok.fn]; exact hx.elim .inr fun z => .inl z.2)).to ?_
  refine wE_mono (he X ok _ H σ ρ _ r.re h) fun v H1 _ ⟨d, p, e1, q1⟩ => ?_
  obtain ⟨r2, s2⟩ := (r.exx e1).setP i q1
  exact ⟨_, p, r2, stp_sub s2 (r.stp e1)⟩
/-- a new list, the def's own from now on -/
def kOwn (i : Nat) (tf : KF) : KS := fun ρ N _ => tf ρ fun ds => ∀ p, N (ρ.set i (.o p ds))
theorem own_list {m0 : AD} {H0 H H1 : Hp} {σ : L2.St} {ρ : PSt} {pp : Addr} {vs : List V} {ds : List D} (r : RS S m0 H0 H σ ρ) (e1 : Ex S.tw H H1) (f1 : Fr0 H pp) (f2 : ¬ mOf m0 ρ pp) (hp : H1 pp = some (.lst vs)) (q : Reps S.K S.tw (plus (mOf m0 ρ) pp) H1 vs ds) (i : Nat) :
    RS S m0 H0 H1 (σ.set i (some (.ref pp))) (ρ.set i (.o pp ds)) ∧ Stp (mOf m0 ρ) H (mOf m0 (ρ.set i (.o pp ds))) H1 := by
  have nw : ¬ S.tw pp := fun z => f2 (.inl (r.t0 pp z).1)
  have back : ∀ b, mOf m0 (ρ.set i (.o pp ds)) b → mOf m0 ρ b ∨ b = pp := fun b hb => by
    rcases hb with hb | ⟨j, u, h1, h2⟩
    · exact .inl (.inl hb)
    · rcases get_set h1 with ⟨_, _, rfl⟩ | ⟨_, h1⟩
      · exact .inr (List.mem_singleton.mp h2)
      · exact .inl (.inr ⟨j, u, h1, h2⟩)
  have ft : Fr0 H0 pp := f1.ex r.ex fun b hb => (r.t0 b hb).2
  have st : Stp (mOf m0 ρ) H (mOf m0 (ρ.set i (.o pp ds))) H1 := fun b u hb hn ht => by
    obtain ⟨h1, h2⟩ := r.stp e1 b u hb hn ht
    exact ⟨h1, fun z => (back b z).elim h2 fun z => f1 u (by rw [← z]; exact hb) ht⟩
  -- what stood stands, and does not lie at the new list
  have rel0 : ∀ (j : Nat) (x : Option V) (s : Slot), σ[j]? = some x → ρ[j]? = some s → i ≠ j → SlotRel S.K S.tw (mOf m0 (ρ.set i (.o pp ds))) H1 x s := fun j x s h1 h2 n =>
    (r.re.rel j x s h1 h2).mono (fun b o hb hn ht => st b o hb hn ht) fun a ha hm hn => ⟨fun u hu ht => e1.keep a u hu hn ht, .inr ⟨j, s, by rw [List.getElem?_set_ne n]; exact h2, ha⟩⟩
  refine ⟨⟨⟨by rw [List.length_set, List.length_set, r.re.len], fun j x u h1 h2 => ?_, fun a h => ?_, fun a h => ⟨.inl (r.t0 a h).1, e1.tape a h (r.re.tp a h).2⟩, e1.tab _ r.re.tb⟩, fun j k u w' a n h1 h2 h3 h4 => ?_, fun j u a h1 h2 => ?_, r.ex.trans e1, r.t0, r.a0⟩, st⟩
  · rcases get_set h2 with ⟨rfl, hl, rfl⟩ | ⟨n, h2⟩
    · rw [List.getElem?_set_self (by rw [r.re.len]; exact hl)] at h1
      cases h1
      refine ⟨rfl, .inr ⟨i, _, h2, List.mem_cons_self ..⟩, nw, vs, hp, ?_⟩
      exact q.mono (fun b o hb hn _ => ⟨hb, fun z => hn (back b z)⟩) fun _ h => h
    · rw [List.getElem?_set_ne n] at h1
      exact rel0 j x u h1 h2 n
  · rcases back a h with h | rfl
    · exact (r.re.al a h).ex (fun z => (r.re.tp a z).2) e1
    · exact .lst hp
  · rcases get_set h1 with ⟨rfl, _, rfl⟩ | ⟨n1, h1⟩
    · rcases get_set h2 with ⟨rfl, _, rfl⟩ | ⟨n2, h2⟩
      · exact n rfl
      · rw [List.mem_singleton.mp h3] at h4
        exact f2 (.inr ⟨k, w', h2, h4⟩)
    · rcases get_set h2 with ⟨rfl, _, rfl⟩ | ⟨n2, h2⟩
      · rw [List.mem_singleton.mp h4] at h3
        exact f2 (.inr ⟨j, u, h1, h3⟩)
      · exact r.sep j k u w' a n h1 h2 h3 h4
  · rcases get_set h1 with ⟨rfl, _, rfl⟩ | ⟨n1, h1⟩
    · rw [List.mem_singleton.mp h2]
      exact ft
    · exact r.fr j u a h1 h2
end
end U
set_option Elab.async false
set_option linter.all false
set_option maxRecDepth 100000
set_option maxHeartbeats 1000000
/-! more statements over data -/
namespace U
open PySem PySem.Spec PyProof.Rows L2

/-- what a call of a built-in's method asks of the text -/
structure MB (o : Expr) (name : Str) (apos : Pos) (es : List Expr) (cpos : Pos) : Prop where
  base : ∀ env, attributeBase o name env (eval o env) = eval o env
  few : ∀ env, ((backTo cpos (starEach es env)).all (fun x => !x.1) && (backToKw cpos (keywordEach [] env)).all (fun x => x.1.isSome)
      && decide (es.length + ([] : List Keyword).length + (if ([] : List Keyword).isEmpty then 0 else 1) < 30)) = true
  line : (apos.endLine == cpos.line) = true
section
variable {S : Sta} {e c tg o : Expr} {es : List Expr} {st : Stmt} {rest body : List Stmt} {pos pos' p p2 apos cpos : Pos} {t u : KS} {te ta tb : KE} {ts : KA} {tf : KF} {q : KT} {x y name : Str} {i j : Nat} {sl : List Nat} {g : KG}
theorem SlotRel.own_at {m : AD} {H : Hp} {x : Option V} {a : Addr} {ds : List D} {K : PySem.W.Frag} {w : AD} (r : SlotRel K w m H x (.o a ds)) : x = some (.ref a) ∧ ¬ w a ∧ ∃ vs, H a = some (.lst vs) ∧ Reps K w m H vs ds := ⟨r.1, r.2.2.1, r.2.2.2⟩
theorem s_own (i : Nat) (hN : S.N.Nodup) (hi : S.N[i]? = some x) (hx : Loc2 S x) (he : EvF S e tf) (hs : ∀ X, XOk S X → swapsWith e (some (.Name x pos')) pos.line X.env = pure false := by intro _ _; rfl) : StR S (.Assign [.Name x pos'] e pos) (kOwn i tf) := by
  intro X ok m0 H0 H σ ρ N Rt r h
  refine (ps_set (i := i) (by rw [ok.N]; exact hN) (by rw [ok.N]; exact hi) (by rw [ok.sc]; exact hx.elim .inl fun z => .inr z.1) pe_w (hs X ok) (by rw [ok.sc, ok.fn]; exact hx.elim .inr fun z => .inl z.2)).to ?_
  refine wE_mono (he X ok _ H σ ρ _ r.re h) fun v H1 _ ⟨ds, p, e1, pp, vs, ev, f1, f2, hp, q⟩ => ?_
  subst ev
  obtain ⟨r2, s2⟩ := own_list r e1 f1 f2 hp q i
  exact ⟨_, p pp, r2, s2⟩
section
variable {elt iter : Expr} {ifs : List Expr} {scope : Scope} {it : KF} {tt : KT} {own : List (Str × Nat)}
/-- name = [..] on one line: the value, or the def's own list -/
theorem s_setLcO (i : Nat) (hN : S.N.Nodup) (hi : S.N[i]? = some y) (hy : S.sc.names.lookup y = some .local) (hk : S.sc.kind = .function) (hb : blkC S.N S.sc scope own = true) (hit : ItR S tg iter it) (hg : GtR (S.blk scope) tg sl g) (hs : ∀ j ∈ sl, j ∈ own.map (·.2)) (ht : TsR (S.blk scope) ifs tt) (he : EvR (S.blk scope) elt te)
    (hl : (pos'.line == p.line) = true) (ha : (scope.names.any fun (n, k) => n == y && (k == .local || k == .cell)) = false) (hf : ∀ env x, foldedSetIterable iter env x = pure x := by intro _ _; rfl) :
    StR S (.Assign [.Name y pos'] (.ListComp elt [⟨tg, iter, ifs, 0⟩] scope p) pos) (kOwn i (kLc it g tt te (own.map (·.2)))) := by
  intro X ok m0 H0 H σ ρ N Rt r h
  refine (ps_setLc (i := i) (wi := wI X tg iter) (g := bG X scope tg) (tt := bT X scope ifs) (te := bE X scope elt) ok.calm (by rw [ok.N]; exact hN) (by rw [ok.N]; exact hi) (by rw [ok.sc]; exact hy) (sw_true (by rw [ok.sc]; exact hk) (by rw [ok.sc]; exact hy) hl ha) pi_w (blkOk_by (by rw [ok.N, ok.sc]; exact hb)) (fun s H C cl fp => ⟨fun pins s1 σ H1 v u Q I rv q => q s H C cl fp pins s1 u I rv⟩) (fun s H C cl fp => ⟨fun pins s1 σ H1 Q I q => ht.pts.run pins s1 σ H1 Q I (q s H C cl fp)⟩) (fun s H C cl fp => ⟨fun pins s1 σ H1 Q I q => q s H C cl fp pins s1 I⟩) (hf _)).to ?_
  have key := lc_main ok hit hg hs ht he r.re h
  have mono : ∀ {Q Q' : VK}, (∀ v H', Q v H' → Q' v H') → tLc (wI X tg iter) (bG X scope tg) (bT X scope ifs) (bE X scope elt) (own.map (·.2)) σ H Q → tLc (wI X tg iter) (bG X scope tg) (bT X scope ifs) (bE X scope elt) (own.map (·.2)) σ H Q' := fun {Q Q'} f z =>
    wI_mono z fun J H1 w D0 hD => by
      obtain ⟨W, w0, turn⟩ := w D0 hD
      exact ⟨W, w0, fun i m H hw => (turn i m H hw).imp (fun z => ⟨z.1, f _ _ z.2⟩) fun z => z⟩
  refine mono (fun v H1 ⟨ds, p, e1, pp, vs, ev, f1, f2, hp, q⟩ => ?_) key
  subst ev
  obtain ⟨r2, s2⟩ := own_list r e1 f1 f2 hp q i
  exact ⟨_, p pp, r2, s2⟩
end
/-- an own list is no longer changed -/
def relP (ρ : PSt) (i : Nat) : PSt := match ρ[i]? with
  | some (.o _ ds) => ρ.set i (.p (.lst ds))
  | some (.oo _ _ dss) => ρ.set i (.p (.lst (dss.map D.lst)))
  | _ => ρ
theorem RS.nm0 {m0 : AD} {H0 H : Hp} {σ : L2.St} {ρ : PSt} (r : RS S m0 H0 H σ ρ) {i : Nat} {s : Slot} {a : Addr} (h : ρ[i]? = some s) (ha : a ∈ s.addrs) : ¬ m0 a := fun z => by
  obtain ⟨o, h1, h2, _⟩ := r.a0 a z
  exact r.fr i s a h ha o h1 h2
theorem RS.rel1 {m0 : AD} {H0 H : Hp} {σ : L2.St} {ρ : PSt} (r : RS S m0 H0 H σ ρ) {i : Nat} {s : Slot} {d : D} (hs : ρ[i]? = some s) (hv : ∀ m' : AD, (∀ b, m' b → mOf m0 ρ b ∧ b ∉ s.addrs) → ∀ x, σ[i]? = some x → ∃ v, x = some v ∧ Rep S.K S.tw m' H v d) :
    RS S m0 H0 H σ (ρ.set i (.p d)) ∧ ∀ b, mOf m0 (ρ.set i (.p d)) b → mOf m0 ρ b := by
  have hi : i < ρ.length := (List.getElem?_eq_some_iff.mp hs).1
  have sub : ∀ b, mOf m0 (ρ.set i (.p d)) b → mOf m0 ρ b ∧ b ∉ s.addrs := fun b hb => by
    rcases hb with hb | ⟨j, t, h1, h2⟩
    · exact ⟨.inl hb, fun z => r.nm0 hs z hb⟩
    · rcases get_set h1 with ⟨_, _, ez⟩ | ⟨n, h1⟩
      · rw [ez] at h2; simp [Slot.addrs] at h2
      · exact ⟨.inr ⟨j, t, h1, h2⟩, r.sep j i t s b (fun z => n z.symm) h1 hs h2⟩
  have ad : ∀ (j : Nat) (u : Slot) (b : Addr), (ρ.set i (.p d))[j]? = some u → b ∈ u.addrs → ρ[j]? = some u := fun j u b h hb => by
    rcases get_set h with ⟨_, _, ez⟩ | ⟨_, h⟩
    · rw [ez] at hb; simp [Slot.addrs] at hb
    · exact h
  refine ⟨⟨⟨by rw [List.length_set, r.re.len], fun j x u h1 h2 => ?_, fun b h => r.re.al b (sub b h).1, fun b h => ⟨.inl (r.t0 b h).1, (r.re.tp b h).2⟩, r.re.tb⟩, fun j k u w' b n h1 h2 h3 h4 => r.sep j k u w' b n (ad j u b h1 h3) (ad k w' b h2 h4) h3 h4, fun j u b h1 h2 => r.fr j u b (ad j u b h1 h2) h2, r.ex, r.t0, r.a0⟩, fun b h => (sub b h).1⟩
  rcases get_set h2 with ⟨rfl, _, ez⟩ | ⟨n, h2'⟩
  · subst ez
    exact hv _ sub x h1
  · exact (r.re.rel j x u h1 h2').mono (fun b o hb hn _ => ⟨hb, fun z => hn (sub b z).1⟩) fun b hb hm hn => ⟨fun u hu _ => hu, .inr ⟨j, u, h2, hb⟩⟩
theorem RS.rel {m0 : AD} {H0 H : Hp} {σ : L2.St} {ρ : PSt} (r : RS S m0 H0 H σ ρ) (i : Nat) : RS S m0 H0 H σ (relP ρ i) ∧ ∀ b, mOf m0 (relP ρ i) b → mOf m0 ρ b := by
  unfold relP
  split
  · rename_i a ds hs
    refine r.rel1 hs fun m' sub x hx => ?_
    obtain ⟨rfl, _, vs, h1, h2⟩ := (r.re.rel i x _ hx hs).own_at
    have h2 := h2.mono (m' := m') (fun b o hb hn _ => ⟨hb, fun z => hn (sub b z).1⟩) fun _ h => h
    exact ⟨_, rfl, .lst h1 (fun z => (sub a z).2 (List.mem_cons_self ..)) h2.1 h2.2⟩
  · rename_i a bs dss hs
    refine r.rel1 hs fun m' sub x hx => ?_
    obtain ⟨rfl, _, _, h1, h2, _, _, h3⟩ := r.re.rel i x _ hx hs
    refine ⟨_, rfl, .lst h1 (fun z => (sub a z).2 (List.mem_cons_self ..)) (by simp [h2]) fun k v d q1 q2 => ?_⟩
    rw [List.getElem?_map] at q1 q2
    cases hb : bs[k]? with
    | none => rw [hb] at q1; cases q1
    | some b =>
      cases hd : dss[k]? with
      | none => rw [hd] at q2; cases q2
      | some ds =>
        rw [hb] at q1
        rw [hd] at q2
        cases q1; cases q2
        obtain ⟨_, _, vs, g1, g2⟩ := h3 k b ds hb hd
        have g2 := g2.mono (m' := m') (fun b o hb hn _ => ⟨hb, fun z => hn (sub b z).1⟩) fun _ h => h
        exact .lst g1 (fun z => (sub b z).2 (List.mem_cons_of_mem _ (List.mem_of_getElem? hb))) g2.1 g2.2
  · exact ⟨r, fun _ h => h⟩
def kRel (i : Nat) (t : KS) : KS := fun ρ N Rt => t (relP ρ i) N Rt
theorem l_rel (i : Nat) (h : SlR S rest t) : SlR S rest (kRel i t) := by
  intro X ok m0 H0 H σ ρ N Rt r q
  obtain ⟨r2, s2⟩ := r.rel i
  refine wL_mono (h X ok m0 H0 H σ _ N Rt r2 q) ⟨fun σ1 H1 ⟨ρ1, n1, r1, s1⟩ => ⟨ρ1, n1, r1, fun b o hb hn ht => s1 b o hb (fun z => hn (s2 b z)) ht⟩, fun _ _ z => z, fun _ _ z => z, fun _ _ z => z⟩
/-! if, for, while -/
def ksIf (q : KT) (t u : KS) : KS := fun ρ N Rt => q ρ fun b => if b = true then t ρ N Rt else u ρ N Rt
theorem s_if (hc : TeR S c q) (ha : SlR S body t) (hb : SlR S rest u) : StR S (.If c body rest pos) (ksIf q t u) := by
  intro X ok m0 H0 H σ ρ N Rt r h
  refine (ps_if pt_w psl_w psl_w).to (wT_mono (hc X ok _ H σ ρ _ r.re h) fun b H1 ⟨p, e1⟩ => ?_)
  have le : EndsLe (endsOf S m0 H0 ρ H1 N Rt) (endsOf S m0 H0 ρ H N Rt) := ⟨fun σ2 H2 ⟨ρ2, n2, r2, s2⟩ => ⟨ρ2, n2, r2, (r.stp e1).trans s2⟩, fun _ _ z => z, fun _ _ z => z, fun _ _ z => z⟩
  cases b with
  | true => rw [if_pos rfl] at p ⊢; exact wL_mono (ha X ok m0 H0 H1 σ ρ N Rt (r.exx e1) p) le
  | false => rw [if_neg (by decide)] at p ⊢; exact wL_mono (hb X ok m0 H0 H1 σ ρ N Rt (r.exx e1) p) le
def ksFor (it : KF) (g : KG) (body : KS) : KS := fun ρ N Rt => it ρ fun ds => ∃ I : Nat → PSt → Prop, I 0 ρ ∧ (∀ i d ρ', ds[i]? = some d → I i ρ' → g d ρ' fun ρ2 => body ρ2 (I (i + 1)) Rt) ∧ ∀ ρ', I ds.length ρ' → N ρ'
theorem s_for {iter : Expr} {it : KF} (hit : ItR S tg iter it) (hg : GtR S tg sl g) (hb : SlR S body t) (hf : ∀ env x, foldedSetIterable iter env x = pure x := by intro _ _; rfl) : StR S (.For tg iter body [] pos) (ksFor it g t) := by
  intro X ok m0 H0 H σ ρ N Rt r h
  refine (ps_for (by rw [ok.xe]; exact PySem.PassesOwn.never) ok.calm pi_w pg_w psl_w (hf _)).to (wI_mono (hit X ok _ H σ ρ _ r.re h) fun J H1 ⟨ds, ⟨I, i0, istep, iend⟩, e1, io⟩ => ?_)
  have r1 := r.exx e1
  refine for_it io.walk (fun i σ2 H2 => ∃ ρ2, I i ρ2 ∧ RS S m0 H0 H2 σ2 ρ2 ∧ Stp (mOf m0 ρ) H1 (mOf m0 ρ2) H2) ⟨ρ, i0, r1, .refl⟩ (fun i σ2 H2 _ ⟨_, _, _, st⟩ b o hb hn ht => (st b o hb hn ht).1) (fun i x σ2 H2 H3 hi ⟨ρ2, hI, r2, st⟩ yd => ?_) fun σ2 H2 ⟨ρ2, hI, r2, st⟩ => ⟨ρ2, iend ρ2 hI, r2, (r.stp e1).trans st⟩
  obtain ⟨d, hd, e3, hx⟩ := yd
  have rx := hx (mOf m0 ρ2) r2.re.al fun b o hb hn ht => (st b o hb hn ht).2
  have r3 := r2.exx e3
  refine wG_mono (hg X ok _ H3 σ2 ρ2 x d _ r3.re rx (istep i d ρ2 hd hI)) fun σ4 H4 ⟨ρ4, p4, e4, q4, _, ps⟩ => ?_
  obtain ⟨r4, sub4⟩ := r3.shrink q4 (r3.ex.trans e4) ps
  have st4 : Stp (mOf m0 ρ) H1 (mOf m0 ρ4) H4 := (st.trans (r2.stp (e3.trans e4))).trans (stp_sub sub4 .refl)
  refine wL_mono (hb X ok m0 H0 H4 σ4 ρ4 _ Rt r4 p4) ⟨fun σ5 H5 ⟨ρ5, n5, r5, s5⟩ => ⟨ρ5, n5, r5, st4.trans s5⟩, fun _ _ z => z, fun _ _ z => z.elim, fun _ _ z => z.elim⟩
def ksWhile (q : KT) (body : KS) : KS := fun ρ N Rt => ∃ (I : PSt → Prop) (μ : PSt → Nat), I ρ ∧ ∀ ρ', I ρ' → q ρ' fun b => if b = true then body ρ' (fun ρ2 => I ρ2 ∧ μ ρ2 < μ ρ') Rt else N ρ'
theorem s_while (hc : TeR S c q) (hb : SlR S body t) : StR S (.While c body [] pos) (ksWhile q t) := by
  intro X ok m0 H0 H σ ρ N Rt r h
  obtain ⟨I, μ, i0, step⟩ := h
  refine (ps_while (by rw [ok.xe]; exact PySem.PassesOwn.never) pt_w psl_w).to ?_
  refine ⟨fun n σ2 H2 => ∃ ρ2, n = μ ρ2 ∧ I ρ2 ∧ RS S m0 H0 H2 σ2 ρ2 ∧ Stp (mOf m0 ρ) H (mOf m0 ρ2) H2, ⟨_, ρ, rfl, i0, r, .refl⟩, fun n σ2 H2 ⟨ρ2, hn, hI, r2, st⟩ => ?_⟩
  refine wT_mono (hc X ok _ H2 σ2 ρ2 _ r2.re (step ρ2 hI)) fun b H3 ⟨p, e3⟩ => ?_
  have r3 := r2.exx e3
  have st3 := st.trans (r2.stp e3)
  cases b with
  | false =>
    rw [if_neg (by decide)] at p ⊢
    exact ⟨ρ2, p, r3, st3⟩
  | true =>
    rw [if_pos rfl] at p ⊢
    refine ⟨fun σ4 H4 => ∃ ρ4, (I ρ4 ∧ μ ρ4 < μ ρ2) ∧ RS S m0 H0 H4 σ4 ρ4 ∧ Stp (mOf m0 ρ) H (mOf m0 ρ4) H4, fun σ4 H4 ⟨ρ4, ⟨hI4, hm⟩, r4, st4⟩ => ⟨μ ρ4, by omega, ρ4, rfl, hI4, r4, st4⟩, ?_⟩
    exact wL_mono (hb X ok m0 H0 H3 σ2 ρ2 _ Rt r3 p) ⟨fun σ5 H5 ⟨ρ5, n5, r5, s5⟩ => ⟨ρ5, n5, r5, st3.trans s5⟩, fun _ _ z => z, fun _ _ z => z.elim, fun _ _ z => z.elim⟩
/-! small statements -/
def kDrop (te : KE) : KS := fun ρ N _ => te ρ fun _ => N ρ
theorem s_drop (he : EvR S e te) (hs : ∀ X, XOk S X → swapsWith e none pos.line X.env = pure false := by intro _ _; rfl) : StR S (.Expr e pos) (kDrop te) := by
  intro X ok m0 H0 H σ ρ N Rt r h
  exact (ps_expr pe_w (hs X ok)).to (wE_mono (he X ok _ H σ ρ _ r.re h) fun v H1 _ ⟨d, p, e1, q1⟩ => ⟨ρ, p, r.exx e1, r.stp e1⟩)
/-- a, b = e -/
def kTgt (te : KE) (g : KG) : KS := fun ρ N _ => te ρ fun d => g d ρ N
theorem s_tgt (he : EvR S e te) (hg : GtR S tg sl g) (hs : ∀ X, XOk S X → swapsWithSole [tg] e pos.line X.env = pure false := by intro _ _; rfl) (hw : ∀ X, XOk S X → swappedStores [tg] e X.env = pure none := by intro _ _; rfl) (h1 : ∀ env, (assignEach [tg] env).map (·.2) = [assign tg env] := by intro _; rfl) :
    StR S (.Assign [tg] e pos) (kTgt te g) := by
  intro X ok m0 H0 H σ ρ N Rt r h
  refine (ps_asg pe_w pg_w (hs X ok) (hw X ok) (h1 _)).to (wE_mono (he X ok _ H σ ρ _ r.re h) fun v H1 _ ⟨d, p, e1, q1⟩ => ?_)
  have r1 := r.exx e1
  refine wG_mono (hg X ok _ H1 σ ρ v d _ r1.re q1 p) fun σ2 H2 ⟨ρ2, n2, e2, q2, _, ps⟩ => ?_
  obtain ⟨r2, sub⟩ := r1.shrink q2 (r1.ex.trans e2) ps
  exact ⟨ρ2, n2, r2, (r.stp (e1.trans e2)).trans (stp_sub sub .refl)⟩
/-- n += e of ints -/
def kAugA (i : Nat) (te : KE) : KS := fun ρ N _ => ∃ n, ρ[i]? = some (.p (.int n)) ∧ te ρ fun d => ∃ k, d = .int k ∧ N (ρ.set i (.p (.int (n + k))))
theorem s_augA (i : Nat) (hN : S.N.Nodup) (hi : S.N[i]? = some x) (hx : Loc2 S x) (he : EvR S e te) : StR S (.AugAssign (.Name x pos') .Add e pos) (kAugA i te) := by
  intro X ok m0 H0 H σ ρ N Rt r h
  obtain ⟨n, h1, h2⟩ := h
  obtain ⟨z, hz, v, rfl, qv⟩ := st_at r.re h1
  cases qv
  refine (ps_aug (i := i) (by rw [ok.N]; exact hN) (by rw [ok.N]; exact hi) (by rw [ok.sc]; exact hx.elim .inl fun z => .inr z.1) pe_w ip_add (by rw [ok.sc, ok.fn]; exact hx.elim .inr fun z => .inl z.2)).to ?_
  refine ⟨_, hz, wE_mono (he X ok _ H σ ρ _ r.re h2) fun v H1 _ ⟨d, ⟨k, ed, p⟩, e1, q1⟩ => ?_⟩
  subst ed
  cases q1
  obtain ⟨r2, s2⟩ := (r.exx e1).setP i (.int (n + k))
  exact ⟨n, k, rfl, rfl, _, p, r2, stp_sub s2 (r.stp e1)⟩
end
end U
set_option Elab.async false
set_option linter.all false
set_option maxRecDepth 100000
set_option maxHeartbeats 1000000
/-! lists and dicts of a def's own; methods; defs -/
namespace U
open PySem PySem.Spec PyProof.Rows L2
section
variable {S : Sta} {e e2 c tg o : Expr} {es : List Expr} {st : Stmt} {rest body : List Stmt} {pos pos' p p2 apos cpos : Pos} {t u : KS} {te ta tb : KE} {ts : KA} {tf : KF} {q : KT} {x y name : Str} {i j : Nat} {sl : List Nat} {g : KG}
theorem own_at {m0 : AD} {H0 H : Hp} {σ : L2.St} {ρ : PSt} {a : Addr} {ds : List D} (r : RS S m0 H0 H σ ρ) (h : ρ[i]? = some (.o a ds)) : σ[i]? = some (some (.ref a)) ∧ ¬ S.tw a ∧ ∃ vs, H a = some (.lst vs) ∧ Reps S.K S.tw (mOf m0 ρ) H vs ds := by
  obtain ⟨x, hx, q⟩ := st_at r.re h
  obtain ⟨rfl, h1, h2⟩ := q.own_at
  exact ⟨hx, h1, h2⟩
/-- the own list in slot i, behind a change -/
theorem RS.mutL {m0 : AD} {H0 H : Hp} {σ : L2.St} {ρ : PSt} {a : Addr} {ds ds' : List D} {vs' : List V} (r : RS S m0 H0 H σ ρ) (h : ρ[i]? = some (.o a ds)) (q : Reps S.K S.tw (mOf m0 ρ) H vs' ds') :
    RS S m0 H0 (upd H a (.lst vs')) σ (ρ.set i (.o a ds')) ∧ Stp (mOf m0 ρ) H (mOf m0 (ρ.set i (.o a ds'))) (upd H a (.lst vs')) := by
  obtain ⟨hx, nw, vs, hv, _⟩ := own_at r h
  have ma : mOf m0 ρ a := .inr ⟨i, _, h, List.mem_cons_self ..⟩
  refine r.mut h (List.mem_cons_self ..) nw rfl (.lst upd_same) fun x e => ?_
  rw [hx] at e; cases e
  exact ⟨rfl, ma, nw, vs', upd_same, q.mono (fun b o hb hn _ => ⟨by rw [upd_ne (fun z => hn (by rw [z]; exact ma))]; exact hb, hn⟩) fun _ h => h⟩
def Rdl (S : Sta) (i : Nat) (x : Str) : Prop := S.N[i]? = some x ∧ Vis S.sc x ∧ (x == ("__debug__" : Str)) = false ∧ (x == ("__classdict__" : Str)) = false
theorem Rdl.pe {X : Cx} (ok : XOk S X) (h : Rdl S i x) : PE X (.Name x p) (tVar i) := pe_var (by rw [ok.N]; exact h.1) (by rw [ok.sc]; exact h.2.1) h.2.2.1 h.2.2.2
/-- xs.append(e) -/
def kApp (i : Nat) (te : KE) : KS := fun ρ N _ => ∃ a ds, ρ[i]? = some (.o a ds) ∧ ds.length < 1000000 ∧ te ρ fun d => N (ρ.set i (.o a (ds ++ [d])))
theorem s_app (i : Nat) (hx : Rdl S i x) (he : EvR S e te) (mb : MB (.Name x p) "append" apos [e] cpos) (ns : NS e := by intro _ _; rfl) (hs : ∀ X, XOk S X → swapsWith (.Call (.Attribute (.Name x p) "append" apos) [e] [] cpos) none pos.line X.env = pure false := by intro _ _; rfl) :
    StR S (.Expr (.Call (.Attribute (.Name x p) "append" apos) [e] [] cpos) pos) (kApp i te) := by
  intro X ok m0 H0 H σ ρ N Rt r h
  obtain ⟨a, ds, h1, h2, h3⟩ := h
  obtain ⟨hv, nw, vs, hl, _⟩ := own_at r h1
  refine (ps_expr (pe_bm PySem.F.plainAttrs_list PySem.F.slot_list_append PySem.F.type_list_append mt_append (hx.pe ok) (pa_cons pe_w pa_nil (ns _ _)) (mb.base _) (mb.few _) mb.line (ns _ _) (by rfl)) (hs X ok)).to ?_
  refine ⟨_, hv, .inl ⟨rfl, vs, .of hl⟩, wE_mono (he X ok _ H σ ρ _ r.re h3) fun v H1 _ ⟨d, p, e1, q1⟩ => ?_⟩
  have r1 := r.exx e1
  obtain ⟨_, _, vs1, hl1, q2⟩ := own_at r1 h1
  obtain ⟨r2, s2⟩ := r1.mutL h1 (q2.snoc q1)
  exact ⟨a, vs1, v, rfl, rfl, hl1, by rw [q2.1]; exact Nat.lt_of_lt_of_le h2 line_big, _, p, r2, (r.stp e1).trans s2⟩
/-- xs.extend(e): a list or a tuple -/
def kExt (i : Nat) (te : KE) : KS := fun ρ N _ => ∃ a ds, ρ[i]? = some (.o a ds) ∧ te ρ fun d => match d with
  | .lst es => ds.length + es.length ≤ 1000000 ∧ N (ρ.set i (.o a (ds ++ es)))
  | .tup es => ds.length + es.length ≤ 1000000 ∧ N (ρ.set i (.o a (ds ++ es)))
  | _ => False
theorem MtR.or2 {X : Cx} {id : String} {r r' : V → List V → Hp → VK → Prop} (h : MtR X id r) (h' : MtR X id r') : MtR X id (fun x vs H Q => r x vs H Q ∨ r' x vs H Q) := fun pins s σ H x xs v us Q I rx rv q => q.elim (h pins s σ H x xs v us Q I rx rv) (h' pins s σ H x xs v us Q I rx rv)
theorem s_ext (i : Nat) (hx : Rdl S i x) (he : EvB S e te) (mb : MB (.Name x p) "extend" apos [e] cpos) (ns : NS e := by intro _ _; rfl) (hs : ∀ X, XOk S X → swapsWith (.Call (.Attribute (.Name x p) "extend" apos) [e] [] cpos) none pos.line X.env = pure false := by intro _ _; rfl) :
    StR S (.Expr (.Call (.Attribute (.Name x p) "extend" apos) [e] [] cpos) pos) (kExt i te) := by
  intro X ok m0 H0 H σ ρ N Rt r h
  obtain ⟨a, ds, h1, h3⟩ := h
  obtain ⟨hv, nw, vs, hl, _⟩ := own_at r h1
  refine (ps_expr (pe_bm PySem.F.plainAttrs_list PySem.F.slot_list_extend PySem.F.type_list_extend (MtR.or2 mt_extend mt_extT) (hx.pe ok) (pa_cons pe_w pa_nil (ns _ _)) (mb.base _) (mb.few _) mb.line (ns _ _) (by rfl)) (hs X ok)).to ?_
  refine ⟨_, hv, .inl ⟨rfl, vs, .of hl⟩, wE_mono (he X ok _ H σ ρ _ r.re h3) fun v H1 _ ⟨d, p, e1, q1⟩ => ?_⟩
  have r1 := r.exx e1
  obtain ⟨_, _, vs1, hl1, q2⟩ := own_at r1 h1
  split at p
  · obtain ⟨b, us, rfl, g1, g2⟩ := q1.lst
    obtain ⟨r2, s2⟩ := r1.mutL h1 (q2.append g2)
    exact .inl ⟨a, b, vs1, us, rfl, rfl, hl1, g1, by rw [q2.1, g2.1]; exact Nat.le_trans p.1 line_big, _, p.2, r2, (r.stp e1).trans s2⟩
  · obtain ⟨b, us, rfl, g1, g2⟩ := q1.tup
    obtain ⟨r2, s2⟩ := r1.mutL h1 (q2.append g2)
    exact .inr ⟨a, b, vs1, us, rfl, rfl, hl1, .of g1, by rw [q2.1, g2.1]; exact Nat.le_trans p.1 line_big, _, p.2, r2, (r.stp e1).trans s2⟩
  · exact p.elim
/-- xs.insert(k, e) -/
def kIns (i : Nat) (tk te : KE) : KS := fun ρ N _ => ∃ a ds, ρ[i]? = some (.o a ds) ∧ ds.length < 1000000 ∧ tk ρ fun z => te ρ fun d => ∃ k : Int, z = .int k ∧ 0 ≤ k ∧ k < 1000000 ∧ N (ρ.set i (.o a (ds.take k.toNat ++ [d] ++ ds.drop k.toNat)))
theorem s_ins (i : Nat) (hx : Rdl S i x) (hk : EvR S e ta) (he : EvR S e2 te) (mb : MB (.Name x p) "insert" apos [e, e2] cpos) (ns : NS e := by intro _ _; rfl) (ns2 : NS e2 := by intro _ _; rfl) (hpl : Plain [e2] := by intro _ _; rfl) (hs : ∀ X, XOk S X → swapsWith (.Call (.Attribute (.Name x p) "insert" apos) [e, e2] [] cpos) none pos.line X.env = pure false := by intro _ _; rfl) :
    StR S (.Expr (.Call (.Attribute (.Name x p) "insert" apos) [e, e2] [] cpos) pos) (kIns i ta te) := by
  intro X ok m0 H0 H σ ρ N Rt r h
  obtain ⟨a, ds, h1, h2, h3⟩ := h
  obtain ⟨hv, nw, vs, hl, _⟩ := own_at r h1
  refine (ps_expr (pe_bm PySem.F.plainAttrs_list PySem.F.slot_list_insert PySem.F.type_list_insert mt_insert (hx.pe ok) (pa_cons pe_w (pa_cons pe_w pa_nil (ns2 _ _)) (ns _ _)) (mb.base _) (mb.few _) mb.line (ns _ _) (hpl _ _)) (hs X ok)).to ?_
  refine ⟨_, hv, .inl ⟨rfl, vs, .of hl⟩, wE_mono (hk X ok _ H σ ρ _ r.re h3) fun v H1 _ ⟨z, p1, e1, q1⟩ => wE_mono (he X ok _ H1 σ ρ _ (r.re.ex e1) p1) fun v2 H2 _ ⟨d, ⟨k, ez, k0, k1, p2⟩, e2', q2⟩ => ?_⟩
  subst ez
  cases q1
  have r1 := r.exx (e1.trans e2')
  obtain ⟨_, _, vs1, hl1, q3⟩ := own_at r1 h1
  obtain ⟨r2, s2⟩ := r1.mutL h1 (((q3.take k.toNat).append (.one q2)).append (q3.drop k.toNat))
  exact ⟨a, vs1, k, v2, rfl, rfl, hl1, by rw [q3.1]; exact Nat.lt_of_lt_of_le h2 line_big, k0, by omega, _, p2, r2, (r.stp (e1.trans e2')).trans s2⟩
/-- name = xs.pop() -/
def kPop (i j : Nat) : KS := fun ρ N _ => ∃ a ds d, ρ[j]? = some (.o a ds) ∧ ds[ds.length - 1]? = some d ∧ N ((ρ.set j (.o a ds.dropLast)).set i (.p d))
theorem s_pop (i j : Nat) (hN : S.N.Nodup) (hi : S.N[i]? = some x) (hx : Loc2 S x) (hy : Rdl S j y) (mb : MB (.Name y p) "pop" apos [] cpos) (hs : ∀ X, XOk S X → swapsWith (.Call (.Attribute (.Name y p) "pop" apos) [] [] cpos) (some (.Name x pos')) pos.line X.env = pure false := by intro _ _; rfl) :
    StR S (.Assign [.Name x pos'] (.Call (.Attribute (.Name y p) "pop" apos) [] [] cpos) pos) (kPop i j) := by
  intro X ok m0 H0 H σ ρ N Rt r h
  obtain ⟨a, ds, d, h1, h2, h3⟩ := h
  obtain ⟨hv, nw, vs, hl, q0⟩ := own_at r h1
  refine (ps_set (i := i) (by rw [ok.N]; exact hN) (by rw [ok.N]; exact hi) (by rw [ok.sc]; exact hx.elim .inl fun z => .inr z.1) (pe_bm0 PySem.F.plainAttrs_list PySem.F.slot_list_pop PySem.F.type_list_pop mt_pop (hy.pe ok) (mb.base _) mb.line) (hs X ok) (by rw [ok.sc, ok.fn]; exact hx.elim .inr fun z => .inl z.2)).to ?_
  obtain ⟨z, g1, g2⟩ := q0.get h2
  obtain ⟨r1, s1⟩ := r.mutL h1 q0.dropLast
  have g3 : Rep S.K S.tw (mOf m0 (ρ.set j (.o a ds.dropLast))) (upd H a (.lst vs.dropLast)) z d := g2.mono (fun b o hb hn ht => s1 b o hb hn ht) fun _ h => h
  obtain ⟨r2, s2⟩ := r1.setP i g3
  exact ⟨_, hv, .inl ⟨rfl, vs, .of hl⟩, a, vs, z, rfl, rfl, hl, by rw [q0.1]; exact g1, _, h3, r2, s1.trans (stp_sub s2 .refl)⟩
/-- xs[k] = e -/
def kPut (i : Nat) (te tk : KE) : KS := fun ρ N _ => ∃ a ds, ρ[i]? = some (.o a ds) ∧ te ρ fun d => tk ρ fun z => ∃ (k : Int) (j : Nat), z = .int k ∧ ixN ds.length k = some j ∧ N (ρ.set i (.o a (ds.set j d)))
theorem s_put (i : Nat) (hx : Rdl S i x) (hk : EvR S e2 ta) (he : EvR S e te) (hs : ∀ X, XOk S X → swapsWithSole [.Subscript (.Name x p) e2 p2] e pos.line X.env = pure false := by intro _ _; rfl) (hw : ∀ X, XOk S X → swappedStores [.Subscript (.Name x p) e2 p2] e X.env = pure none := by intro _ _; rfl)
    (ha : ∀ env v, assign (.Subscript (.Name x p) e2 p2) env v = (do
      let ov ← holding [v] (eval (.Name x p) env)
      let iv ← holding [v, ov] (eval e2 env)
      standAt p2
      holding [v, ov, iv] (setItem ov iv v)
      release [v, ov, iv] []) := by intro _ _; rfl) : StR S (.Assign [.Subscript (.Name x p) e2 p2] e pos) (kPut i te ta) := by
  intro X ok m0 H0 H σ ρ N Rt r h
  obtain ⟨a, ds, h1, h3⟩ := h
  refine (ps_asg pe_w (pg_sub (hx.pe ok) pe_w set_list (ha _)) (hs X ok) (hw X ok) (by rfl)).to (wE_mono (he X ok _ H σ ρ _ r.re h3) fun v H1 _ ⟨d, p1, e1, q1⟩ => ?_)
  have r1 := r.exx e1
  obtain ⟨hv, nw, vs, hl, _⟩ := own_at r1 h1
  refine ⟨_, hv, wE_mono (hk X ok _ H1 σ ρ _ r1.re p1) fun v2 H2 _ ⟨z, ⟨k, j, ez, hj, p2⟩, e2', q2⟩ => ?_⟩
  subst ez
  cases q2
  have r2 := r1.exx e2'
  obtain ⟨_, _, vs2, hl2, q3⟩ := own_at r2 h1
  obtain ⟨r3, s3⟩ := r2.mutL h1 (q3.set (r1.re.rep e2' q1) j)
  exact ⟨a, vs2, k, j, rfl, rfl, hl2, by rw [q3.1]; exact hj, _, p2, r3, (r.stp (e1.trans e2')).trans s3⟩
/-! a def -/
def startP (N : List Str) (ds : List D) : PSt := ds.map Slot.p ++ List.replicate (N.length - ds.length) .any
theorem start_rs {P : Program} {w : World} {K : PySem.W.Frag} {mg : Str → Option Value} {base : Heap} {N : List Str} {sc : Scope} {k : Nat} {tw m : AD} {H : Hp} {vs : List V} {ds : List D} (al : ∀ a, m a → Al H a) (tp : ∀ a, tw a → m a ∧ TapeAt H a) (tb : Tbs K H) (r : Reps K tw m H vs ds) :
    RS ⟨P, w, K, mg, base, N, sc, fun _ => true, k, tw, fun _ => True⟩ m H H (L2.start N vs) (startP N ds) := by
  have hl : vs.length = ds.length := r.1
  have noa : ∀ (i : Nat) (s : Slot), (startP N ds)[i]? = some s → s.addrs = [] := fun i s h => by
    unfold startP at h
    by_cases hi : i < ds.length
    · rw [List.getElem?_append_left (by simpa using hi), List.getElem?_map, List.getElem?_eq_getElem hi] at h
      cases h; rfl
    · rw [List.getElem?_append_right (by simpa using hi)] at h
      have := List.mem_replicate.mp (List.mem_of_getElem? h)
      rw [this.2]; rfl
  have sub : ∀ b, mOf m (startP N ds) b → m b := fun b hb => by
    rcases hb with hb | ⟨i, s, h1, h2⟩
    · exact hb
    · rw [noa i s h1] at h2; simp at h2
  refine ⟨⟨by simp [L2.start, startP, hl], fun i x s h1 h2 => ?_, fun a h => al a (sub a h), fun a h => ⟨.inl (tp a h).1, (tp a h).2⟩, tb⟩, fun i j s t a _ h1 _ h3 => by rw [noa i s h1] at h3; simp at h3, fun i s a h1 h2 => by rw [noa i s h1] at h2; simp at h2, .refl, tp, al⟩
  unfold startP at h2
  unfold L2.start at h1
  by_cases hi : i < ds.length
  · rw [List.getElem?_append_left (by simpa using hi), List.getElem?_map, List.getElem?_eq_getElem hi] at h2
    rw [List.getElem?_append_left (by simpa [hl] using hi), List.getElem?_map, List.getElem?_eq_getElem (by rw [hl]; exact hi)] at h1
    cases h1; cases h2
    exact ⟨_, rfl, (r.2 i _ _ (List.getElem?_eq_getElem (by rw [hl]; exact hi)) (List.getElem?_eq_getElem hi)).mono (fun b o hb hn _ => ⟨hb, fun z => hn (sub b z)⟩) fun _ h => h⟩
  · rw [List.getElem?_append_right (by simpa using hi)] at h2
    have := List.mem_replicate.mp (List.mem_of_getElem? h2)
    rw [this.2]; trivial
/-- THE RULE: a def by its body over data -/
theorem def_ok {P : Program} {w : World} {K : PySem.W.Frag} {mg : Str → Option Value} {base : Heap} {x qual : Str} {st : Stmt} {f : Addr} {fd : FuncData} {N ps : List Str} {k : Nat} {q : PSp} {kb : KS} (F : Fun K x qual st f fd) (sc : FnScope N ps (defScope st)) (hq : ∀ ds P, q ds P → ds.length = ps.length)
    (hb : ∀ tw, SlR ⟨P, w, K, mg, base, N, defScope st, fun _ => true, k, tw, fun _ => True⟩ (defBody st) kb) (hv : ∀ ds P, q ds P → kb (startP N ds) (fun _ => P .non) P) : FnOk P w K mg base CX0 (k + 1) f fd ps (toSp K q) := by
  refine F.ok sc (fun vs H Q E h => ?_) fun cdv A outer s H vs Q E hr h => ?_
  · obtain ⟨tw, m, ds, P', _, _, _, r, h, _⟩ := h
    rw [r.1]; exact hq ds P' h
  · obtain ⟨tw, m, ds, P', al, tp, tb, r, h, fin⟩ := h
    refine ⟨_, psl_w, ?_⟩
    have ok : XOk ⟨P, w, K, mg, base, N, defScope st, fun _ => true, k, tw, fun _ => True⟩ (cxOf CX0 P w K mg base N qual (defScope st) f cdv A outer s H E).nox := ⟨rfl, rfl, rfl, rfl, rfl, rfl, rfl, rfl, rfl, hr, rfl, trivial⟩
    have rs := start_rs (P := P) (w := w) (K := K) (mg := mg) (base := base) (N := N) (sc := defScope st) (k := k) al tp tb r
    refine wL_mono (hb tw _ ok m H H (L2.start N vs) (startP N ds) _ _ rs (hv ds P' h)) ⟨fun σ1 H1 ⟨ρ1, n1, r1, s1⟩ => fin _ _ _ n1 r1.ex .non, fun v H1 ⟨d, p, e, q⟩ => fin v H1 d p e q, fun _ _ z => z, fun _ _ z => z⟩
end
end U
set_option Elab.async false
set_option linter.all false
set_option maxRecDepth 100000
set_option maxHeartbeats 1000000
/-! fields, methods, keywords, dicts of a def's own -/
namespace U
open PySem PySem.Spec PyProof.Rows L2
section
variable {S : Sta} {e e2 c tg o : Expr} {es : List Expr} {st : Stmt} {rest body : List Stmt} {pos pos' p p2 p3 apos cpos kpos : Pos} {t u : KS} {te ta tb tk : KE} {ts : KA} {tf : KF} {q : KT} {x y name f g : Str} {i j k : Nat} {sl : List Nat} {C : Addr}
/-! fields -/
def kFldC (C : Addr) (f : Str) (ta : KE) : KE := fun ρ P => ta ρ fun d => ∃ f1 g1 x y, d = .ins C f1 g1 x y ∧ ((f = f1 ∧ P x) ∨ (f ≠ f1 ∧ f = g1 ∧ P y))
theorem r_fldC (cl : Cls S.K C) (na : NoAttr S.K C f) (ha : EvR S e ta) (hb : ∀ env, attributeBase e f env (eval e env) = eval e env := by intro _; rfl) : EvR S (.Attribute e f pos) (kFldC C f ta) := by
  intro X ok m H σ ρ P r h
  refine (pe_fld pe_w (hb _)).to (wE_mono (ha X ok m H σ ρ _ r h) fun v H1 _ ⟨d, ⟨f1, g1, x, y, ed, p⟩, e1, q1⟩ => ?_)
  subst ed
  cases q1 with
  | @ins a _ dx _ _ v u _ _ hI n q2 q3 =>
    rw [ok.K]
    rcases p with ⟨rfl, p⟩ | ⟨n1, rfl, p⟩
    · exact ⟨a, C, dx, _, v, rfl, hI, cl, na, by simp [List.lookup_cons], x, p, e1, q2⟩
    · refine ⟨a, C, dx, _, u, rfl, hI, cl, na, ?_, y, p, e1, q3⟩
      rw [List.lookup_cons, show (f == f1) = false from beq_eq_false_iff_ne.mpr n1, List.lookup_cons, beq_self_eq_true]
/-! methods -/
structure CalleeM (P : Program) (w : World) (K : PySem.W.Frag) (mg : Str → Option Value) (base : Heap) (k : Nat) (C : Addr) (m : Str) (q : PSp) : Prop where
  ex : ∃ (f : Addr) (fd : FuncData) (ps : List Str), Meth K C m f ∧ Binds K fd ps [] ∧ FnOk P w K mg base CX0 k f fd ps (toSp K q)
theorem CalleeM.mono {P : Program} {w : World} {K : PySem.W.Frag} {mg : Str → Option Value} {base : Heap} {j k : Nat} {m : Str} {q : PSp} (c : CalleeM P w K mg base j C m q) (h : j ≤ k) : CalleeM P w K mg base k C m q := by
  obtain ⟨f, fd, ps, h1, h2, h3⟩ := c.ex
  exact ⟨f, fd, ps, h1, h2, h3.mono h⟩
def kMeth (C : Addr) (m : Str) (q : PSp) (ta : KE) (ts : KA) : KE := fun ρ P => ta ρ fun d => ∃ f1 g1 x y, d = .ins C f1 g1 x y ∧ m ≠ f1 ∧ m ≠ g1 ∧ ts ρ fun ds => q (d :: ds) P
theorem r_meth {m : Str} {q : PSp} (cl : Cls S.K C) (hc : CalleeM S.P S.w S.K S.mg S.base k C m q) (hk : k ≤ S.k) (ho : EvR S o ta) (ha : ArR S (e :: es) ts) (ns : NS e := by intro _ _; rfl) (hpl : Plain es := by intro _ _; rfl)
    (ht : ∀ env, ∃ pl : Sem Bool, eval (.Call (.Attribute o m apos) (e :: es) [] pos) env = (do
      let ov ← eval o env
      standAt apos.atName
      let (f, first) ← holding [ov] (getMethod ov m pl)
      callWith pos f first (backTo pos (starEach (e :: es) env)) (backToKw pos (keywordEach [] env))) := by intro _; exact ⟨_, rfl⟩) : EvR S (.Call (.Attribute o m apos) (e :: es) [] pos) (kMeth C m q ta ts) := by
  intro X ok mm H σ ρ P r h
  obtain ⟨f, fd, ps, h1, h2, h3⟩ := hc.ex
  obtain ⟨pl, ht⟩ := ht X.env
  have F : FnOk X.prog X.w X.K X.mg X.base CX0 k f fd ps (toSp S.K q) := by rw [ok.prog, ok.w, ok.K, ok.mg, ok.base]; exact h3
  refine (pe_meth pe_w (by rw [ok.K]; exact cl) (by rw [ok.K]; exact h1) F (ok.room.mono hk) (by rw [ok.K]; exact h2) .nil (pass0 (X := X)) pa_w (ns _ _) (hpl _ _) ht).to ?_
  refine wE_mono (ho X ok mm H σ ρ _ r h) fun v H1 _ ⟨d, ⟨f1, g1, x, y, ed, n1, n2, p⟩, e1, q1⟩ => ?_
  subst ed
  have q1' := q1
  cases q1 with
  | @ins a _ dx _ _ v u _ _ hI n q2 q3 =>
    refine ⟨a, dx, _, rfl, hI, ?_, wA_mono (ha X ok mm H1 σ ρ _ (r.ex e1) p) fun vs H2 _ ⟨ds, p2, e2, rs⟩ => ?_⟩
    · rw [List.lookup_cons, show (m == f1) = false from beq_eq_false_iff_ne.mpr n1, List.lookup_cons, show (m == g1) = false from beq_eq_false_iff_ne.mpr n2]; rfl
    · refine ⟨S.tw, mm, _, P, ((r.ex e1).ex e2).al, ((r.ex e1).ex e2).tp, ((r.ex e1).ex e2).tb, ?_, p2, fun v H' d p e q => ⟨d, p, (e1.trans e2).trans e, q⟩⟩
      rw [List.append_nil]
      exact .cons ((r.ex e1).rep e2 q1') rs
/-! max, min with a default -/
theorem r_maxD (hg : Glo S "max") (hm : S.mg "max" = none) (ha : EvB S e ta) (hd : EvR S e2 tb) (ns : NS e := by intro _ _; rfl) : EvR S (.Call (.Name "max" p) [e] [⟨"default", e2, kpos⟩] pos) (kCall maxDP (kCons ta (kCons tb kNil))) := by
  intro X ok m H σ ρ P r h
  refine (pe_callBK (cr_maxD ok.calm ok.room.units) (hg.gl ok) (by rw [ok.mg]; exact hm) PyProof.Rows.boot_max (pa_cons pe_w pa_nil (ns _ _)) (pk_cons pe_w pk_nil) (by decide) (by decide) (by rw [ns]; rfl) (by rw [ns]; rfl)).to ?_
  refine wE_mono (ha X ok m H σ ρ _ r h) fun v H1 _ ⟨d, p1, e1, q1⟩ => wE_mono (hd X ok m H1 σ ρ _ (r.ex e1) p1) fun v2 H2 _ ⟨d2, p2, e2', q2⟩ => ?_
  obtain ⟨ns, d3, ed, h1, h2⟩ := p2
  cases ed
  obtain ⟨a, us, rfl, g1, g2⟩ := (q1.ex (r.ex e1) e2').lst
  have e := g2.ints
  subst e
  rw [ok.K]
  exact ⟨a, ns, v2, rfl, rfl, .of g1, fun z => ⟨_, h1 z, e1.trans e2', q2⟩, fun m a b => ⟨_, h2 m a b, e1.trans e2', .int _⟩⟩
theorem r_minD (hg : Glo S "min") (hm : S.mg "min" = none) (ha : EvB S e ta) (hd : EvR S e2 tb) (ns : NS e := by intro _ _; rfl) : EvR S (.Call (.Name "min" p) [e] [⟨"default", e2, kpos⟩] pos) (kCall minDP (kCons ta (kCons tb kNil))) := by
  intro X ok m H σ ρ P r h
  refine (pe_callBK (cr_minD ok.calm ok.room.units) (hg.gl ok) (by rw [ok.mg]; exact hm) PyProof.Rows.boot_min (pa_cons pe_w pa_nil (ns _ _)) (pk_cons pe_w pk_nil) (by decide) (by decide) (by rw [ns]; rfl) (by rw [ns]; rfl)).to ?_
  refine wE_mono (ha X ok m H σ ρ _ r h) fun v H1 _ ⟨d, p1, e1, q1⟩ => wE_mono (hd X ok m H1 σ ρ _ (r.ex e1) p1) fun v2 H2 _ ⟨d2, p2, e2', q2⟩ => ?_
  obtain ⟨ns, d3, ed, h1, h2⟩ := p2
  cases ed
  obtain ⟨a, us, rfl, g1, g2⟩ := (q1.ex (r.ex e1) e2').lst
  have e := g2.ints
  subst e
  rw [ok.K]
  exact ⟨a, ns, v2, rfl, rfl, .of g1, fun z => ⟨_, h1 z, e1.trans e2', q2⟩, fun m a b => ⟨_, h2 m a b, e1.trans e2', .int _⟩⟩
/-! xs.count(k), xs.index(k) -/
def kCount (ta tb : KE) : KE := fun ρ P => ta ρ fun d => ∃ ds, d = .lst ds ∧ tb ρ fun d2 => ∃ (ns : List Int) (k : Int), ds = ns.map D.int ∧ d2 = .int k ∧ P (.int (ns.count k : Nat))
theorem r_count (ho : EvB S o ta) (he : EvR S e tb) (mb : MB o "count" apos [e] cpos) (ns : NS e := by intro _ _; rfl) : EvR S (.Call (.Attribute o "count" apos) [e] [] cpos) (kCount ta tb) := by
  intro X ok m H σ ρ P r h
  refine (pe_bm PySem.F.plainAttrs_list PySem.F.slot_list_count PySem.F.type_list_count mt_lcount pe_w (pa_cons pe_w pa_nil (ns _ _)) (mb.base _) (mb.few _) mb.line (ns _ _) (by rfl)).to ?_
  refine wE_mono (ho X ok m H σ ρ _ r h) fun v H1 _ ⟨d, ⟨ds, ed0, p1⟩, e1, q1⟩ => ?_
  subst ed0
  obtain ⟨a, us, rfl, g1, g2⟩ := q1.lst
  refine ⟨.inl ⟨rfl, us, .of g1⟩, wE_mono (he X ok m H1 σ ρ _ (r.ex e1) p1) fun v2 H2 _ ⟨d2, ⟨ns, k, ed, ed2, p2⟩, e2', q2⟩ => ?_⟩
  subst ed ed2
  cases q2
  obtain ⟨a', us', ea, g3, g4⟩ := (q1.ex (r.ex e1) e2').lst
  cases ea
  have e := g4.ints
  subst e
  rw [ok.K]
  exact ⟨a, ns, k, rfl, rfl, .of g3, _, p2, e1.trans e2', .int _⟩
/-- the first place of k -/
def kIndex (ta tb : KE) : KE := fun ρ P => ta ρ fun d => ∃ ds, d = .lst ds ∧ tb ρ fun d2 => ∃ (ns : List Int) (k : Int) (j : Nat), ds = ns.map D.int ∧ d2 = .int k ∧ ns[j]? = some k ∧ (∀ i, i < j → ns[i]? ≠ some k) ∧ P (.int (j : Nat))
theorem r_index (ho : EvB S o ta) (he : EvR S e tb) (mb : MB o "index" apos [e] cpos) (ns : NS e := by intro _ _; rfl) : EvR S (.Call (.Attribute o "index" apos) [e] [] cpos) (kIndex ta tb) := by
  intro X ok m H σ ρ P r h
  refine (pe_bm PySem.F.plainAttrs_list PySem.F.slot_list_index PySem.F.type_list_index mt_index pe_w (pa_cons pe_w pa_nil (ns _ _)) (mb.base _) (mb.few _) mb.line (ns _ _) (by rfl)).to ?_
  refine wE_mono (ho X ok m H σ ρ _ r h) fun v H1 _ ⟨d, ⟨ds, ed0, p1⟩, e1, q1⟩ => ?_
  subst ed0
  obtain ⟨a, us, rfl, g1, g2⟩ := q1.lst
  refine ⟨.inl ⟨rfl, us, .of g1⟩, wE_mono (he X ok m H1 σ ρ _ (r.ex e1) p1) fun v2 H2 _ ⟨d2, ⟨ns, k, j, ed, ed2, hj, hno, p2⟩, e2', q2⟩ => ?_⟩
  subst ed ed2
  cases q2
  obtain ⟨a', us', ea, g3, g4⟩ := (q1.ex (r.ex e1) e2').lst
  cases ea
  have e := g4.ints
  subst e
  rw [ok.K]
  refine ⟨a, _, .int k, j, .int k, rfl, rfl, .of g3, rfl, ?_, by rw [List.getElem?_map, hj]; rfl, by simp [eqV], fun i z hi hz => ?_, _, p2, e1.trans e2', .int _⟩
  · rw [List.all_map]; exact List.all_eq_true.mpr fun _ _ => rfl
  · rw [List.getElem?_map] at hz
    cases hn : ns[i]? with
    | none => rw [hn] at hz; cases hz
    | some n =>
      rw [hn] at hz
      cases hz
      have := hno i hi
      rw [hn] at this
      show (n == k) = false
      exact beq_eq_false_iff_ne.mpr fun z => this (by rw [z])
/-! dicts of a def's own -/
theorem dk_at {m0 : AD} {H0 H : Hp} {σ : L2.St} {ρ : PSt} {a : Addr} {ks : List Int} (r : RE S m0 H σ ρ) (h : ρ[i]? = some (.dk a ks)) : σ[i]? = some (some (.ref a)) ∧ m0 a ∧ ¬ S.tw a ∧ ∃ kvs, H a = some (.dK kvs) ∧ kvs.map (·.1) = ks.map Sum.inl := by
  obtain ⟨x, hx, q⟩ := st_at r h
  obtain ⟨rfl, h1, h2, h3⟩ := q
  exact ⟨hx, h1, h2, h3⟩
theorem isSome_iff {κ : Type} [DecidableEq κ] {kvs : List (κ × V)} {k : κ} : (valV kvs k).isSome = true ↔ k ∈ kvs.map (·.1) := by
  rw [← valV_any, List.any_eq_true, List.mem_map]
  constructor
  · rintro ⟨p, hp, e⟩; exact ⟨p, hp, of_decide_eq_true e⟩
  · rintro ⟨p, hp, e⟩; exact ⟨p, hp, decide_eq_true e⟩
/-- k in d, k not in d (d the def's own, its keys ints) -/
def kInDk (neg : Bool) (i : Nat) (tk : KE) : KT := fun ρ P => ∃ a ks, ρ[i]? = some (.dk a ks) ∧ tk ρ fun d => ∃ k, d = .int k ∧ P (if neg then !decide (k ∈ ks) else decide (k ∈ ks))
theorem mem_inl {k : Int} {ks : List Int} : ((Sum.inl k : Key) ∈ ks.map Sum.inl) ↔ k ∈ ks := by
  rw [List.mem_map]
  constructor
  · rintro ⟨x, h, e⟩; cases e; exact h
  · exact fun h => ⟨k, h, rfl⟩
theorem t_inDk (i : Nat) (hx : Rdl S i x) (hk : EvR S e tk) (hb : behindInMarks .In (.Name x p) = false := by rfl) : TeR S (.Compare e [.In] [.Name x p] pos) (kInDk false i tk) := by
  intro X ok m H σ ρ P r h
  obtain ⟨a, ks, h1, h2⟩ := h
  refine (pt_cmp (pc_din (hu_of ok.room) pe_w (hx.pe ok)) hb).to (wE_mono (hk X ok m H σ ρ _ r h2) fun v H1 _ ⟨d, ⟨k, ed, p1⟩, e1, q1⟩ => ?_)
  subst ed
  cases q1
  obtain ⟨g1, _, _, kvs, g2, g3⟩ := dk_at (H0 := H) (r.ex e1) h1
  refine ⟨_, g1, a, _, rfl, .k (k := .inl k) g2, _, rfl, ?_, e1⟩
  have e : (valV kvs (Sum.inl k)).isSome = decide (k ∈ ks) := by rw [Bool.eq_iff_iff, isSome_iff, g3, mem_inl, decide_eq_true_iff]
  rw [e]
  exact p1
theorem t_ninDk (i : Nat) (hx : Rdl S i x) (hk : EvR S e tk) (hb : behindInMarks .NotIn (.Name x p) = false := by rfl) : TeR S (.Compare e [.NotIn] [.Name x p] pos) (kInDk true i tk) := by
  intro X ok m H σ ρ P r h
  obtain ⟨a, ks, h1, h2⟩ := h
  refine (pt_cmp (pc_dnotin (hu_of ok.room) pe_w (hx.pe ok)) hb).to (wE_mono (hk X ok m H σ ρ _ r h2) fun v H1 _ ⟨d, ⟨k, ed, p1⟩, e1, q1⟩ => ?_)
  subst ed
  cases q1
  obtain ⟨g1, _, _, kvs, g2, g3⟩ := dk_at (H0 := H) (r.ex e1) h1
  refine ⟨_, g1, a, _, rfl, .k (k := .inl k) g2, _, rfl, ?_, e1⟩
  have e : (valV kvs (Sum.inl k)).isSome = decide (k ∈ ks) := by rw [Bool.eq_iff_iff, isSome_iff, g3, mem_inl, decide_eq_true_iff]
  rw [e]
  exact p1
/-- (a, b) in d -/
def kInDt (i : Nat) (tk : KE) : KT := fun ρ P => ∃ a ks, ρ[i]? = some (.dt a ks) ∧ tk ρ fun d => ∃ k1 k2, d = .tup [.int k1, .int k2] ∧ P (decide ((k1, k2) ∈ ks))
theorem dt_at {m0 : AD} {H : Hp} {σ : L2.St} {ρ : PSt} {a : Addr} {ks : List (Int × Int)} (r : RE S m0 H σ ρ) (h : ρ[i]? = some (.dt a ks)) : σ[i]? = some (some (.ref a)) ∧ m0 a ∧ ¬ S.tw a ∧ ∃ kvs, H a = some (.dT kvs) ∧ kvs.map (·.1) = ks.map fun k => [Sum.inl k.1, Sum.inl k.2] := by
  obtain ⟨x, hx, q⟩ := st_at r h
  obtain ⟨rfl, h1, h2, h3⟩ := q
  exact ⟨hx, h1, h2, h3⟩
theorem mem_pair {k : Int × Int} {ks : List (Int × Int)} : (([Sum.inl k.1, Sum.inl k.2] : List Key) ∈ ks.map fun k => [Sum.inl k.1, Sum.inl k.2]) ↔ k ∈ ks := by
  rw [List.mem_map]
  constructor
  · rintro ⟨⟨x, y⟩, h, e⟩
    injection e with e1 e2
    injection e2 with e2 _
    cases e1; cases e2
    exact h
  · exact fun h => ⟨k, h, rfl⟩
theorem t_inDt (i : Nat) (hx : Rdl S i x) (hk : EvR S e tk) (hb : behindInMarks .In (.Name x p) = false := by rfl) : TeR S (.Compare e [.In] [.Name x p] pos) (kInDt i tk) := by
  intro X ok m H σ ρ P r h
  obtain ⟨a, ks, h1, h2⟩ := h
  refine (pt_cmp (pc_din (hu_of ok.room) pe_w (hx.pe ok)) hb).to (wE_mono (hk X ok m H σ ρ _ r h2) fun v H1 _ ⟨d, ⟨k1, k2, ed, p1⟩, e1, q1⟩ => ?_)
  subst ed
  obtain ⟨b, us, rfl, gb, rs⟩ := q1.tupOf
  have eu := rep_ints (ns := [k1, k2]) rs rfl
  subst eu
  obtain ⟨g1, _, _, kvs, g2, g3⟩ := dt_at (r.ex e1) h1
  refine ⟨_, g1, a, _, rfl, .t (k := [.inl k1, .inl k2]) g2 gb, _, rfl, ?_, e1⟩
  have e : (valV kvs [Sum.inl k1, Sum.inl k2]).isSome = decide ((k1, k2) ∈ ks) := by rw [Bool.eq_iff_iff, isSome_iff, g3, mem_pair (k := (k1, k2)), decide_eq_true_iff]
  rw [e]
  exact p1
/-- name = {} -/
def kDk0 (i : Nat) : KS := fun ρ N _ => ∀ p, N (ρ.set i (.dk p []))
theorem s_dk0 (i : Nat) (hN : S.N.Nodup) (hi : S.N[i]? = some x) (hx : Loc2 S x) (hs : ∀ X, XOk S X → swapsWith (.Dict [] [] p2) (some (.Name x pos')) pos.line X.env = pure false := by intro _ _; rfl) : StR S (.Assign [.Name x pos'] (.Dict [] [] p2) pos) (kDk0 i) := by
  intro X ok m0 H0 H σ ρ N Rt r h
  refine (ps_set (i := i) (by rw [ok.N]; exact hN) (by rw [ok.N]; exact hi) (by rw [ok.sc]; exact hx.elim .inl fun z => .inr z.1) pe_dnewK (hs X ok) (by rw [ok.sc, ok.fn]; exact hx.elim .inr fun z => .inl z.2)).to ?_
  intro pp hp
  obtain ⟨r2, s2⟩ := r.own (t := .dk pp []) (o := .dK []) hp i rfl (.dk upd_same) fun nw m hm => ⟨rfl, hm, nw, [], upd_same, rfl⟩
  exact ⟨_, h pp, r2, s2⟩
def kDt0 (i : Nat) : KS := fun ρ N _ => ∀ p, N (ρ.set i (.dt p []))
theorem s_dt0 (i : Nat) (hN : S.N.Nodup) (hi : S.N[i]? = some x) (hx : Loc2 S x) (hs : ∀ X, XOk S X → swapsWith (.Dict [] [] p2) (some (.Name x pos')) pos.line X.env = pure false := by intro _ _; rfl) : StR S (.Assign [.Name x pos'] (.Dict [] [] p2) pos) (kDt0 i) := by
  intro X ok m0 H0 H σ ρ N Rt r h
  refine (ps_set (i := i) (by rw [ok.N]; exact hN) (by rw [ok.N]; exact hi) (by rw [ok.sc]; exact hx.elim .inl fun z => .inr z.1) pe_dnewT (hs X ok) (by rw [ok.sc, ok.fn]; exact hx.elim .inr fun z => .inl z.2)).to ?_
  intro pp hp
  obtain ⟨r2, s2⟩ := r.own (t := .dt pp []) (o := .dT []) hp i rfl (.dt upd_same) fun nw m hm => ⟨rfl, hm, nw, [], upd_same, rfl⟩
  exact ⟨_, h pp, r2, s2⟩
/-- name = {k: v} -/
def kDk1 (i : Nat) (tk tv : KE) : KS := fun ρ N _ => (∃ s, ρ[i]? = some s) ∧ tk ρ fun d => tv ρ fun _ => ∃ k, d = .int k ∧ ∀ p, N (ρ.set i (.dk p [k]))
theorem s_dk1 {tv : KE} (i : Nat) (hN : S.N.Nodup) (hi : S.N[i]? = some x) (hx : Loc2 S x) (hk : EvR S e tk) (hv : EvR S e2 tv) (hs : ∀ X, XOk S X → swapsWith (.Dict [some e] [e2] p2) (some (.Name x pos')) pos.line X.env = pure false := by intro _ _; rfl) : StR S (.Assign [.Name x pos'] (.Dict [some e] [e2] p2) pos) (kDk1 i tk tv) := by
  intro X ok m0 H0 H σ ρ N Rt r h
  refine (ps_set (i := i) (by rw [ok.N]; exact hN) (by rw [ok.N]; exact hi) (by rw [ok.sc]; exact hx.elim .inl fun z => .inr z.1) (pe_disp (pps_cons pe_w pe_w pps_nil) (by rfl) (by rfl) (by intro z; cases z) (by show 1 ≤ 15; decide)) (hs X ok) (by rw [ok.sc, ok.fn]; exact hx.elim .inr fun z => .inl z.2)).to ?_
  intro pp hp
  obtain ⟨⟨s0, hs0⟩, h⟩ := h
  have np : ¬ mOf m0 ρ pp := r.re.fresh hp
  have nw : ¬ S.tw pp := fun z => np (r.re.tp pp z).1
  have e0 : Ex S.tw H (upd H pp (.dK [])) := .new hp
  refine wE_mono (hk X ok _ _ σ ρ _ (r.re.ex e0) h) fun v H1 _ ⟨d, p1, e1, q1⟩ => wE_mono (hv X ok _ H1 σ ρ _ ((r.re.ex e0).ex e1) p1) fun v2 H2 _ ⟨d2, ⟨k, ed, p3⟩, e2', q2⟩ => ?_
  subst ed
  cases q1
  have hd : H2 pp = some (.dK []) := e2'.keep pp _ (e1.keep pp _ upd_same nw (fun _ z => nomatch z)) nw (fun _ z => nomatch z)
  refine ⟨hd, [(.inl k, v2)], rfl, by show 1 ≤ 15; decide, ?_⟩
  obtain ⟨r0, s0'⟩ := r.own (t := .dk pp []) (o := .dK []) hp i rfl (.dk upd_same) fun nw m hm => ⟨rfl, hm, nw, [], upd_same, rfl⟩
  have r3 := r0.exx (e1.trans e2')
  have hi2 : (ρ.set i (.dk pp []))[i]? = some (.dk pp []) := List.getElem?_set_self (List.getElem?_eq_some_iff.mp hs0).1
  obtain ⟨r4, s4⟩ := r3.mut (t := .dk pp [k]) (o := .dK (mergeK [] [(Sum.inl k, v2)])) hi2 (List.mem_cons_self ..) nw rfl (.dk upd_same) fun x hx => by
    obtain ⟨g1, g2, g3, _⟩ := dk_at (H0 := H) r3.re hi2
    rw [g1] at hx; cases hx
    exact ⟨rfl, g2, g3, _, upd_same, rfl⟩
  rw [List.set_set] at r4 s4
  exact ⟨_, p3 pp, r4, (s0'.trans (r0.stp (e1.trans e2'))).trans s4⟩
/-- d[k] = e -/
def putI (ks : List Int) (k : Int) : List Int := if k ∈ ks then ks else ks ++ [k]
theorem keys_put {κ : Type} [DecidableEq κ] (kvs : List (κ × V)) (k : κ) (v : V) : (putK kvs k v).map (·.1) = if k ∈ kvs.map (·.1) then kvs.map (·.1) else kvs.map (·.1) ++ [k] := by
  by_cases h : k ∈ kvs.map (·.1)
  · rw [if_pos h]
    unfold putK
    have e : (kvs.any fun kv => decide (kv.1 = k)) = true := by rw [valV_any]; exact isSome_iff.mpr h
    rw [if_pos e, List.map_map]
    refine List.map_congr_left fun p _ => ?_
    show (if p.1 = k then (p.1, v) else p).1 = p.1
    split <;> rfl
  · rw [if_neg h]
    have e : ¬ (kvs.any fun kv => decide (kv.1 = k)) = true := by rw [valV_any]; exact fun z => h (isSome_iff.mp z)
    unfold putK
    rw [if_neg e, List.map_append]; rfl
theorem keys_putI {kvs : List (Key × V)} {ks : List Int} (h : kvs.map (·.1) = ks.map Sum.inl) (k : Int) (v : V) : (putK kvs (Sum.inl k) v).map (·.1) = (putI ks k).map Sum.inl := by
  rw [keys_put, h]
  unfold putI
  by_cases hk : k ∈ ks
  · rw [if_pos (mem_inl.mpr hk), if_pos hk]
  · rw [if_neg (fun z => hk (mem_inl.mp z)), if_neg hk, List.map_append]; rfl
def kDkPut (i : Nat) (tv tk : KE) : KS := fun ρ N _ => ∃ a ks, ρ[i]? = some (.dk a ks) ∧ ks.length < 1000000 ∧ tv ρ fun _ => tk ρ fun d => ∃ k, d = .int k ∧ N (ρ.set i (.dk a (putI ks k)))
theorem s_dkPut {tv : KE} (i : Nat) (hx : Rdl S i x) (hk : EvR S e2 tk) (hv : EvR S e tv) (hs : ∀ X, XOk S X → swapsWith e (some (.Subscript (.Name x p) e2 p2)) pos.line X.env = pure false := by intro _ _; rfl) : StR S (.Assign [.Subscript (.Name x p) e2 p2] e pos) (kDkPut i tv tk) := by
  intro X ok m0 H0 H σ ρ N Rt r h
  obtain ⟨a, ks, h1, hz, h2⟩ := h
  refine (ps_dput (hu_of ok.room) (hx.pe ok) pe_w pe_w (hs X ok)).to (wE_mono (hv X ok _ H σ ρ _ r.re h2) fun v H1 _ ⟨d1, p1, e1, q1⟩ => ?_)
  have r1 := r.exx e1
  obtain ⟨g1, _, _, _⟩ := dk_at (H0 := H) r1.re h1
  refine ⟨_, g1, wE_mono (hk X ok _ H1 σ ρ _ r1.re p1) fun v2 H2 _ ⟨d, ⟨k, ed, p2⟩, e2', q2⟩ => ?_⟩
  subst ed
  cases q2
  have r2 := r1.exx e2'
  obtain ⟨g2, g3, g4, kvs, g5, g6⟩ := dk_at (H0 := H) r2.re h1
  have hl : kvs.length = ks.length := by simpa using congrArg List.length g6
  obtain ⟨r3, s3⟩ := r2.mut (t := .dk a (putI ks k)) (o := .dK (putK kvs (Sum.inl k) v)) h1 (List.mem_cons_self ..) g4 rfl (.dk upd_same) fun x hx => by
    rw [g2] at hx; cases hx
    exact ⟨rfl, g3, g4, _, upd_same, keys_putI g6 k v⟩
  exact ⟨a, _, rfl, .k (k := .inl k) g5 (by rw [hl]; exact Nat.lt_of_lt_of_le hz line_big), _, p2, r3, (r.stp (e1.trans e2')).trans s3⟩
def putT (ks : List (Int × Int)) (k : Int × Int) : List (Int × Int) := if k ∈ ks then ks else ks ++ [k]
theorem keys_putT {kvs : List (List Key × V)} {ks : List (Int × Int)} (h : kvs.map (·.1) = ks.map fun k => [Sum.inl k.1, Sum.inl k.2]) (k : Int × Int) (v : V) : (putK kvs [Sum.inl k.1, Sum.inl k.2] v).map (·.1) = (putT ks k).map fun k => [Sum.inl k.1, Sum.inl k.2] := by
  rw [keys_put, h]
  unfold putT
  by_cases hk : k ∈ ks
  · rw [if_pos (mem_pair.mpr hk), if_pos hk]
  · rw [if_neg (fun z => hk (mem_pair.mp z)), if_neg hk, List.map_append]; rfl
def kDtPut (i : Nat) (tv tk : KE) : KS := fun ρ N _ => ∃ a ks, ρ[i]? = some (.dt a ks) ∧ ks.length < 1000000 ∧ tv ρ fun _ => tk ρ fun d => ∃ k1 k2, d = .tup [.int k1, .int k2] ∧ N (ρ.set i (.dt a (putT ks (k1, k2))))
theorem s_dtPut {tv : KE} (i : Nat) (hx : Rdl S i x) (hk : EvR S e2 tk) (hv : EvR S e tv) (hs : ∀ X, XOk S X → swapsWith e (some (.Subscript (.Name x p) e2 p2)) pos.line X.env = pure false := by intro _ _; rfl) : StR S (.Assign [.Subscript (.Name x p) e2 p2] e pos) (kDtPut i tv tk) := by
  intro X ok m0 H0 H σ ρ N Rt r h
  obtain ⟨a, ks, h1, hz, h2⟩ := h
  refine (ps_dput (hu_of ok.room) (hx.pe ok) pe_w pe_w (hs X ok)).to (wE_mono (hv X ok _ H σ ρ _ r.re h2) fun v H1 _ ⟨d1, p1, e1, q1⟩ => ?_)
  have r1 := r.exx e1
  obtain ⟨g1, _, _, _⟩ := dt_at r1.re h1
  refine ⟨_, g1, wE_mono (hk X ok _ H1 σ ρ _ r1.re p1) fun v2 H2 _ ⟨d, ⟨k1, k2, ed, p2⟩, e2', q2⟩ => ?_⟩
  subst ed
  obtain ⟨b, us, rfl, gb, rs⟩ := q2.tupOf
  have eu := rep_ints (ns := [k1, k2]) rs rfl
  subst eu
  have r2 := r1.exx e2'
  obtain ⟨g2, g3, g4, kvs, g5, g6⟩ := dt_at r2.re h1
  have hl : kvs.length = ks.length := by simpa using congrArg List.length g6
  obtain ⟨r3, s3⟩ := r2.mut (t := .dt a (putT ks (k1, k2))) (o := .dT (putK kvs [Sum.inl k1, Sum.inl k2] v)) h1 (List.mem_cons_self ..) g4 rfl (.dt upd_same) fun x hx => by
    rw [g2] at hx; cases hx
    exact ⟨rfl, g3, g4, _, upd_same, keys_putT g6 (k1, k2) v⟩
  exact ⟨a, _, rfl, .t (k := [.inl k1, .inl k2]) g5 gb (by rw [hl]; exact Nat.lt_of_lt_of_le hz line_big), _, p2, r3, (r.stp (e1.trans e2')).trans s3⟩
/-- sorted(d) -/
def kSorted (i : Nat) : KF := fun ρ P => ∃ a ks, ρ[i]? = some (.dk a ks) ∧ ks.length < 64 ∧ ∀ ys : List Int, ys.Perm ks → ys.Pairwise (· ≤ ·) → P (ys.map D.int)
theorem r_sorted (i : Nat) (hx : Rdl S i x) (hg : Glo S "sorted") (hm : S.mg "sorted" = none) : EvF S (.Call (.Name "sorted" p) [.Name x p2] [] pos) (kSorted i) := by
  intro X ok m H σ ρ P r h
  obtain ⟨a, ks, h1, h2, h3⟩ := h
  obtain ⟨g2, g3, g4, kvs, g5, g6⟩ := dk_at (H0 := H) r h1
  refine (pe_callB (call_sortedDI ok.calm) (hg.gl ok) (by rw [ok.mg]; exact hm) PyProof.Rows.boot_sorted (pa_cons (hx.pe ok) pa_nil (by rfl)) (by decide) (by decide) (by rfl) (by rfl)).to ?_
  refine ⟨_, g2, a, kvs, ks, rfl, .inl g5, g6, h2, fun ys pp hp hs hn => ⟨_, h3 ys hp hs, .new hn, pp, _, rfl, fr0_none hn, r.fresh hn, upd_same, reps_plus hn (.of_ints ys)⟩⟩
/-- d.update([(k, True), ..]) -/
def kUpd (i : Nat) (ta : KE) : KS := fun ρ N _ => ∃ a ks, ρ[i]? = some (.dk a ks) ∧ ta ρ fun d => ∃ ns : List Int, d = .lst (ns.map fun n => .tup [.int n, .bl true]) ∧ ks.length + ns.length ≤ 1000000 ∧ N (ρ.set i (.dk a (ns.foldl putI ks)))
theorem keys_merge : ∀ (ns : List Int) (kvs : List (Key × V)) (ks : List Int), kvs.map (·.1) = ks.map Sum.inl → (mergeK kvs (ns.map fun n => (Sum.inl n, V.bl true))).map (·.1) = (ns.foldl putI ks).map Sum.inl
  | [], kvs, ks, h => h
  | n :: ns, kvs, ks, h => keys_merge ns (putK kvs (Sum.inl n) (.bl true)) (putI ks n) (keys_putI h n _)
theorem s_upd (i : Nat) (hx : Rdl S i x) (he : EvR S e te) (mb : MB (.Name x p) "update" apos [e] cpos) (ns : NS e := by intro _ _; rfl) (hs : ∀ X, XOk S X → swapsWith (.Call (.Attribute (.Name x p) "update" apos) [e] [] cpos) none pos.line X.env = pure false := by intro _ _; rfl) :
    StR S (.Expr (.Call (.Attribute (.Name x p) "update" apos) [e] [] cpos) pos) (kUpd i te) := by
  intro X ok m0 H0 H σ ρ N Rt r h
  obtain ⟨a, ks, h1, h3⟩ := h
  obtain ⟨g2, g3, g4, kvs, g5, g6⟩ := dk_at (H0 := H) r.re h1
  refine (ps_expr (pe_bm PySem.F.plainAttrs_dict PySem.F.slot_dict_update PySem.F.type_dict_update (mt_updP ok.calm) (hx.pe ok) (pa_cons pe_w pa_nil (ns _ _)) (mb.base _) (mb.few _) mb.line (ns _ _) (by rfl)) (hs X ok)).to ?_
  refine ⟨_, g2, .inr (.inr (.inl ⟨rfl, .inl ⟨kvs, g5⟩⟩)), wE_mono (he X ok _ H σ ρ _ r.re h3) fun v H1 _ ⟨d, ⟨ns, ed, hz, p⟩, e1, q1⟩ => ?_⟩
  subst ed
  have r1 := r.exx e1
  obtain ⟨f2, f3, f4, kvs1, f5, f6⟩ := dk_at (H0 := H) r1.re h1
  obtain ⟨b, us, rfl, nb, gb, rs⟩ := q1.lstOf
  have hl : kvs1.length = ks.length := by simpa using congrArg List.length f6
  obtain ⟨r2, s2⟩ := r1.mut (t := .dk a (ns.foldl putI ks)) (o := .dK (mergeK kvs1 (ns.map fun n => (Sum.inl n, V.bl true)))) h1 (List.mem_cons_self ..) f4 rfl (.dk upd_same) fun x hx => by
    rw [f2] at hx; cases hx
    exact ⟨rfl, f3, f4, _, upd_same, keys_merge ns kvs1 ks f6⟩
  have pairs : ∀ (ns : List Int) (us : List V), Reps S.K S.tw (mOf m0 ρ) H1 us (ns.map fun n => .tup [.int n, .bl true]) → ∃ ps : List Addr, us = ps.map V.ref ∧ Paired (fun p (kv : Key × V) => SqT S.K H1 p [kV kv.1, kv.2]) ps (ns.map fun n => (Sum.inl n, V.bl true)) := by
    intro ns
    induction ns with
    | nil => intro us h; exact ⟨[], by rw [h.eq_nil]; rfl, .nil⟩
    | cons n ns ih =>
      intro us h
      obtain ⟨v, vs', rfl, k1, k2⟩ := h.uncons
      obtain ⟨ps, e, hp⟩ := ih vs' k2
      obtain ⟨t, ws, rfl, l1, l2⟩ := k1.tupOf
      obtain ⟨w1, ws1, rfl, m1, m2⟩ := l2.uncons
      obtain ⟨w2, ws2, rfl, m3, m4⟩ := m2.uncons
      have e5 := m4.eq_nil
      subst e5
      cases m1
      cases m3
      exact ⟨t :: ps, by rw [e]; rfl, .cons (.of l1) hp⟩
  obtain ⟨ps, eu, hp⟩ := pairs ns us rs
  subst eu
  rw [ok.K]
  exact ⟨a, b, ps, kvs1, _, rfl, rfl, f5, .of gb, hp, by rw [hl, List.length_map]; exact Nat.le_trans hz line_big, _, p, r2, (r.stp e1).trans s2⟩
end
end U
set_option Elab.async false
set_option linter.all false
set_option maxRecDepth 100000
set_option maxHeartbeats 1000000
/-! special statements over data -/
namespace U
open PySem PySem.Spec PyProof.Rows L2
section
variable {S : Sta} {e e1 e2 c tg o : Expr} {es : List Expr} {st : Stmt} {rest body : List Stmt} {pos pos' p p2 p3 p4 px py pt apos cpos kpos : Pos} {t u : KS} {te ta tb tk : KE} {ts : KA} {tf : KF} {q : KT} {x y name f g : Str} {i j k : Nat} {sl : List Nat} {C : Addr}
theorem block_fn {env : Env} (hk : env.scope.kind = .function) : env.blockKind = .function := by
  unfold Env.blockKind; rw [hk]; rfl
theorem sw_false {elt : Expr} {gs : List Comprehension} {scope : Scope} {l : Nat} (hk : S.sc.kind = .function) (hy : S.sc.names.lookup y = some .cell) : ∀ X, XOk S X → swapsWith (.ListComp elt gs scope p) (some (.Name y py)) l X.env = pure false := fun X ok => by
  have ky : X.env.kindOf y = some .cell := by show X.env.scope.names.lookup y = _; rw [ok.sc]; exact hy
  unfold swapsWith
  simp only [ky]
  rw [show ((some NameKind.cell : Option NameKind) == some NameKind.local) = false from rfl]
  simp only [Bool.and_false, Bool.false_and]
/-- a, b = x, y -/
def kPar (i j : Nat) (ta tb : KE) : KS := fun ρ N _ => ta ρ fun d => tb ρ fun d2 => N ((ρ.set i (.p d)).set j (.p d2))
theorem sp_names {kt k2 : Nat} {pt2 : Pos} {env : Env} (hk : env.scope.kind = .function) (hx : env.scope.names.lookup x = some .local) (hy : env.scope.names.lookup y = some .local) (hl : (py.line == px.line) = true) (hne : [x, y].eraseDups.length = 2)
    (h1 : ([e1, e2].any fun | .Starred .. => true | _ => false) = false) (h2 : [e1, e2].all (foldedForSure 8) = false) (h3 : [e1, e2].all (constantsAlone 8) = false) :
    swappedStores [.Tuple [.Name x px, .Name y py] kt pt] (.Tuple [e1, e2] k2 pt2) env = pure (some [x, y]) := by
  have kx : env.kindOf x = some .local := hx
  have ky : env.kindOf y = some .local := hy
  unfold swappedStores
  simp only [block_fn hk, kx, ky, h1, h2, h3, hne, hl, List.head?_cons, Option.map_some, Option.getD_some, Expr.pos, beq_self_eq_true, Bool.and_true, if_true, List.filterMap_cons, List.filterMap_nil, List.length_cons, List.length_nil]
  simp
  intro z
  simp only [List.any_cons, List.any_nil, Bool.or_false, Bool.or_eq_false_iff] at h1
  rcases z with z | z
  · cases e1 <;> first | exact absurd z Bool.false_ne_true | exact absurd h1.1.symm Bool.false_ne_true
  · cases e2 <;> first | exact absurd z Bool.false_ne_true | exact absurd h1.2.symm Bool.false_ne_true
theorem s_par {kt k2 : Nat} {pt2 : Pos} (i j : Nat) (hN : S.N.Nodup) (hi : S.N[i]? = some x) (hj : S.N[j]? = some y) (hij : i ≠ j) (hk : S.sc.kind = .function) (hx : S.sc.names.lookup x = some .local) (hy : S.sc.names.lookup y = some .local) (ha : EvR S e1 ta) (hb : EvR S e2 tb)
    (hl : (py.line == px.line) = true) (hne : [x, y].eraseDups.length = 2) (h1 : ([e1, e2].any fun | .Starred .. => true | _ => false) = false) (h2 : [e1, e2].all (foldedForSure 8) = false) (h3 : [e1, e2].all (constantsAlone 8) = false) (ns : NS e1 := by intro _ _; rfl) (ns2 : NS e2 := by intro _ _; rfl) :
    StR S (.Assign [.Tuple [.Name x px, .Name y py] kt pt] (.Tuple [e1, e2] k2 pt2) pos) (kPar i j ta tb) := by
  intro X ok m0 H0 H σ ρ N Rt r h
  refine (ps_par (i := i) (j := j) ok.calm (by rw [ok.N]; exact hN) (by rw [ok.N]; exact hi) (by rw [ok.N]; exact hj) hij (by rw [ok.sc]; exact hx) (by rw [ok.sc]; exact hy) (pa_cons pe_w (pa_cons pe_w pa_nil (ns2 _ _)) (ns _ _)) (sp_names (by rw [ok.sc]; exact hk) (by rw [ok.sc]; exact hx) (by rw [ok.sc]; exact hy) hl hne h1 h2 h3)).to ?_
  refine wE_mono (ha X ok _ H σ ρ _ r.re h) fun v H1 _ ⟨d, p1, e1, q1⟩ => wE_mono (hb X ok _ H1 σ ρ _ (r.re.ex e1) p1) fun v2 H2 _ ⟨d2, p2, e2', q2⟩ => ?_
  have q1 := (r.re.ex e1).rep e2' q1
  obtain ⟨r1, s1⟩ := (r.exx (e1.trans e2')).setP i q1
  have q2 : Rep S.K S.tw (mOf m0 (ρ.set i (.p d))) H2 v2 d2 := q2.mono (fun b o hb hn _ => ⟨hb, fun z => hn (s1 b z)⟩) fun _ h => h
  obtain ⟨r2, s2⟩ := r1.setP j q2
  exact ⟨v, v2, rfl, _, p2, r2, stp_sub (fun b h => s1 b (s2 b h)) (r.stp (e1.trans e2'))⟩
/-- for .. in xs, xs the def's own (it stays as it is through the loop) -/
def ksForO (i : Nat) (g : KG) (body : KS) : KS := fun ρ N Rt => ∃ a ds, ρ[i]? = some (.o a ds) ∧ ∃ I : Nat → PSt → Prop, I 0 ρ ∧ (∀ j ρ', I j ρ' → ρ'[i]? = some (.o a ds)) ∧ (∀ j d ρ', ds[j]? = some d → I j ρ' → g d ρ' fun ρ2 => body ρ2 (I (j + 1)) Rt) ∧ ∀ ρ', I ds.length ρ' → N ρ'
theorem s_forO {g : KG} (i : Nat) (hx : Rdl S i x) (hg : GtR S tg sl g) (hb : SlR S body t) (hf : ∀ env x', foldedSetIterable (.Name x p) env x' = pure x' := by intro _ _; rfl) : StR S (.For tg (.Name x p) body [] pos) (ksForO i g t) := by
  intro X ok m0 H0 H σ ρ N Rt r h
  obtain ⟨a, ds, h1, I, i0, iat, istep, iend⟩ := h
  obtain ⟨hv, nw, vs, hl, rs⟩ := own_at r h1
  refine (ps_for (by rw [ok.xe]; exact PySem.PassesOwn.never) ok.calm (pi_list (hx.pe ok)) pg_w psl_w (hf _)).to ?_
  refine ⟨_, hv, a, rfl, ⟨vs, .of hl⟩, ?_⟩
  rw [ok.K]
  dsimp only
  refine ⟨fun n m σ2 H2 => m = ds.length - n ∧ n ≤ ds.length ∧ ∃ ρ2, I n ρ2 ∧ RS S m0 H0 H2 σ2 ρ2 ∧ Stp (mOf m0 ρ) H (mOf m0 ρ2) H2, ⟨ds.length, rfl, Nat.zero_le _, ρ, i0, r, .refl⟩, ?_⟩
  rintro n m σ2 H2 ⟨rfl, hn, ρ2, hI, r2, st⟩
  obtain ⟨_, nw2, vs2, hl2, rs2⟩ := own_at r2 (iat n ρ2 hI)
  by_cases hlt : n < ds.length
  · have hv2 : n < vs2.length := by rw [rs2.1]; exact hlt
    refine .inr ⟨⟨vs2, vs2[n], .of hl2, by simp [hv2]⟩, fun σ3 H3 => ∃ ρ3, I (n + 1) ρ3 ∧ RS S m0 H0 H3 σ3 ρ3 ∧ Stp (mOf m0 ρ) H (mOf m0 ρ3) H3, fun σ3 H3 ⟨ρ3, a1, a2, a3⟩ => ⟨ds.length - (n + 1), by omega, rfl, hlt, ρ3, a1, a2, a3⟩, fun v H3 yd => ?_⟩
    obtain ⟨rfl, hy⟩ := yd
    have ev := hy vs2 (.of hl2)
    have rv := rs2.2 n v ds[n] ev (List.getElem?_eq_getElem hlt)
    refine wG_mono (hg X ok _ H3 σ2 ρ2 v ds[n] _ r2.re rv (istep n _ ρ2 (List.getElem?_eq_getElem hlt) hI)) fun σ4 H4 ⟨ρ4, p4, e4, q4, _, ps⟩ => ?_
    obtain ⟨r4, sub4⟩ := r2.shrink q4 (r2.ex.trans e4) ps
    have st4 : Stp (mOf m0 ρ) H (mOf m0 ρ4) H4 := (st.trans (r2.stp e4)).trans (stp_sub sub4 .refl)
    exact wL_mono (hb X ok m0 H0 H4 σ4 ρ4 _ Rt r4 p4) ⟨fun σ5 H5 ⟨ρ5, n5, r5, s5⟩ => ⟨ρ5, n5, r5, st4.trans s5⟩, fun _ _ z => z, fun _ _ z => z.elim, fun _ _ z => z.elim⟩
  · have e : n = ds.length := by omega
    subst e
    exact .inl ⟨⟨vs2, .of hl2, by rw [rs2.1]; exact Nat.le_refl _⟩, ρ2, iend ρ2 hI, r2, st⟩
/-- tape[n] = e -/
def kTapeSet (i : Nat) (te tk : KE) : KS := fun ρ N _ => ∃ a, ρ[i]? = some (.p (.tp a)) ∧ te ρ fun d => tk ρ fun z => ∃ (k v : Int), z = .int k ∧ (k = 0 ∨ k = 1) ∧ d = .int v ∧ N ρ
theorem s_tapeSet (i : Nat) (hx : Rdl S i x) (hk : EvR S e2 ta) (he : EvR S e te) (hs : ∀ X, XOk S X → swapsWithSole [.Subscript (.Name x p) e2 p2] e pos.line X.env = pure false := by intro _ _; rfl) (hw : ∀ X, XOk S X → swappedStores [.Subscript (.Name x p) e2 p2] e X.env = pure none := by intro _ _; rfl)
    (ha : ∀ env v, assign (.Subscript (.Name x p) e2 p2) env v = (do
      let ov ← holding [v] (eval (.Name x p) env)
      let iv ← holding [v, ov] (eval e2 env)
      standAt p2
      holding [v, ov, iv] (setItem ov iv v)
      release [v, ov, iv] []) := by intro _ _; rfl) : StR S (.Assign [.Subscript (.Name x p) e2 p2] e pos) (kTapeSet i te ta) := by
  intro X ok m0 H0 H σ ρ N Rt r h
  obtain ⟨a, h1, h3⟩ := h
  refine (ps_asg pe_w (pg_sub (hx.pe ok) pe_w set_list (ha _)) (hs X ok) (hw X ok) (by rfl)).to (wE_mono (he X ok _ H σ ρ _ r.re h3) fun v H1 _ ⟨d, p1, e1, q1⟩ => ?_)
  have r1 := r.exx e1
  obtain ⟨_, hv, vv, rfl, qv⟩ := st_at r1.re h1
  cases qv with
  | tp hw =>
    refine ⟨_, hv, wE_mono (hk X ok _ H1 σ ρ _ r1.re p1) fun v2 H2 _ ⟨z, ⟨k, n, ez, hk01, ed, p2⟩, e2', q2⟩ => ?_⟩
    subst ez ed
    cases q1
    cases q2
    have r2 := r1.exx e2'
    obtain ⟨n0, n1, hT⟩ := (r2.re.tp a hw).2
    have ma := (r2.re.tp a hw).1
    have fin : ∀ j, j < 2 → (∃ a0 a1 : Int, ([V.int n0, V.int n1].set j (V.int n)) = [V.int a0, V.int a1]) → RS S m0 H0 (upd H2 a (.lst ([V.int n0, V.int n1].set j (V.int n)))) σ ρ ∧ Stp (mOf m0 ρ) H2 (mOf m0 ρ) (upd H2 a (.lst ([V.int n0, V.int n1].set j (V.int n)))) := fun j _ ⟨a0, a1, e⟩ => by
      have e3 : Ex S.tw H2 (upd H2 a (.lst ([V.int n0, V.int n1].set j (V.int n)))) := ⟨fun b o hb hn ht => by rw [upd_ne (fun z => hn (by rw [z]; exact hw))]; exact hb, fun b hb hT' => by
        by_cases eb : b = a
        · rw [eb, e]; exact ⟨a0, a1, upd_same⟩
        · obtain ⟨x, y, q⟩ := hT'
          exact ⟨x, y, by rw [upd_ne eb]; exact q⟩, fun P hTb => tab_upd hTb ⟨_, hT, ntbl_lst _, ncode_lst _⟩⟩
      exact ⟨r2.exx e3, r2.stp e3⟩
    rcases hk01 with rfl | rfl
    · obtain ⟨r3, s3⟩ := fin 0 (by decide) ⟨n, n1, rfl⟩
      exact ⟨a, _, 0, 0, rfl, rfl, hT, rfl, _, p2, r3, (r.stp (e1.trans e2')).trans s3⟩
    · obtain ⟨r3, s3⟩ := fin 1 (by decide) ⟨n0, n, rfl⟩
      exact ⟨a, _, 1, 1, rfl, rfl, hT, rfl, _, p2, r3, (r.stp (e1.trans e2')).trans s3⟩
/-! the law's own tape -/
inductive NoTp : D → Prop
  | non : NoTp .non
  | bl (b : Bool) : NoTp (.bl b)
  | int (i : Int) : NoTp (.int i)
  | str (x : Str) : NoTp (.str x)
  | scr (ns : List Int) : NoTp (.scr ns)
  | tup {ds : List D} (h : ∀ d ∈ ds, NoTp d) : NoTp (.tup ds)
  | lst {ds : List D} (h : ∀ d ∈ ds, NoTp d) : NoTp (.lst ds)
theorem Rep.untape {K : PySem.W.Frag} {w w' m : AD} {H : Hp} {v : V} {d : D} (n : NoTp d) (r : Rep K w' m H v d) : Rep K w m H v d := by
  induction n generalizing v with
  | non => cases r; exact .non
  | bl b => cases r; exact .bl b
  | int i => cases r; exact .int i
  | str x => cases r; exact .str x
  | scr ns => cases r with
    | scr h => exact .scr h
  | tup h ih => cases r with
    | tup h1 h2 h3 h4 => exact .tup h1 h2 h3 fun i v d a b => ih d (List.mem_of_getElem? b) (h4 i v d a b)
  | lst h ih => cases r with
    | lst h1 h2 h3 h4 => exact .lst h1 h2 h3 fun i v d a b => ih d (List.mem_of_getElem? b) (h4 i v d a b)
def Sta.tape (S : Sta) (a : Addr) : Sta := { S with tw := fun b => S.tw b ∨ b = a }
/-- behind here the list in slot i is the tape; what holds no tape stays known -/
def kTape (i : Nat) (t : KS) : KS := fun ρ N Rt => ∃ a n0 n1, ρ[i]? = some (.o a [.int n0, .int n1]) ∧ (∀ (j : Nat) (s : Slot), j ≠ i → ρ[j]? = some s → s.addrs = []) ∧
  t (ρ.set i (.p (.tp a))) (fun ρ' => ∃ ρ2 : PSt, ρ2.length = ρ'.length ∧ (∀ (j : Nat) (s : Slot), ρ2[j]? = some s → s = .any ∨ ∃ d, s = .p d ∧ NoTp d ∧ ρ'[j]? = some (.p d)) ∧ N ρ2) fun d => NoTp d ∧ Rt d
theorem l_tape (i : Nat) (h : ∀ a, SlR (S.tape a) rest t) : SlR S rest (kTape i t) := by
  intro X ok m0 H0 H σ ρ N Rt r q
  obtain ⟨a, n0, n1, h1, hno, h2⟩ := q
  obtain ⟨hv, nw, vs, hl, rs⟩ := own_at r h1
  have eT : vs = [V.int n0, V.int n1] := rep_ints (ns := [n0, n1]) rs rfl
  subst eT
  have ok' : XOk (S.tape a) X := ⟨ok.prog, ok.w, ok.K, ok.mg, ok.base, ok.N, ok.sc, ok.fn, ok.calm, ok.room, ok.xe, ok.ev⟩
  have hi : i < ρ.length := (List.getElem?_eq_some_iff.mp h1).1
  have ma : mOf m0 ρ a := .inr ⟨i, _, h1, List.mem_cons_self ..⟩
  have fa : Fr0 H0 a := r.fr i _ a h1 (List.mem_cons_self ..)
  have noa : ∀ (j : Nat) (s : Slot), (ρ.set i (.p (.tp a)))[j]? = some s → s.addrs = [] := fun j s hs => by
    rcases get_set hs with ⟨_, _, ez⟩ | ⟨n, hs⟩
    · rw [ez]; rfl
    · exact hno j s (fun z => n z.symm) hs
  have back : ∀ b, mOf m0 ρ b → m0 b ∨ b = a := fun b hb => by
    rcases hb with hb | ⟨j, s, g1, g2⟩
    · exact .inl hb
    · by_cases e : j = i
      · subst e
        rw [h1] at g1; cases g1
        exact .inr (List.mem_singleton.mp g2)
      · rw [hno j s e g1] at g2; simp at g2
  have only0 : ∀ {m : AD} {ρ' : PSt}, (∀ (j : Nat) (s : Slot), ρ'[j]? = some s → s.addrs = []) → ∀ b, mOf m ρ' b → m b := fun {m ρ'} hn b hb => by
    rcases hb with hb | ⟨j, s, g1, g2⟩
    · exact hb
    · rw [hn j s g1] at g2; simp at g2
  have r' : RS (S.tape a) (plus m0 a) H H σ (ρ.set i (.p (.tp a))) := by
    refine ⟨⟨by rw [List.length_set, r.re.len], fun j x s g1 g2 => ?_, fun b hb => ?_, fun b hb => ⟨.inl ?_, ?_⟩, r.re.tb⟩, fun j k s t b _ g1 _ g3 => by rw [noa j s g1] at g3; simp at g3, fun j s b g1 g2 => by rw [noa j s g1] at g2; simp at g2, .refl, fun b hb => ⟨?_, ?_⟩, fun b hb => ?_⟩
    · rcases get_set g2 with ⟨rfl, _, ez⟩ | ⟨n, g2'⟩
      · rw [hv] at g1; cases g1
        rw [ez]
        exact ⟨_, rfl, .tp (.inr rfl)⟩
      · have q := r.re.rel j x s g1 g2'
        have hs := hno j s (fun z => n z.symm) g2'
        cases s with
        | any => trivial
        | p d =>
          obtain ⟨v, e, q⟩ := q
          exact ⟨v, e, q.mono (fun b o hb hn _ => ⟨hb, fun z => hn ((only0 noa b z).elim .inl fun z => by rw [z]; exact ma)⟩) fun _ h => .inl h⟩
        | o _ _ => simp [Slot.addrs] at hs
        | oo _ _ _ => simp [Slot.addrs] at hs
        | dk _ _ => simp [Slot.addrs] at hs
        | dt _ _ => simp [Slot.addrs] at hs
    · exact r.re.al b ((only0 noa b hb).elim .inl fun z => by rw [z]; exact ma)
    · exact hb.elim (fun z => .inl (r.t0 b z).1) .inr
    · exact hb.elim (fun z => (r.re.tp b z).2) fun z => by rw [z]; exact ⟨n0, n1, hl⟩
    · exact hb.elim (fun z => .inl (r.t0 b z).1) .inr
    · exact hb.elim (fun z => (r.re.tp b z).2) fun z => by rw [z]; exact ⟨n0, n1, hl⟩
    · exact r.re.al b (hb.elim .inl fun z => by rw [z]; exact ma)
  have exs : ∀ {H' : Hp}, Ex (S.tape a).tw H H' → Ex S.tw H0 H' := fun {H'} e => ⟨fun b o hb hn ht => e.keep b o (r.ex.keep b o hb hn ht) (fun z => z.elim hn fun z => fa o (by rw [← z]; exact hb) ht) ht, fun b hb hT => e.tape b (.inl hb) (r.ex.tape b hb hT), fun P hT => e.tab P (r.ex.tab P hT)⟩
  refine wL_mono (h a X ok' _ H H σ _ _ _ r' h2) ⟨fun σ1 H1 ⟨ρ1, ⟨ρ2, l2, f2, n2⟩, r1, s1⟩ => ⟨ρ2, n2, ?_, ?_⟩, fun v H1 ⟨d, ⟨nd, p⟩, e, q⟩ => ⟨d, p, exs e, (q.untape nd).mono (fun b o hb hn _ => ⟨hb, fun z => hn (.inl z)⟩) fun _ h => h⟩, fun _ _ z => z, fun _ _ z => z⟩
  · have no2 : ∀ (j : Nat) (s : Slot), ρ2[j]? = some s → s.addrs = [] := fun j s hs => by
      rcases f2 j s hs with rfl | ⟨d, rfl, _⟩ <;> rfl
    refine ⟨⟨by rw [r1.re.len, l2], fun j x s g1 g2 => ?_, fun b hb => r1.re.al b (.inl (.inl (only0 no2 b hb))), fun b hb => ⟨.inl (r.t0 b hb).1, (r1.re.tp b (.inl hb)).2⟩, r1.re.tb⟩, fun j k s t b _ g1 _ g3 => by rw [no2 j s g1] at g3; simp at g3, fun j s b g1 g2 => by rw [no2 j s g1] at g2; simp at g2, exs r1.ex, r.t0, r.a0⟩
    rcases f2 j s g2 with rfl | ⟨d, rfl, nd, g3⟩
    · trivial
    · obtain ⟨v, e, q⟩ := r1.re.rel j x _ g1 g3
      exact ⟨v, e, (q.untape nd).mono (fun b o hb hn _ => ⟨hb, fun z => hn (.inl (.inl (only0 no2 b z)))⟩) fun _ h => h⟩
  · intro b o hb hn ht
    have no2 : ∀ (j : Nat) (s : Slot), ρ2[j]? = some s → s.addrs = [] := fun j s hs => by
      rcases f2 j s hs with rfl | ⟨d, rfl, _⟩ <;> rfl
    exact ⟨r1.ex.keep b o hb (fun z => hn (z.elim (fun z => .inl (r.t0 b z).1) fun z => by rw [z]; exact ma)) ht, fun z => hn (.inl (only0 no2 b z))⟩
/-! list(range(n)) -/
def kLstR (ta : KE) : KF := fun ρ P => ta ρ fun d => ∃ j : Int, d = .int j ∧ 0 ≤ j ∧ j ≤ 1000000 ∧ P (rngD 0 j)
theorem r_lstR (hg : Glo S "list") (hm : S.mg "list" = none) (hg2 : Glo S "range") (hm2 : S.mg "range" = none) (ha : EvR S e ta) (ns : NS e := by intro _ _; rfl) (ns2 : NS (.Call (.Name "range" p2) [e] [] p3) := by intro _ _; rfl) : EvF S (.Call (.Name "list" p) [.Call (.Name "range" p2) [e] [] p3] [] pos) (kLstR ta) := by
  intro X ok m H σ ρ P r h
  refine (pe_listRg ok.calm (hg.gl ok) (by rw [ok.mg]; exact hm) (prg_1 (hg2.gl ok) (by rw [ok.mg]; exact hm2) pe_w (ns _ _)) (ns2 _ _)).to ?_
  refine wE_mono (ha X ok m H σ ρ _ r h) fun v H1 _ ⟨d, ⟨j, ed, h0, h1, p⟩, e1, q1⟩ => ?_
  subst ed
  cases q1
  refine ⟨j, rfl, .of_le (by omega) (by omega) (by omega) (by omega), fun pp hp => ⟨_, p, e1.more hp, pp, _, rfl, (r.fr e1 hp).1, (r.fr e1 hp).2, upd_same, reps_plus hp ⟨by simp [rgV, rngD], fun i v d g1 g2 => ?_⟩⟩⟩
  unfold rgV at g1
  unfold rngD at g2
  rw [List.getElem?_map] at g1 g2
  cases hr : (List.range (j - 0).toNat)[i]? with
  | none => rw [hr] at g1; cases g1
  | some n =>
    rw [hr] at g1 g2
    cases g1; cases g2
    exact .int _
/-- xs[a], xs[b] = (xs[b], xs[a]) -/
def kSwap (i ja jb : Nat) : KS := fun ρ N _ => ∃ a ds na nb da db, ρ[i]? = some (.o a ds) ∧ ρ[ja]? = some (.p (.int (na : Nat))) ∧ ρ[jb]? = some (.p (.int (nb : Nat))) ∧ ds[na]? = some da ∧ ds[nb]? = some db ∧ N (ρ.set i (.o a ((ds.set na db).set nb da)))
theorem ixN_nat {n j : Nat} (h : j < n) : ixN n (j : Int) = some j := by
  unfold ixN
  rw [if_pos (by omega), if_pos (by omega)]; simp
theorem s_swap {k1 k2 : Nat} {q1 q2 q3 q4 q5 q6 : Pos} (i ja jb : Nat) (hx : Rdl S i x) (hy : Rdl S ja y) (hz : Rdl S jb name) (hs : ∀ X, XOk S X → swapsWithSole [.Tuple [.Subscript (.Name x p) (.Name y p2) p3, .Subscript (.Name x p4) (.Name name px) py] k1 pt] (.Tuple [.Subscript (.Name x q1) (.Name name q2) q3, .Subscript (.Name x q4) (.Name y q5) q6] k2 apos) pos.line X.env = pure false := by intro _ _; rfl)
    (hw : ∀ env, swappedStores [.Tuple [.Subscript (.Name x p) (.Name y p2) p3, .Subscript (.Name x p4) (.Name name px) py] k1 pt] (.Tuple [.Subscript (.Name x q1) (.Name name q2) q3, .Subscript (.Name x q4) (.Name y q5) q6] k2 apos) env = pure none := by intro env; simp [swappedStores]) :
    StR S (.Assign [.Tuple [.Subscript (.Name x p) (.Name y p2) p3, .Subscript (.Name x p4) (.Name name px) py] k1 pt] (.Tuple [.Subscript (.Name x q1) (.Name name q2) q3, .Subscript (.Name x q4) (.Name y q5) q6] k2 apos) pos) (kSwap i ja jb) := by
  intro X ok m0 H0 H σ ρ N Rt r h
  obtain ⟨a, ds, na, nb, da, db, h1, h2, h3, h4, h5, h6⟩ := h
  obtain ⟨hv, nw, vs, hl, rs⟩ := own_at r h1
  obtain ⟨_, ga, va, rfl, qa⟩ := st_at r.re h2
  obtain ⟨_, gb, vb, rfl, qb⟩ := st_at r.re h3
  cases qa
  cases qb
  obtain ⟨za, a1, a2⟩ := rs.get h4
  obtain ⟨zb, b1, b2⟩ := rs.get h5
  have hna : na < vs.length := (List.getElem?_eq_some_iff.mp a1).1
  have hnb : nb < vs.length := (List.getElem?_eq_some_iff.mp b1).1
  refine (ps_asg (pe_tup (pa_cons (pe_ix ix_list (hx.pe ok) (hz.pe ok) (fun _ _ => rfl)) (pa_cons (pe_ix ix_list (hx.pe ok) (hy.pe ok) (fun _ _ => rfl)) pa_nil))) (pg_tup (n := 2) ok.calm (pgs_cons (pg_sub (hx.pe ok) (hy.pe ok) set_list (by intro _; rfl)) (pgs_cons (pg_sub (hx.pe ok) (hz.pe ok) set_list (by intro _; rfl)) pgs_nil)))
    (hs X ok) (hw _) (by rfl)).to ?_
  rw [ok.K]
  refine ⟨_, hv, _, gb, a, vs, _, zb, rfl, rfl, .of hl, atI_nat b1, _, hv, _, ga, a, vs, _, za, rfl, rfl, .of hl, atI_nat a1, by show 2 ≤ sizeLine; decide, fun tp htp => ?_⟩
  have r1 := r.exx (Ex.new (o := .tup [zb, za]) htp)
  obtain ⟨hv1, _, vs1, hl1, rs1⟩ := own_at r1 h1
  have e1 : vs1 = vs := by
    have : (upd H tp (.tup [zb, za])) a = some (.lst vs) := by rw [upd_ne (ne_of_none hl htp)]; exact hl
    rw [hl1] at this; cases this; rfl
  subst e1
  have q2 : Reps S.K S.tw (mOf m0 ρ) (upd H tp (.tup [zb, za])) ((vs1.set na zb).set nb za) ((ds.set na db).set nb da) := (rs1.set (r.re.rep (.new htp) b2) na).set (r.re.rep (.new htp) a2) nb
  obtain ⟨r2, s2⟩ := r1.mutL h1 q2
  refine ⟨tp, [zb, za], rfl, .of upd_same, rfl, zb, [za], rfl, _, hv, _, ga, a, vs1, _, na, rfl, rfl, hl1, ixN_nat hna, za, [], rfl, _, hv, _, gb, a, _, _, nb, rfl, rfl, upd_same, ixN_nat (by rw [List.length_set]; exact hnb), rfl, ?_⟩
  rw [upd_upd]
  exact ⟨_, h6, r2, (r.stp (.new htp)).trans s2⟩
end
end U
set_option Elab.async false
set_option linter.all false
set_option maxRecDepth 100000
set_option maxHeartbeats 1000000
/-! the rules in short -/
namespace U
open PySem PySem.Spec PyProof.Rows L2
section
variable {S : Sta} {x : Str} {pos : Pos} {e : Expr} {t : KE} {tf : KF}
theorem v (i : Nat) (hN : S.N[i]? = some x := by rfl) (hv : Vis S.sc x := by first | exact Or.inl rfl | exact Or.inr (Or.inl rfl) | exact Or.inr (Or.inr rfl)) (hd : (x == ("__debug__" : Str)) = false := by decide) (hcd : (x == ("__classdict__" : Str)) = false := by decide) : EvR S (.Name x pos) (kVar i) := r_var i hN hv hd hcd
theorem vb (i : Nat) (hN : S.N[i]? = some x := by rfl) (hv : Vis S.sc x := by first | exact Or.inl rfl | exact Or.inr (Or.inl rfl) | exact Or.inr (Or.inr rfl)) (hd : (x == ("__debug__" : Str)) = false := by decide) (hcd : (x == ("__classdict__" : Str)) = false := by decide) : EvB S (.Name x pos) (kVarB i) := r_varB i hN hv hd hcd
theorem rdl (i : Nat) (hN : S.N[i]? = some x := by rfl) (hv : Vis S.sc x := by first | exact Or.inl rfl | exact Or.inr (Or.inl rfl) | exact Or.inr (Or.inr rfl)) (hd : (x == ("__debug__" : Str)) = false := by decide) (hcd : (x == ("__classdict__" : Str)) = false := by decide) : Rdl S i x := ⟨hN, hv, hd, hcd⟩
theorem gn (i : Nat) (hN : S.N.Nodup) (hi : S.N[i]? = some x := by rfl) (hx : Loc2 S x := by first | exact Or.inl rfl | exact Or.inr ⟨rfl, rfl⟩) : GtR S (.Name x pos) [i] (gkName i) := g_name i hN hi hx
end
/-- what stands in the module's names -/
structure Tx (K : PySem.W.Frag) (mg : Str → Option Value) : Prop where
  b_len : mg "len" = none
  b_max : mg "max" = none
  b_min : mg "min" = none
  b_range : mg "range" = none
  b_enumerate : mg "enumerate" = none
  b_isinstance : mg "isinstance" = none
  b_int : mg "int" = none
  b_bool : mg "bool" = none
  b_list : mg "list" = none
  b_tuple : mg "tuple" = none
  b_set : mg "set" = none
  b_sorted : mg "sorted" = none
  b_sum : mg "sum" = none
  b_all : mg "all" = none
  b_any : mg "any" = none
  b_zip : mg "zip" = none
  b_abs : mg "abs" = none
  t_PLACE : ∃ t, mg "PLACE" = some (.str "place" t)
  t_SET : ∃ t, mg "SET" = some (.str "set" t)
  t_TREE : ∃ t, mg "TREE" = some (.str "tree" t)
  t_OPEN : ∃ t, mg "OPEN" = some (.str "open" t)
  t_RING : ∃ t, mg "RING" = some (.str "ring" t)
  t_HUE : ∃ t, mg "HUE" = some (.str "hue" t)
  t_DROP : ∃ t, mg "DROP" = some (.str "drop" t)
  t_MOVE : ∃ t, mg "MOVE" = some (.str "move" t)
  t_HUEING : ∃ t, mg "HUEING" = some (.str "hueing" t)
  t_NONE : ∃ t, mg "NONE" = some (.str "none" t)
theorem gs {S : Sta} {x y : Str} {pos : Pos} (h : ∃ t, S.mg x = some (.str y t)) (hg : Glo S x := by rfl) (hd : (x == ("__debug__" : Str)) = false := by decide) : EvR S (.Name x pos) (kC (.str y)) := by
  obtain ⟨t, h⟩ := h
  exact r_gstr hg h hd
end U
set_option Elab.async false
set_option linter.all false
set_option maxRecDepth 100000
set_option maxHeartbeats 1000000
/-! lists of lists of a def's own -/
namespace U
open PySem PySem.Spec PyProof.Rows L2
section
variable {S : Sta} {e e1 e2 c tg o : Expr} {pos pos' p p2 p3 p4 px py pt apos cpos kpos : Pos} {te ta tb tk : KE} {x y name f g : Str} {i j k : Nat}
theorem own_gen {m0 : AD} {H0 H H1 : Hp} {σ : L2.St} {ρ : PSt} {t : Slot} {v : V} (r : RS S m0 H0 H σ ρ) (e1 : Ex S.tw H H1) (f : ∀ a ∈ t.addrs, Fr0 H a ∧ ¬ mOf m0 ρ a) (al : ∀ a ∈ t.addrs, Al H1 a)
    (rel : ∀ m' : AD, (∀ b, m' b → mOf m0 ρ b ∨ b ∈ t.addrs) → (∀ a ∈ t.addrs, m' a) → SlotRel S.K S.tw m' H1 (some v) t) (i : Nat) :
    RS S m0 H0 H1 (σ.set i (some v)) (ρ.set i t) ∧ Stp (mOf m0 ρ) H (mOf m0 (ρ.set i t)) H1 := by
  have back : ∀ b, mOf m0 (ρ.set i t) b → mOf m0 ρ b ∨ b ∈ t.addrs := fun b hb => by
    rcases hb with hb | ⟨j, u, h1, h2⟩
    · exact .inl (.inl hb)
    · rcases get_set h1 with ⟨_, _, ez⟩ | ⟨_, h1⟩
      · rw [ez] at h2; exact .inr h2
      · exact .inl (.inr ⟨j, u, h1, h2⟩)
  have st : Stp (mOf m0 ρ) H (mOf m0 (ρ.set i t)) H1 := fun b u hb hn ht => by
    obtain ⟨h1, h2⟩ := r.stp e1 b u hb hn ht
    exact ⟨h1, fun z => (back b z).elim h2 fun z => (f b z).1 u hb ht⟩
  refine ⟨⟨⟨by rw [List.length_set, List.length_set, r.re.len], fun j x u h1 h2 => ?_, fun a h => ?_, fun a h => ⟨.inl (r.t0 a h).1, e1.tape a h (r.re.tp a h).2⟩, e1.tab _ r.re.tb⟩, fun j k u w' a n h1 h2 h3 h4 => ?_, fun j u a h1 h2 => ?_, r.ex.trans e1, r.t0, r.a0⟩, st⟩
  · rcases get_set h2 with ⟨rfl, hl, ez⟩ | ⟨n, h2'⟩
    · rw [List.getElem?_set_self (by rw [r.re.len]; exact hl)] at h1
      cases h1
      rw [ez] at h2 ⊢
      exact rel _ back fun a ha => .inr ⟨i, t, h2, ha⟩
    · rw [List.getElem?_set_ne n] at h1
      exact (r.re.rel j x u h1 h2').mono (fun b o hb hn ht => st b o hb hn ht) fun a ha hm hn => ⟨fun u' hu ht => e1.keep a u' hu hn ht, .inr ⟨j, u, h2, ha⟩⟩
  · rcases back a h with h | h
    · exact (r.re.al a h).ex (fun z => (r.re.tp a z).2) e1
    · exact al a h
  · rcases get_set h1 with ⟨rfl, _, ez⟩ | ⟨n1, h1⟩
    · rcases get_set h2 with ⟨rfl, _, _⟩ | ⟨n2, h2⟩
      · exact n rfl
      · rw [ez] at h3
        exact (f a h3).2 (.inr ⟨k, w', h2, h4⟩)
    · rcases get_set h2 with ⟨rfl, _, ez⟩ | ⟨n2, h2⟩
      · rw [ez] at h4
        exact (f a h4).2 (.inr ⟨j, u, h1, h3⟩)
      · exact r.sep j k u w' a n h1 h2 h3 h4
  · rcases get_set h1 with ⟨rfl, _, ez⟩ | ⟨n1, h1⟩
    · rw [ez] at h2
      exact (f a h2).1.ex r.ex fun b hb => (r.t0 b hb).2
    · exact r.fr j u a h1 h2
/-- name = [[] for x in ..] -/
def kOoNew (i : Nat) (it : KF) : KS := fun ρ N _ => it ρ fun ds => ∀ a bs, bs.length = ds.length → N (ρ.set i (.oo a bs (List.replicate ds.length [])))
theorem s_ooNew {iter : Expr} {scope : Scope} {it : KF} {own : List (Str × Nat)} (i j : Nat) (hN : S.N.Nodup) (hi : S.N[i]? = some y) (hy : S.sc.names.lookup y = some .local) (hk : S.sc.kind = .function) (hb : blkC S.N S.sc scope own = true) (hit : ItR S (.Name x px) iter it) (hj : S.N[j]? = some x) (hx : Loc2 (S.blk scope) x) (hs : j ∈ own.map (·.2))
    (hl : (pos'.line == p.line) = true) (ha : (scope.names.any fun (n, k) => n == y && (k == .local || k == .cell)) = false) (hf : ∀ env x, foldedSetIterable iter env x = pure x := by intro _ _; rfl) :
    StR S (.Assign [.Name y pos'] (.ListComp (.List [] p2) [⟨.Name x px, iter, [], 0⟩] scope p) pos) (kOoNew i it) := by
  intro X ok m0 H0 H σ ρ N Rt r h
  refine (ps_setLc (i := i) (wi := wI X (.Name x px) iter) (g := gName j) (tt := tYes) (te := tLst tNil) ok.calm (by rw [ok.N]; exact hN) (by rw [ok.N]; exact hi) (by rw [ok.sc]; exact hy) (sw_true (by rw [ok.sc]; exact hk) (by rw [ok.sc]; exact hy) hl ha) pi_w (blkOk_by (by rw [ok.N, ok.sc]; exact hb))
    (fun s H C cl fp => pg_name (by show X.N.Nodup; rw [ok.N]; exact hN) (by show X.N[j]? = _; rw [ok.N]; exact hj) (by show Loc (relS scope X.env.scope) x; rw [ok.sc]; exact hx.elim .inl fun z => .inr z.1) (by show ((scope.names.lookup x == some .cell) = true) ∨ (relS scope X.env.scope).names.lookup x = some .local; rw [ok.sc]; exact hx.elim .inr fun z => .inl z.2))
    (fun s H C cl fp => pts_nil) (fun s H C cl fp => pe_lst pa_nil) (hf _)).to ?_
  refine wI_mono (hit X ok _ H σ ρ _ r.re h) fun J H1 ⟨ds, p1, e1, io⟩ => fun D0 hD => ?_
  have r1 := r.exx e1
  have nm : ¬ mOf m0 ρ D0 := r1.re.fresh hD
  have nw : ∀ {b : Addr}, Fr0 H1 b → ¬ S.tw b := fun {b} hb z => by
    obtain ⟨i', j', q⟩ := (r1.re.tp b z).2
    exact hb _ q (ntbl_lst _)
  refine lc_it io.walk (fun n H2 => ∃ bs : List Addr, bs.length = n ∧ bs.Nodup ∧ D0 ∉ bs ∧ H2 D0 = some (.lst (bs.map V.ref)) ∧ (∀ b ∈ bs, H2 b = some (.lst []) ∧ Fr0 H1 b) ∧ Ex S.tw H1 H2) ⟨[], rfl, List.nodup_nil, by simp, upd_same, by simp, .new hD⟩
    (fun n H2 _ ⟨_, _, _, _, _, _, e⟩ b o hb hn ht => e.keep b o hb (r1.re.nw hn) ht) (fun n x H2 H3 hn ⟨bs, b1, b2, b3, b4, b5, e2⟩ yd => ?_) fun H2 ⟨bs, b1, b2, b3, b4, b5, e2⟩ => ?_
  · obtain ⟨d, hd, e3, _⟩ := yd
    have nwD := nw (fr0_none hD)
    refine ⟨?_, Nat.zero_le _, fun q hq => ?_⟩
    · have hjl : j ∈ own.map (·.2) := hs
      have s1 : SOut [j] (wipe σ (own.map (·.2))) ((wipe σ (own.map (·.2))).set j (some x)) := ⟨by rw [List.length_set], fun k hk => by
        rw [List.getElem?_set_ne]
        intro e
        exact hk (by rw [e]; exact List.mem_cons_self ..)⟩
      refine (s1.wipe (fun k hk => by rw [List.mem_singleton.mp hk]; exact hjl)).trans ?_
      refine List.ext_getElem? fun k => ?_
      by_cases hk : k ∈ own.map (·.2)
      · by_cases hl2 : k < σ.length
        · rw [wipe_at hk (by rw [wipe_length]; exact hl2), wipe_at hk hl2]
        · rw [List.getElem?_eq_none (by rw [wipe_length, wipe_length]; omega), List.getElem?_eq_none (by rw [wipe_length]; omega)]
      · rw [wipe_out' hk]
    · have fq : Fr0 H1 q := (fr0_none hq).ex (e2.trans e3) fun b hb => (r1.re.tp b hb).2
      have h3D : H3 D0 = some (.lst (bs.map V.ref)) := e3.keep D0 _ b4 nwD (ntbl_lst _)
      have nqD : D0 ≠ q := ne_of_none h3D hq
      have h3b : ∀ b ∈ bs, H3 b = some (.lst []) := fun b hb => e3.keep b _ (b5 b hb).1 (nw (b5 b hb).2) (ntbl_lst _)
      have nqb : ∀ b ∈ bs, b ≠ q := fun b hb => ne_of_none (h3b b hb) hq
      have e4 : Ex S.tw H1 (upd H3 q (.lst [])) := (e2.trans e3).more hq
      have hD4 : (upd H3 q (.lst [])) D0 = some (.lst (bs.map V.ref)) := by rw [upd_ne nqD]; exact h3D
      refine ⟨bs.map V.ref, hD4, ?_, bs ++ [q], by rw [List.length_append, b1]; rfl, ?_, ?_, ?_, fun b hb => ?_, ?_⟩
      · rw [List.length_map, b1]
        exact Nat.lt_of_lt_of_le hn io.sz
      · rw [List.nodup_append]
        exact ⟨b2, by simp, fun a ha b hb e => nqb a ha (by rw [e, List.mem_singleton.mp hb])⟩
      · intro z
        rcases List.mem_append.mp z with z | z
        · exact b3 z
        · exact nqD (List.mem_singleton.mp z)
      · rw [upd_same, List.map_append]; rfl
      · have nbD : b ≠ D0 := fun e => by
          rcases List.mem_append.mp hb with z | z
          · exact b3 (by rw [← e]; exact z)
          · exact nqD (by rw [← e]; exact List.mem_singleton.mp z)
        rw [upd_ne nbD]
        rcases List.mem_append.mp hb with z | z
        · rw [upd_ne (nqb b z)]
          exact ⟨h3b b z, (b5 b z).2⟩
        · rw [List.mem_singleton.mp z]
          exact ⟨upd_same, fq⟩
      · refine ⟨fun b o hb hn ht => ?_, fun b hb hT => ?_, fun P hT => ?_⟩
        · rw [upd_ne (fun z => by subst z; rw [hD] at hb; cases hb)]
          exact e4.keep b o hb hn ht
        · obtain ⟨i', j', z⟩ := e4.tape b hb hT
          exact ⟨i', j', by rw [upd_ne (fun z => nwD (by rw [← z]; exact hb))]; exact z⟩
        · exact tab_upd (e4.tab P hT) ⟨_, hD4, ntbl_lst _, ncode_lst _⟩
  · have e12 := e1.trans e2
    have fr : ∀ {b : Addr}, Fr0 H1 b → Fr0 H b ∧ ¬ mOf m0 ρ b := fun {b} hb => ⟨hb.ex e1 fun b hb => (r.re.tp b hb).2, fun z => by
      obtain ⟨o, ho, ht, _⟩ := r1.re.al b z
      exact hb o ho ht⟩
    have key := own_gen (v := .ref D0) (t := .oo D0 bs (List.replicate ds.length [])) r e12 (fun a ha => by
        rcases List.mem_cons.mp ha with z | z
        · rw [z]; exact fr (fr0_none hD)
        · exact fr (b5 a z).2) (fun a ha => by
        rcases List.mem_cons.mp ha with z | z
        · rw [z]; exact .lst b4
        · exact .lst (b5 a z).1) (fun m' _ hm => by
        refine ⟨rfl, hm D0 (List.mem_cons_self ..), nw (fr0_none hD), b4, by rw [b1, List.length_replicate], b2, b3, fun n b ds' h1 h2 => ?_⟩
        have hb := List.mem_of_getElem? h1
        have e := (List.mem_replicate.mp (List.mem_of_getElem? h2)).2
        subst e
        exact ⟨hm b (List.mem_cons_of_mem _ hb), nw (b5 b hb).2, [], (b5 b hb).1, .nil⟩) i
    exact ⟨_, p1 D0 bs b1, key.1, key.2⟩
/-- xs[k].append(e) -/
def kOoApp (i : Nat) (tk te : KE) : KS := fun ρ N _ => ∃ a bs dss, ρ[i]? = some (.oo a bs dss) ∧ tk ρ fun z => ∃ (k : Nat) (ds : List D), z = .int (k : Nat) ∧ dss[k]? = some ds ∧ ds.length < 1000000 ∧ te ρ fun d => N (ρ.set i (.oo a bs (dss.set k (ds ++ [d]))))
theorem s_ooApp (i : Nat) (hx : Rdl S i x) (hk : EvR S e1 tk) (he : EvR S e2 te) (mb : MB (.Subscript (.Name x p) e1 p2) "append" apos [e2] cpos) (hix : PlainIx e1 := by intro _ _; rfl) (ns : NS e2 := by intro _ _; rfl) (hs : ∀ X, XOk S X → swapsWith (.Call (.Attribute (.Subscript (.Name x p) e1 p2) "append" apos) [e2] [] cpos) none pos.line X.env = pure false := by intro _ _; rfl) :
    StR S (.Expr (.Call (.Attribute (.Subscript (.Name x p) e1 p2) "append" apos) [e2] [] cpos) pos) (kOoApp i tk te) := by
  intro X ok m0 H0 H σ ρ N Rt r h
  obtain ⟨a, bs, dss, h1, h2⟩ := h
  obtain ⟨z0, hv, q0⟩ := st_at r.re h1
  have ez : z0 = some (.ref a) := q0.1
  subst ez
  refine (ps_expr (pe_bm PySem.F.plainAttrs_list PySem.F.slot_list_append PySem.F.type_list_append mt_append (pe_ix ix_list (hx.pe ok) pe_w hix) (pa_cons pe_w pa_nil (ns _ _)) (mb.base _) (mb.few _) mb.line (ns _ _) (by rfl)) (hs X ok)).to ?_
  rw [ok.K]
  refine ⟨_, hv, wE_mono (hk X ok _ H σ ρ _ r.re h2) fun v H1 _ ⟨z, ⟨k, ds, ez, hd, hl, p1⟩, e1', q1⟩ => ?_⟩
  subst ez
  cases q1
  have r1 := r.exx e1'
  obtain ⟨_, _, _, ha1, hlen, hnd, hna, hb1⟩ := r1.re.rel i _ _ hv h1
  have hkb : k < bs.length := by rw [hlen]; exact (List.getElem?_eq_some_iff.mp hd).1
  obtain ⟨_, _, vs1, g1, _⟩ := hb1 k bs[k] ds (List.getElem?_eq_getElem hkb) hd
  refine ⟨a, bs.map V.ref, _, .ref bs[k], rfl, rfl, .of ha1, atI_nat (by rw [List.getElem?_map, List.getElem?_eq_getElem hkb]; rfl), .inl ⟨rfl, vs1, .of g1⟩, ?_⟩
  refine wE_mono (he X ok _ H1 σ ρ _ r1.re p1) fun v H2 _ ⟨d, p2, e2', q2⟩ => ?_
  have r2 := r1.exx e2'
  obtain ⟨_, ma, nwa, ha2, _, _, _, hb2⟩ := r2.re.rel i _ _ hv h1
  obtain ⟨mb2, nwb, vs2, g2, rs2⟩ := hb2 k bs[k] ds (List.getElem?_eq_getElem hkb) hd
  have bin : bs[k] ∈ (Slot.oo a bs dss).addrs := List.mem_cons_of_mem _ (List.getElem_mem hkb)
  have nab : a ≠ bs[k] := fun e => hna (by rw [e]; exact List.getElem_mem hkb)
  have key := r2.mut (t := .oo a bs (dss.set k (ds ++ [d]))) (o := .lst (vs2 ++ [v])) h1 bin nwb rfl (.lst upd_same) (fun x0 hx0 => by
    rw [hv] at hx0; cases hx0
    refine ⟨rfl, ma, nwa, by rw [upd_ne nab]; exact ha2, by rw [List.length_set]; exact hlen, hnd, hna, fun n b ds' f1 f2 => ?_⟩
    have up : ∀ {vs : List V} {ds : List D}, Reps S.K S.tw (mOf m0 ρ) H2 vs ds → Reps S.K S.tw (mOf m0 ρ) (upd H2 bs[k] (.lst (vs2 ++ [v]))) vs ds := fun q => q.mono (fun b o hb hn _ => ⟨by rw [upd_ne (fun z => hn (by rw [z]; exact mb2))]; exact hb, hn⟩) fun _ h => h
    by_cases hn : k = n
    · subst hn
      rw [List.getElem?_eq_getElem hkb] at f1
      cases f1
      rw [List.getElem?_set_self (List.getElem?_eq_some_iff.mp hd).1] at f2
      cases f2
      exact ⟨mb2, nwb, _, upd_same, up (rs2.snoc q2)⟩
    · rw [List.getElem?_set_ne hn] at f2
      obtain ⟨t1, t2, vs3, t3, t4⟩ := hb2 n b ds' f1 f2
      refine ⟨t1, t2, vs3, ?_, up t4⟩
      rw [upd_ne]
      · exact t3
      · intro e
        have hnb : n < bs.length := (List.getElem?_eq_some_iff.mp f1).1
        have eb : bs[n] = b := (List.getElem?_eq_some_iff.mp f1).2
        exact hn ((List.getElem_inj hnd).mp (by rw [eb, e])).symm)
  exact ⟨bs[k], vs2, v, rfl, rfl, g2, by rw [rs2.1]; exact Nat.lt_of_lt_of_le hl line_big, _, p2, key.1, (r.stp (e1'.trans e2')).trans key.2⟩
end
end U
set_option Elab.async false
set_option linter.all false
set_option maxRecDepth 100000
set_option maxHeartbeats 1000000
/-! a loop over a call that pops; try; instances -/
namespace U
open PySem PySem.Spec PyProof.Rows L2
section
variable {S : Sta} {e e1 e2 c tg o : Expr} {body : List Stmt} {pos pos' p p1 p2 p3 p4 px py pt apos cpos kpos : Pos} {te ta tb tk : KE} {t : KS} {ts : KA} {x y name f : Str} {i j k : Nat} {sl : List Nat} {g : KG} {C : Addr}
theorem s_try {h0 : ExceptHandler} {hs : List ExceptHandler} (hb : SlR S body t) : StR S (.Try body (h0 :: hs) [] [] pos) t := by
  intro X ok m0 H0 H σ ρ N Rt r h
  have ok' : XOk S X.nox := ⟨ok.prog, ok.w, ok.K, ok.mg, ok.base, ok.N, ok.sc, ok.fn, ok.calm, ok.room, rfl, ok.ev⟩
  exact (ps_try_thru0 (X := X) (t := wL X.nox body) psl_w).to (hb X.nox ok' m0 H0 H σ ρ N Rt r h)
/-- for .. in f(a, b, xs.pop(), c) -/
def ksForPop (i1 i2 j i4 : Nat) (q : PSp) (g : KG) (body : KS) : KS := fun ρ N Rt => ∃ a ds d d1 d2 d4, ρ[j]? = some (.o a ds) ∧ ds[ds.length - 1]? = some d ∧ ρ[i1]? = some (.p d1) ∧ ρ[i2]? = some (.p d2) ∧ ρ[i4]? = some (.p d4) ∧
  q [d1, d2, d, d4] fun r => ∃ xs, r = .lst xs ∧ ∃ I : Nat → PSt → Prop, I 0 (ρ.set j (.o a ds.dropLast)) ∧ (∀ i d ρ', xs[i]? = some d → I i ρ' → g d ρ' fun ρ2 => body ρ2 (I (i + 1)) Rt) ∧ ∀ ρ', I xs.length ρ' → N ρ'
theorem s_forPop {q : PSp} {x1 x2 x4 : Str} {q1 q2 q3 q4 q5 : Pos} (i1 i2 j i4 : Nat) (hc : Callee S.P S.w S.K S.mg S.base k f q) (hk : k ≤ S.k) (hg : Glo S f) (h1 : Rdl S i1 x1) (h2 : Rdl S i2 x2) (hj : Rdl S j y) (h4 : Rdl S i4 x4) (mb : MB (.Name y q3) "pop" apos [] cpos) (n1 : i1 ≠ j) (n2 : i2 ≠ j) (n4 : i4 ≠ j) (hgt : GtR S tg sl g) (hb : SlR S body t) (hdb : (f == ("__debug__" : Str)) = false := by decide)
    (hpl : Plain [.Name x2 q2, .Call (.Attribute (.Name y q3) "pop" apos) [] [] cpos, .Name x4 q4] := by intro _ _; rfl)
    (hf : ∀ env x', foldedSetIterable (.Call (.Name f p) [.Name x1 q1, .Name x2 q2, .Call (.Attribute (.Name y q3) "pop" apos) [] [] cpos, .Name x4 q4] [] q5) env x' = pure x' := by intro _ _; rfl) :
    StR S (.For tg (.Call (.Name f p) [.Name x1 q1, .Name x2 q2, .Call (.Attribute (.Name y q3) "pop" apos) [] [] cpos, .Name x4 q4] [] q5) body [] pos) (ksForPop i1 i2 j i4 q g t) := by
  intro X ok m0 H0 H σ ρ N Rt r h
  obtain ⟨a, ds, d, d1, d2, d4, e1, e2, e3, e4, e5, h⟩ := h
  obtain ⟨f', fd, ps, c1, c2, c3, c4⟩ := hc.ex
  have F : FnOk X.prog X.w X.K X.mg X.base CX0 k f' fd ps (toSp S.K q) := by rw [ok.prog, ok.w, ok.K, ok.mg, ok.base]; exact c4
  refine (ps_for (by rw [ok.xe]; exact PySem.PassesOwn.never) ok.calm (pi_any (pe_call F (ok.room.mono hk) (hg.gl ok) (by rw [ok.mg]; exact c1) (by rw [ok.K]; exact c2) (by rw [ok.K]; exact c3) .nil (pass0 (X := X))
    (pa_cons (h1.pe ok) (pa_cons (h2.pe ok) (pa_cons (pe_bm0 PySem.F.plainAttrs_list PySem.F.slot_list_pop PySem.F.type_list_pop mt_pop (hj.pe ok) (mb.base _) mb.line) (pa_cons (h4.pe ok) pa_nil (by rfl)) (by rfl)) (by rfl)) (by rfl)) hdb (by rfl) (hpl _ _))) pg_w psl_w (hf _)).to ?_
  obtain ⟨hv, nw, vs, hl, q0⟩ := own_at r e1
  obtain ⟨_, s1, v1, rfl, r1⟩ := st_at r.re e3
  obtain ⟨_, s2, v2, rfl, r2⟩ := st_at r.re e4
  obtain ⟨_, s4, v4, rfl, r4⟩ := st_at r.re e5
  obtain ⟨z, g1, g2⟩ := q0.get e2
  obtain ⟨ra, sa⟩ := r.mutL e1 q0.dropLast
  have up : ∀ {v : V} {d : D}, Rep S.K S.tw (mOf m0 ρ) H v d → Rep S.K S.tw (mOf m0 (ρ.set j (.o a ds.dropLast))) (upd H a (.lst vs.dropLast)) v d := fun q => q.mono (fun b o hb hn ht => sa b o hb hn ht) fun _ h => h
  refine ⟨v1, s1, v2, s2, .ref a, hv, .inl ⟨rfl, vs, .of hl⟩, a, vs, z, rfl, rfl, hl, by rw [q0.1]; exact g1, v4, s4, ?_⟩
  refine ⟨S.tw, mOf m0 (ρ.set j (.o a ds.dropLast)), [d1, d2, d, d4], _, ra.re.al, ra.re.tp, ra.re.tb, .cons (up r1) (.cons (up r2) (.cons (up g2) (.one (up r4)))), h, fun v H1 dr hr eH rr => ?_⟩
  obtain ⟨xs, rfl, I, i0, istep, iend⟩ := hr
  have rb := ra.exx eH
  obtain ⟨b, us, rfl, nb, gb, rsb⟩ := rr.lstOf
  rw [ok.K]
  refine ⟨b, rfl, .inl ⟨us, .of gb, ?_⟩⟩
  -- the loop
  have W : Walk (Itl S.K b) xs.length (Kp (mOf m0 (ρ.set j (.o a ds.dropLast))) H1) (fun i H2 x H3 => ∃ d, xs[i]? = some d ∧ Ex S.tw H2 H3 ∧ ∀ m' : AD, (∀ b, m' b → Al H2 b) → (∀ b o, H1 b = some o → ¬ mOf m0 (ρ.set j (.o a ds.dropLast)) b → NTbl o → ¬ m' b) → Rep S.K S.tw m' H3 x d) := by
    rw [← rsb.1]
    refine walk_list.mono (fun H2 k => .of (k b _ gb nb (ntbl_lst _))) fun i H2 x H3 hi k y => ?_
    obtain ⟨rfl, hx⟩ := y
    have hd : i < xs.length := by rw [← rsb.1]; exact hi
    exact ⟨xs[i], List.getElem?_eq_getElem hd, .refl, fun m' _ hm => kp_rep k hm (rsb.2 i x _ hx (List.getElem?_eq_getElem hd))⟩
  have st1 := sa.trans (ra.stp eH)
  refine for_it W (fun i σ2 H2 => ∃ ρ2, I i ρ2 ∧ RS S m0 H0 H2 σ2 ρ2 ∧ Stp (mOf m0 (ρ.set j (.o a ds.dropLast))) H1 (mOf m0 ρ2) H2) ⟨_, i0, rb, .refl⟩ (fun i σ2 H2 _ ⟨_, _, _, st⟩ b o hb hn ht => (st b o hb hn ht).1) (fun i x σ2 H2 H3 hi ⟨ρ2, hI, rc, st⟩ yd => ?_) fun σ2 H2 ⟨ρ2, hI, rc, st⟩ => ⟨ρ2, iend ρ2 hI, rc, st1.trans st⟩
  obtain ⟨d', hd, e3', hx⟩ := yd
  have rx := hx (mOf m0 ρ2) rc.re.al fun b o hb hn ht => (st b o hb hn ht).2
  have r3 := rc.exx e3'
  refine wG_mono (hgt X ok _ H3 σ2 ρ2 x d' _ r3.re rx (istep i d' ρ2 hd hI)) fun σ4 H4 ⟨ρ4, p4, e4', q4, _, ps'⟩ => ?_
  obtain ⟨r5, sub4⟩ := r3.shrink q4 (r3.ex.trans e4') ps'
  have st4 : Stp (mOf m0 (ρ.set j (.o a ds.dropLast))) H1 (mOf m0 ρ4) H4 := (st.trans (rc.stp (e3'.trans e4'))).trans (stp_sub sub4 .refl)
  exact wL_mono (hb X ok m0 H0 H4 σ4 ρ4 _ Rt r5 p4) ⟨fun σ5 H5 ⟨ρ5, n5, r6, s5⟩ => ⟨ρ5, n5, r6, st4.trans s5⟩, fun _ _ z => z, fun _ _ z => z.elim, fun _ _ z => z.elim⟩
/-! instances of two attributes -/
/-- a class whose __init__ is called with two more arguments and lays f1, g1 -/
structure MakeOk (P : Program) (w : World) (K : PySem.W.Frag) (mg : Str → Option Value) (base : Heap) (k : Nat) (x : Str) (C : Addr) (f1 g1 : Str) (q : List D → (D → D → Prop) → Prop) : Prop where
  ex : ∃ (f : Addr) (fd : FuncData) (ps : List Str) (sp : Sp), mg x = some (.ref C) ∧ Mk K C f ∧ Binds K fd ps [] ∧ FnOk P w K mg base CX0 k f fd ps sp ∧
    ∀ (tw m : AD) (H : Hp) (vs : List V) (ds : List D) (R : D → D → Prop) (Q : VK) (a dx : Addr), (∀ a, m a → Al H a) → (∀ a, tw a → m a ∧ TapeAt H a) → Tbs K H → Reps K tw m H vs ds → q ds R → H a = none → H dx = none → dx ≠ a →
      (∀ u1 u2 d1 d2 H', R d1 d2 → Ex tw H H' → H' a = some (.ins C dx [(f1, u1), (g1, u2)]) → Rep K tw (plus m a) H' u1 d1 → Rep K tw (plus m a) H' u2 d2 → Q .non H') →
      sp (.ref a :: vs) (upd (upd H dx (.own a)) a (.ins C dx [])) Q E0
def kMake (C : Addr) (f1 g1 : Str) (q : List D → (D → D → Prop) → Prop) (ts : KA) : KE := fun ρ P => ts ρ fun ds => q ds fun d1 d2 => P (.ins C f1 g1 d1 d2)
theorem r_make {f1 g1 : Str} {es : List Expr} {q : List D → (D → D → Prop) → Prop} (M : MakeOk S.P S.w S.K S.mg S.base k x C f1 g1 q) (hk : k + 1 ≤ S.k) (hg : Glo S x) (ha : ArR S (e :: es) ts) (hdb : (x == ("__debug__" : Str)) = false := by decide) (ns : NS e := by intro _ _; rfl) (hpl : Plain es := by intro _ _; rfl) :
    EvR S (.Call (.Name x p) (e :: es) [] pos) (kMake C f1 g1 q ts) := by
  intro X ok m H σ ρ P r h
  obtain ⟨f, fd, ps, sp, c1, c2, c3, c4, c5⟩ := M.ex
  have F : FnOk X.prog X.w X.K X.mg X.base CX0 k f fd ps sp := by rw [ok.prog, ok.w, ok.K, ok.mg, ok.base]; exact c4
  refine (pe_make (by rw [ok.K]; exact c2) F (ok.room.mono hk) (hg.gl ok) (by rw [ok.mg]; exact c1) (by rw [ok.K]; exact c3) .nil (pass0 (X := X)) pa_w hdb (ns _ _) (hpl _ _)).to ?_
  refine wA_mono (ha X ok m H σ ρ _ r h) fun vs H1 _ ⟨ds, p1, e1, q1⟩ => fun a dx ha hdx hne => ?_
  have r1 := r.ex e1
  rw [List.append_nil]
  refine c5 S.tw m H1 vs ds _ _ a dx r1.al r1.tp r1.tb q1 p1 ha hdx hne fun u1 u2 d1 d2 H' hR e2 hI q2 q3 => ⟨rfl, _, hR, e1.trans e2, ?_⟩
  have nm := r1.fresh ha
  exact .ins hI nm (q2.mono (fun b o hb hn _ => ⟨hb, fun z => hn (.inl z)⟩) fun _ h => h) (q3.mono (fun b o hb hn _ => ⟨hb, fun z => hn (.inl z)⟩) fun _ h => h)
end
end U
set_option Elab.async false
set_option linter.all false
set_option maxRecDepth 100000
set_option maxHeartbeats 1000000
/-! min(xs, key=len, default=None) of a list of tuples -/
namespace U
open PySem PySem.Spec PyProof.Rows L2
section
variable {X : Cx}
/-- one of the tuples, or none -/
def tMinKL (K : PySem.W.Frag) (ta : TE) : TE := fun σ H Q => ta σ H fun x H1 => ∃ (a : Addr) (xs : List V), x = .ref a ∧ SqL K H1 a xs ∧ (∀ x ∈ xs, ∃ (t : Addr) (ys : List V), x = .ref t ∧ SqT K H1 t ys) ∧ (xs = [] → Q .non H1) ∧ ∀ x ∈ xs, Q x H1
theorem pe_minKL {e : Expr} {ta : TE} {p p2 p3 k1 k2 pos : Pos} {j : Nat} (hc : X.calm = true) (hg : Gl X "min") (hm : X.mg "min" = none) (hg2 : Gl X "len") (hm2 : X.mg "len" = none) (ha : PE X e ta) (ns : starEach [e] X.env = (false, eval e X.env) :: starEach [] X.env) :
    PE X (.Call (.Name "min" p) [e] [⟨"key", .Name "len" p2, k1⟩, ⟨"default", .Constant .none j p3, k2⟩] pos) (tMinKL X.K ta) := by
  refine ⟨fun pins s σ H Q I h => ?_⟩
  refine wpAny_Call_Name_kw (ld_blt I hg hm PyProof.Rows.boot_min ?_)
  have h' : tCons ta tNil σ H (fun vs H1 => match vs with
    | [x] => ∃ (a : Addr) (xs : List V), x = .ref a ∧ SqL X.K H1 a xs ∧ (∀ x ∈ xs, ∃ (t : Addr) (ys : List V), x = .ref t ∧ SqT X.K H1 t ys) ∧ (xs = [] → Q .non H1) ∧ ∀ x ∈ xs, Q x H1
    | _ => False) := h
  refine PyProof.Rows.callWith_kw (thn ((pa_cons ha pa_nil ns).run pos pins s σ H _ I h') fun us s1 ⟨vs, H1, I1, r1, q1⟩ => ?_) (by rw [ns]; rfl) (by rw [ns]; rfl)
  show wpAny _ _ (evalAll ((do let v ← eval (.Name "len" p2) X.env; standAt pos; pure v) :: (do let v ← eval (.Constant .none j p3) X.env; standAt pos; pure v) :: [])) _ _ s1
  refine wpAny_evalAll_cons (wpAny_bind (ld_blt I1 hg2 hm2 PySem.boot_len (wpAny_bind (wpAny_standAt (wpAny_pure ?_)))))
  refine wpAny_evalAll_cons (wpAny_bind (Constant_none (wpAny_bind (wpAny_standAt (wpAny_pure ?_)))))
  refine wpAny_evalAll_nil ?_
  dsimp only at q1
  split at q1
  · rename_i x
    obtain ⟨a, xs, rfl, hs, hall, q0, q2⟩ := q1
    obtain ⟨u, rfl, rx⟩ := vals1 r1
    obtain rfl : u = Value.ref a := rx
    obtain ⟨its, rv, hl, hz⟩ := I1.list hs
    have hh : X.A.in1.handled = none := I1.ok.hd hc
    show wpAny _ _ (call (.builtin "min") [.ref a] [(Str.ofString "key", .builtin "len"), (Str.ofString "default", .none)]) _ _ _
    -- the items: tuples of known lengths
    have items : ∀ (i : Nat) (v : Value), its[i]? = some v → ∃ (t : Addr) (ys : List V) (vs : List Value), v = .ref t ∧ xs[i]? = some (.ref t) ∧ IsTup s1.heap t vs.toArray ∧ vs.length = ys.length ∧ ys.length ≤ sizeLine := fun i v hv => by
      have hi : i < xs.length := by rw [rv.length]; exact (List.getElem?_eq_some_iff.mp hv).1
      obtain ⟨t, ys, e, ht⟩ := hall xs[i] (List.getElem_mem hi)
      obtain ⟨w', h1, h2⟩ := rv.get (i := i) (x := xs[i]) (List.getElem?_eq_getElem hi)
      rw [hv] at h1
      cases h1
      rw [e] at h2
      obtain rfl : v = Value.ref t := h2
      obtain ⟨ws, rw', htp, hz2⟩ := I1.tuple ht
      exact ⟨t, ys, ws, rfl, by rw [List.getElem?_eq_getElem hi, e], htp, rw'.length.symm, hz2⟩
    let ln : Nat → Nat := fun i => match its[i]? with
      | some (.ref t) => match s1.heap.get? t with
        | some ⟨_, _, .seq its2 _, _⟩ => its2.size
        | _ => 0
      | _ => 0
    have lnt : ∀ (i : Nat) (t : Addr) (vs : List Value), its[i]? = some (.ref t) → IsTup s1.heap t vs.toArray → ln i = vs.length := fun i t vs h1 ⟨o, h2, h3, n, h4⟩ => by
      obtain ⟨oc, od, dt, osl⟩ := o
      simp only at h4
      subst h4
      show (match its[i]? with
        | some (.ref t) => match s1.heap.get? t with
          | some ⟨_, _, .seq its2 _, _⟩ => its2.size
          | _ => 0
        | _ => 0) = _
      rw [h1]
      show (match s1.heap.get? t with
          | some ⟨_, _, .seq its2 _, _⟩ => its2.size
          | _ => 0) = _
      rw [h2]
      simp
    refine PySem.call_min_walkKBD (PySem.W.iter_listW (A := X.A.in1) hh hl.isList fun s₂ e W st hfp hw hk => ?_)
    have keep0 : ∀ {s' : Shared}, Moved (s₂.heap.objs.size :: [s1.heap.objs.size]) (fun a b => b = a) s₂ s' → (∀ b o, s1.heap.get? b = some o → s'.heap.get? b = some o) := fun {s'} m b o hb => m.heap b o (fun z => by
      have l1 := Heap.lt_size hb
      rcases List.mem_cons.mp z with z | z
      · rw [z] at l1
        rw [e] at l1
        have : (s1.heap.push { cls := .type "list_iterator", data := .fields #[.ref a, .int 0 0] }).objs.size = s1.heap.objs.size + 1 := Heap.size_push ..
        have l2 : s₂.heap.objs.size = s1.heap.objs.size + 1 := by rw [e]; exact this
        have l3 := Heap.lt_size (hk b o hb)
        rw [z] at l3
        exact Nat.lt_irrefl _ l3
      · rw [List.mem_singleton.mp z] at l1
        exact Nat.lt_irrefl _ l1) (hk b o hb)
    refine ⟨_, _, _, _, _, _, _, fun s' => Moved (s₂.heap.objs.size :: [s1.heap.objs.size]) (fun a b => b = a) s₂ s', fun i k _ => ∃ t, k = .int (ln i : Nat) t, fun i j => decide ((ln i : Int) < (ln j : Int)), rfl, W, st, hfp, ⟨fun s s' J m => J.trans (fun a b c h1 h2 => h2.trans h1) m, fun i k s s' V _ => V, fun i v s o Q E hi hP J st' hS hQ => ?_, fun i j ki kj s Q E J Vi Vj hq => ?_⟩, Moved.refl (fun _ => rfl), fun hn s' J => ?_, fun hn v s' hP J => ?_⟩
    · have hv : its[i]? = some v := by simpa using hP
      obtain ⟨t, ys, ws, rfl, _, htp, hlen, hz2⟩ := items i v hv
      have htp' : IsTup s.heap t ws.toArray := by
        obtain ⟨o2, a1, a2, a3⟩ := htp
        exact ⟨o2, keep0 J _ _ a1, a2, a3⟩
      have hsz : ((ws.toArray.size : Nat) : Int) < 2 ^ 63 := by
        have := line63
        simp only [List.size_toArray]
        omega
      refine PyProof.Rows.len_tuple htp' hsz (hQ _ _ (J.then_heap (by omega) fun b o _ e => e) st' hS ⟨_, by rw [lnt i t ws hv htp, List.size_toArray]⟩ fun _ _ z => z)
    · obtain ⟨t1, rfl⟩ := Vi
      obtain ⟨t2, rfl⟩ := Vj
      show wpAny _ _ (compareOp .Lt (.int (ln i : Nat) t1) (.int (ln j : Nat) t2)) _ _ _
      exact lt_int hq
    · have es : s' = { s1 with heap := s'.heap, toks := s'.toks } := by
        have g := J.gens
        have d := J.drawn
        have o := J.os
        rw [e] at g d o
        obtain ⟨hp, gg, dd, tk, oo⟩ := s'
        simp only at g d o
        subst g d o
        rfl
      have ex : xs = [] := by
        have := rv.length
        simp only [List.size_toArray] at hn
        exact List.length_eq_zero_iff.mp (by omega)
      rw [es]
      exact ⟨.non, H1, I1.kept (keep0 J), rfl, q0 ex⟩
    · have es : s' = { s1 with heap := s'.heap, toks := s'.toks } := by
        have g := J.gens
        have d := J.drawn
        have o := J.os
        rw [e] at g d o
        obtain ⟨hp, gg, dd, tk, oo⟩ := s'
        simp only at g d o
        subst g d o
        rfl
      have hv : its[argBest (fun i j => decide ((ln i : Int) < (ln j : Int))) (its.toArray.size - 1)]? = some v := by simpa using hP
      obtain ⟨t, ys, ws, rfl, hx, _⟩ := items _ v hv
      rw [es]
      exact ⟨.ref t, H1, I1.kept (keep0 J), rfl, q2 _ (List.mem_of_getElem? hx)⟩
  · exact q1.elim
end
def kMinKL (ta : KE) : KE := fun ρ P => ta ρ fun d => ∃ ds, d = .lst ds ∧ (∀ x ∈ ds, ∃ ys, x = .tup ys) ∧ (ds = [] → P .non) ∧ ∀ x ∈ ds, P x
theorem r_minKL {S : Sta} {a : Expr} {ta : KE} {p p2 p3 k1 k2 pos : Pos} {j : Nat} (hg : Glo S "min") (hm : S.mg "min" = none) (hg2 : Glo S "len") (hm2 : S.mg "len" = none) (ha : EvB S a ta) (ns : NS a := by intro _ _; rfl) :
    EvR S (.Call (.Name "min" p) [a] [⟨"key", .Name "len" p2, k1⟩, ⟨"default", .Constant .none j p3, k2⟩] pos) (kMinKL ta) := by
  intro X ok m H σ ρ P r h
  refine (pe_minKL ok.calm (hg.gl ok) (by rw [ok.mg]; exact hm) (hg2.gl ok) (by rw [ok.mg]; exact hm2) pe_w (ns _ _)).to (wE_mono (ha X ok m H σ ρ _ r h) fun v H1 _ ⟨d, ⟨ds, ed, h1, h2, h3⟩, e1, q1⟩ => ?_)
  subst ed
  obtain ⟨a, us, rfl, g1, g2⟩ := q1.lst
  rw [ok.K]
  have at_ : ∀ x ∈ us, ∃ d, d ∈ ds ∧ Rep S.K S.tw m H1 x d := fun x hx => by
    obtain ⟨i, hi⟩ := List.getElem?_of_mem hx
    have hd : i < ds.length := by rw [← g2.1]; exact (List.getElem?_eq_some_iff.mp hi).1
    exact ⟨ds[i], List.getElem_mem hd, g2.2 i x _ hi (List.getElem?_eq_getElem hd)⟩
  refine ⟨a, us, rfl, .of g1, fun x hx => ?_, fun e => ⟨_, h2 ?_, e1, .non⟩, fun x hx => ?_⟩
  · obtain ⟨d, hd, q⟩ := at_ x hx
    obtain ⟨ys, rfl⟩ := h1 d hd
    obtain ⟨t, ws, rfl, k1, _⟩ := q.tupOf
    exact ⟨t, ws, rfl, .of k1⟩
  · exact List.length_eq_zero_iff.mp (by rw [← g2.1, e]; rfl)
  · obtain ⟨d, hd, q⟩ := at_ x hx
    exact ⟨d, h3 d hd, e1, q⟩
end U
set_option Elab.async false
set_option linter.all false
set_option maxRecDepth 100000
set_option maxHeartbeats 1000000
/-! min(xs, key=lambda x: ..): a lambda of parameters, with captured names, made in a def's body -/
namespace U
open PySem PySem.Spec PyProof.Rows L2 NdefX LamX
/-- the object at f is the lambda F of the body e -/
def LamO (f : Addr) (F : NF) (e : Expr) : HO := .ext fun h => ∃ (od : Option Addr) (sl : Array (Option Value)) (pm ctv : Value), h.get? f = some (⟨.type "function", od, .func (PySem.W.kla_fn F.name F.qual F.params e F.scope F.cl pm (.ref F.c) ctv), sl⟩ : Obj)
theorem lamO_at {P : Program} {w : World} {H : Hp} {h : Heap} {f : Addr} {F : NF} {e : Expr} (hok : HOk P w H h) (q : H f = some (LamO f F e)) : ∃ (od : Option Addr) (sl : Array (Option Value)) (pm ctv : Value), h.get? f = some (⟨.type "function", od, .func (PySem.W.kla_fn F.name F.qual F.params e F.scope F.cl pm (.ref F.c) ctv), sl⟩ : Obj) := (hok f _ q).1
section
variable {X : Cx} {pins : List (Addr × Obj)} {σ : L2.St} {H : Hp} {s : Shared}
theorem inv_lam {F : NF} {e : Expr} {o : Obj} {t' : Nat} {pm ctv : Value} (I : Inv X pins σ H s) (ho : o = { cls := .type "function", data := .func (PySem.W.kla_fn F.name F.qual F.params e F.scope F.cl pm (.ref F.c) ctv) }) :
    Inv X pins σ (upd H s.heap.objs.size (LamO s.heap.objs.size F e)) { s with heap := s.heap.push o, toks := t' } := by
  subst ho
  have q : (s.heap.push ({ cls := .type "function", data := .func (PySem.W.kla_fn F.name F.qual F.params e F.scope F.cl pm (.ref F.c) ctv) } : Obj)).get? s.heap.objs.size = some ({ cls := .type "function", data := .func (PySem.W.kla_fn F.name F.qual F.params e F.scope F.cl pm (.ref F.c) ctv) } : Obj) := Heap.get?_push_size _ rfl
  exact I.laid (a := s.heap.objs.size) (fun b u z => Heap.get?_push_of_some _ z) (Nat.le_refl _) ⟨⟨_, _, pm, ctv, q⟩, ⟨_, q⟩, fun h1 h2 ⟨od, sl, p, t, z⟩ st => ⟨od, sl, p, t, st _ z⟩⟩
theorem ntbl_code (c : Addr) (q : Str) : NTbl (CodeO c q) := fun ps z => by
  unfold CodeO at z
  cases z
/-- the lambda is made; its object is known -/
theorem lam_make3 {c P : Addr} {params : Arguments} {e : Expr} {scope : Scope} {pos : Pos} {E : Value → Shared → Prop} {Q : Value → Shared → Prop} (I : Inv X pins σ H s) (TB : TabB X.base X.mg c P) (hcode : X.env.code = .ref c)
    (hT : TabS H P TQ) (hq : X.env.qual ++ "<lambda>" = TQ) (hdef : defaultsOf params X.env = ([], [])) (hfree : ∀ y ∈ scope.names, y.2 = .free → ∃ c, X.env.cells.lookup y.1 = some c) (w : AD) (hw : ∀ b, w b → TapeAt H b)
    (h : ∀ (f c' : Addr) (H1 : Hp) (s' : Shared), Inv X pins σ H1 s' → Ex w H H1 → H f = none → H1 f = some (LamO f ⟨"<lambda>", X.env.qual ++ "<lambda>", params, [], scope, cloFrom X.env.cells scope.names [], c'⟩ e) →
      H1 c' = some (CodeO c' (X.env.qual ++ "<lambda>")) → Q (.ref f) s') :
    wpAny (model X.prog X.w) X.A (eval (.Lambda params e scope pos) X.env) Q E s := by
  rw [← hq] at hT
  obtain ⟨ps, hP, ht, ha⟩ := id hT
  refine PySem.W.kla_eval hdef ?_
  have bP : s.heap.BuiltinsAt X.mg P := TB.bm.keeps I.bk
  have hP' : s.heap.get? P = some { cls := .none, data := .fields ps } := I.hok P _ hP
  have nwP : ¬ w P := fun z => by
    obtain ⟨i, j, q⟩ := hw P z
    rw [hP] at q; cases q
  cases hc : codeAmong pos ps.toList with
  | none =>
    refine PySem.W.kla_makeFunction (mg := X.mg) (c := c) (P := P) (ps := ps) (closure_ok hfree) I.ok.glob (I.mod.glob.keeps I.bk) hcode (TB.code.keeps I.bk) hP' ht hc TB.gP bP fun c' ctv h' tk hx hge hlt hrec htb => ?_
    obtain ⟨c2, oc, vs, t, e2, hoc, hd, hv⟩ := hrec
    cases e2
    have nC : H c' = none := I.hok.fresh hge
    have nPc : P ≠ c' := ne_of_none hP nC
    have I1 := inv_table (t' := tk) (more := #[rawInt pos.line, rawInt pos.col, .ref c']) (h' := h') I hP (fun b o hb z => hx b o hb z) htb hge ⟨oc, vs, t, hoc, hd, hv⟩
    have nF := I1.hok.fresh (Nat.le_refl _)
    have I2 := inv_lam (F := ⟨"<lambda>", X.env.qual ++ "<lambda>", params, [], scope, cloFrom X.env.cells scope.names [], c'⟩) (e := e) (t' := tk) (pm := (X.mg "__name__").getD .none) (ctv := ctv) I1 rfl
    have eL : (ps ++ #[rawInt pos.line, rawInt pos.col, .ref c']).toList = ps.toList ++ [rawInt pos.line, rawInt pos.col, .ref c'] := by simp
    have hE : ∀ b o, H b = some o → NTbl o → upd (upd H P (.tbl (ps ++ #[rawInt pos.line, rawInt pos.col, .ref c']))) c' (CodeO c' (X.env.qual ++ "<lambda>")) b = some o := fun b o z n => by
      rw [upd_ne (ne_of_none z nC), upd_ne (fun y => n ps (Option.some.inj (z.symm.trans (by rw [y]; exact hP))))]
      exact z
    have e0 : Ex w H (upd (upd H P (.tbl (ps ++ #[rawInt pos.line, rawInt pos.col, .ref c']))) c' (CodeO c' (X.env.qual ++ "<lambda>"))) := by
      refine ⟨fun b o hb _ n => hE b o hb n, fun b hb ⟨i, j, q⟩ => ⟨i, j, hE b _ q (ntbl_lst _)⟩, fun P2 hT2 => ?_⟩
      rw [← hq] at hT2 ⊢
      obtain ⟨ps2, a1, a2, a3⟩ := hT2
      by_cases hb : P2 = P
      · subst hb
        rw [hP] at a1; cases a1
        refine ⟨_, by rw [upd_ne nPc, upd_same], by rw [eL]; exact PySem.TriplesOk_snoc _ _ _ _ ht, fun p' cv hcv => ?_⟩
        rw [eL] at hcv
        rcases among_app _ ht hcv with z | z
        · obtain ⟨c0, b1, b2⟩ := a3 p' cv z
          exact ⟨c0, b1, hE _ _ b2 (ntbl_code _ _)⟩
        · exact ⟨c', z, upd_same⟩
      · refine ⟨ps2, by rw [upd_ne (ne_of_none a1 nC), upd_ne hb]; exact a1, a2, fun p' cv hcv => ?_⟩
        obtain ⟨c0, b1, b2⟩ := a3 p' cv hcv
        exact ⟨c0, b1, hE _ _ b2 (ntbl_code _ _)⟩
    exact h h'.objs.size c' _ _ I2 (e0.more nF) (I.hok.fresh (Nat.le_trans hge (Nat.le_of_lt hlt))) upd_same ((upd_ne (Nat.ne_of_lt hlt)).trans upd_same)
  | some cv =>
    obtain ⟨c', z, hco⟩ := ha pos cv hc
    subst z
    refine PySem.W.kla_makeFunctionHit (mg := X.mg) (c := c) (P := P) (ps := ps) (closure_ok hfree) I.ok.glob (I.mod.glob.keeps I.bk) hcode (TB.code.keeps I.bk) hP' ht hc bP fun ctv h' tk hx hsz => ?_
    have I1 : Inv X pins σ H { s with heap := h', toks := tk } := I.kept hx
    have nF : H h'.objs.size = none := I1.hok.fresh (Nat.le_refl _)
    have I2 := inv_lam (F := ⟨"<lambda>", X.env.qual ++ "<lambda>", params, [], scope, cloFrom X.env.cells scope.names [], c'⟩) (e := e) (t' := tk) (pm := (X.mg "__name__").getD .none) (ctv := ctv) I1 rfl
    exact h h'.objs.size c' _ _ I2 (.new nF) nF upd_same ((upd_ne (ne_of_none hco nF)).trans hco)
end
end U
set_option Elab.async false
set_option linter.all false
set_option maxRecDepth 100000
set_option maxHeartbeats 1000000
/-! min(xs, key=lambda x: ..), further -/
namespace U
open PySem PySem.Spec PyProof.Rows L2 NdefX LamX
/-- a call of the lambda -/
theorem lam_run {P : Program} {w : World} {K : PySem.W.Frag} {mg : Str → Option Value} {base : Heap} {F : NF} {e : Expr} {N ps fr : List Str} {k : Nat} {A : Around} {outer : List Env} {s : Shared} {H : Hp} {us : List Value} {vs : List V} {ws : List (Option V)} {Q : VK} {f : Addr}
    (S : NScope N ps fr F.scope) (hb : ∀ (pm ctv : Value) (us : List Value), us.length = ps.length → bindArgs (PySem.W.kla_fn F.name F.qual F.params e F.scope F.cl pm (.ref F.c) ctv) ⟨us, []⟩ = pure (ps.zip us)) (hr : Room (k + 1) A) (e0 : Env0 P w K mg base A outer s H)
    (hf : H f = some (LamO f F e)) (hc : H F.c = some (CodeO F.c F.qual)) (C : CellsAt F.cl fr ws s.heap H) (r : Vals vs us) (hl : vs.length = ps.length) (hbody : wE (ncx CX0 P w K mg base N F f A outer s H E0).nox e (startF N vs ws) H Q) :
    codeAny (model P w) A (.call (.ref f) ⟨us, []⟩) (CR CX0 outer P w H s Q E0) s := by
  have lim : s.heap.NoLimit := e0.mod.nolimit.keeps fun b o z => (e0.bs b o z).1
  obtain ⟨od, sl, pm, ctv, ho⟩ := lamO_at e0.hok hf
  refine PySem.W.kla_callFunE hr.depth ho rfl S.co S.gen rfl (codeO_at e0.hok hc) ?_
  rw [hb pm ctv us (by rw [← r.length]; exact hl)]
  refine wpAny_pure (wpAny_newFunctionEnv S.nocell (fun ⟨n, _⟩ hy => S.par n (List.of_mem_zip hy).1) (fun g hns hsb => ⟨lim.fresh _ hsb, ?_⟩) S.kind)
  show codeAny _ _ (.expr e (envF F f s.heap.objs.size)) _ _
  have kp : ∀ b o, s.heap.get? b = some o → g.get? b = some o := fun b o z => hsb.extBut b o (Nat.ne_of_lt (Heap.lt_size z)) (Heap.get?_push_of_some _ z)
  have J : Inv (ncx CX0 P w K mg base N F f A outer s H E0) [] (startF N vs ws) H { s with heap := g, toks := s.toks + (ps.zip us).length } := inv_startN S hr.hd e0 hl r C hns kp
  have pe : PE (ncx CX0 P w K mg base N F f A outer s H E0) e (wE (ncx CX0 P w K mg base N F f A outer s H E0).nox e) := PE.nox pe_w
  refine PySem.W.kla_codeExpr (wpAny_mono (pe.run [] _ _ H Q J hbody) (fun v s' hq => ?_) fun e s' hq => hq)
  obtain ⟨x, H', J', rv, q⟩ := hq
  exact ⟨x, H', J'.os, J'.bare, J'.base, J'.hok, rv, q⟩
/-- min's loop over what a list iterator tells, keyed by a function: a joint statement T of the best one and its key -/
structure MinJ (prog : Program) (w : World) (A : Around) (S it q : Addr) (n : Nat) (T : Nat → Value → Value → Shared → Prop) (T1 : Nat → Value → Value → Value → Shared → Prop) (T2 : Nat → Value → Value → Value → Value → Shared → Prop) (G : Value → Shared → Prop) : Prop where
  box : ∀ j vb kb s, T j vb kb s → ∃ c, s.heap.get? S = some { cls := .type "list", dict := none, data := .seq #[vb, kb] c, slots := #[] }
  next : ∀ j vb kb s (E : Value → Shared → Prop), j < n → T j vb kb s → wpAny (model prog w) A (pyNext (.ref it)) (fun o s' => ∃ v, o = some v ∧ T1 j vb kb v s') E s
  turn : ∀ j vb kb v s (E : Value → Shared → Prop), T1 j vb kb v s → wpAny (model prog w) A (call (.ref q) [v]) (fun kx s' => T2 j vb kb v kx s') E s
  cmp : ∀ j vb kb v kx s (E : Value → Shared → Prop), T2 j vb kb v kx s → wpAny (model prog w) A (richCompare .Lt kx kb) (fun r s' => s' = s ∧ ∃ b, r = .bool b) E s
  box2 : ∀ j vb kb v kx s, T2 j vb kb v kx s → ∃ c, s.heap.get? S = some { cls := .type "list", dict := none, data := .seq #[vb, kb] c, slots := #[] }
  take : ∀ j vb kb v kx s, T2 j vb kb v kx s → T (j + 1) v kx { s with heap := s.heap.update S (Obj.mapSeq fun _ => #[v, kx]) }
  keep : ∀ j vb kb v kx s, T2 j vb kb v kx s → T (j + 1) vb kb s
  done : ∀ vb kb s (E : Value → Shared → Prop), T n vb kb s → wpAny (model prog w) A (pyNext (.ref it)) (fun o s' => o = none ∧ ∃ c, s'.heap.get? S = some { cls := .type "list", dict := none, data := .seq #[vb, kb] c, slots := #[] } ∧ G vb { s' with heap := s'.heap.update S (Obj.mapSeq fun _ => #[]) }) E s
theorem minJ_loop {prog : Program} {w : World} {A : Around} {R : Result → Shared → Prop} {S it q : Addr} {n : Nat} {T : Nat → Value → Value → Shared → Prop} {T1 : Nat → Value → Value → Value → Shared → Prop} {T2 : Nat → Value → Value → Value → Value → Shared → Prop} {G : Value → Shared → Prop}
    (M : MinJ prog w A.in1 S it q n T T1 T2 G) (hR : ∀ v s', G v s' → R (.ok (.ret v)) s') (kw : List (Str × Value)) : ∀ (m j : Nat) (vb kb : Value) (s : Shared), j + m = n → T j vb kb s → codeAny (model prog w) A (.builtin "min.loop" ⟨[.ref it, .ref q, .ref S], kw⟩) R s := by
  have hname : ((toString "min" ++ toString ".loop" : String) = "min.loop") := by decide
  intro m
  induction m with
  | zero =>
    intro j vb kb s hj hT
    obtain rfl : j = n := by omega
    obtain ⟨c, hS⟩ := M.box _ _ _ _ hT
    refine PySem.codeAny_builtin PySem.F.entry_min_loop ?_
    rw [PySem.Around.under_plainId PySem.F.plain_min_loop _]
    show wpAny _ A.in1 ((seqItems? (.ref S)) >>= _) _ _ s
    refine wpAny_bind (PySem.wpAny_seqItems hS rfl ?_)
    show wpAny _ A.in1 ((tryCatch (pyNext (.ref it)) _) >>= _) _ _ s
    refine wpAny_bind (wpAny_tryCatch (wpAny_mono (M.done _ _ _ _ hT) (fun o s' ⟨e, c', hS', g⟩ => ?_) fun _ _ z => z))
    subst e
    show wpAny _ A.in1 ((updateSeq S (fun _ => #[])) >>= _) _ _ _
    exact wpAny_bind (wpAny_updateSeq hS' rfl (wpAny_bind (wpAny_letGo (wpAny_pure (hR _ _ g)))))
  | succ m ih =>
    intro j vb kb s hj hT
    obtain ⟨c, hS⟩ := M.box _ _ _ _ hT
    refine PySem.codeAny_builtin PySem.F.entry_min_loop ?_
    rw [PySem.Around.under_plainId PySem.F.plain_min_loop _]
    show wpAny _ A.in1 ((seqItems? (.ref S)) >>= _) _ _ s
    refine wpAny_bind (PySem.wpAny_seqItems hS rfl ?_)
    show wpAny _ A.in1 ((tryCatch (pyNext (.ref it)) _) >>= _) _ _ s
    refine wpAny_bind (wpAny_tryCatch (wpAny_mono (M.next _ _ _ _ _ (by omega) hT) (fun o s1 ⟨v, e, h1⟩ => ?_) fun _ _ z => z))
    subst e
    show wpAny _ A.in1 ((tryCatch (holding [v] (call (.ref q) [v])) _) >>= _) _ _ _
    refine wpAny_bind (wpAny_tryCatch (wpAny_holding (wpAny_mono (M.turn _ _ _ _ _ _ h1) (fun kx s2 h2 => ?_) fun _ _ z => z)))
    show wpAny _ A.in1 ((tryCatch (holding [v, kx] (richCompare .Lt kx kb >>= _)) _) >>= _) _ _ _
    refine wpAny_bind (wpAny_tryCatch (wpAny_holding (wpAny_bind (wpAny_mono (M.cmp _ _ _ _ _ _ _ h2) (fun r s3 ⟨e3, b, eb⟩ => ?_) fun _ _ z => z))))
    subst e3
    subst eb
    refine wpAny_bind (wpAny_holding (wpAny_truthy_bool ?_))
    refine wpAny_bind (wpAny_letGo (wpAny_pure ?_))
    obtain ⟨c2, hS2⟩ := M.box2 _ _ _ _ _ _ h2
    cases b with
    | true =>
      simp only [if_true]
      refine wpAny_bind (wpAny_updateSeq hS2 rfl (wpAny_bind (wpAny_letGo ?_)))
      rw [hname]
      exact wpAny_pure ⟨plainId_quiet PySem.F.plain_min_loop _, ih (j + 1) v kx _ (by omega) (M.take _ _ _ _ _ _ h2)⟩
    | false =>
      simp only [Bool.false_eq_true, if_false]
      refine wpAny_bind (wpAny_letGo ?_)
      rw [hname]
      exact wpAny_pure ⟨plainId_quiet PySem.F.plain_min_loop _, ih (j + 1) vb kb _ (by omega) (M.keep _ _ _ _ _ _ h2)⟩
end U
set_option Elab.async false
set_option linter.all false
set_option maxRecDepth 100000
set_option maxHeartbeats 1000000
/-! min(xs, key=f) of a list in the heap, f a lambda: the call -/
namespace U
open PySem PySem.Spec PyProof.Rows L2 NdefX LamX
section
variable {X : Cx} {pins : List (Addr × Obj)} {σ : L2.St} {H : Hp} {s : Shared} {e : Addr}
def NewAt (X : Cx) (pins : List (Addr × Obj)) (e : Addr) : Prop := (e ∈ X.ex ∨ X.s_0.heap.objs.size ≤ e) ∧ e ≠ X.env.locals ∧ (∀ x c, X.env.cells.lookup x = some c → c ≠ e) ∧ ∀ p ∈ X.pn ++ pins, p.1 ≠ e
theorem newAt (I : Inv X pins σ H s) (h : s.heap.objs.size ≤ e) : NewAt X pins e := by
  have lt : ∀ b o, s.heap.get? b = some o → b ≠ e := fun b o z y => by
    rw [y] at z
    exact Nat.lt_irrefl _ (Nat.lt_of_lt_of_le (Heap.lt_size z) h)
  refine ⟨.inr (Nat.le_trans I.sz h), fun z => ?_, fun x c z => ?_, fun p hp => lt _ _ (I.pin p hp).1⟩
  · obtain ⟨m, ⟨o, es, ep, ho, r⟩, _⟩ := id I.loc
    exact lt _ _ ho z.symm
  · obtain ⟨v, o, ho, _⟩ := I.cell x c z
    exact lt _ _ ho
theorem nofrAt (I : Inv X pins σ H s) (h : s.heap.objs.size ≤ e) : e ∉ frs X.stack := fun z => by
  rcases List.mem_cons.mp (I.stkSub _ z) with y | y
  · have h1 := I.lt
    rw [← y] at h1
    exact Nat.lt_irrefl _ (Nat.lt_of_lt_of_le h1 h)
  · exact I.nofs h y
theorem hok_but {P : Program} {w : World} {h h' : Heap} (x : HOk P w H h) (n : H e = none) (k : ∀ b u, b ≠ e → h.get? b = some u → h'.get? b = some u) : HOk P w H h' := fun a o z =>
  (x a o z).stay (fun b u hb q => k b u (fun y => by
    rw [y] at hb
    rcases hb with hb | hb
    · rw [← hb, n] at z; cases z
    · rw [n] at hb; cases hb) q) (fun _ h => h) fun _ _ h => h
theorem inv_moved {s' : Shared} (I : Inv X pins σ H s) (hch : NewAt X pins e) (n : H e = none) (hm : Moved [e] (fun a b => b = a) s s') : Inv X pins σ H s' := by
  have k : ∀ b u, b ≠ e → s.heap.get? b = some u → s'.heap.get? b = some u := fun b u hb q => hm.heap b u (fun z => hb (List.mem_singleton.mp z)) q
  refine I.call' (ch := [e]) hm.os ⟨fun b o q _ _ hb => k b o (fun z => hb (by rw [z]; exact List.mem_singleton.mpr rfl)) q, fun b o q _ _ hb => ⟨o.slots, k b o (fun z => hb (by rw [z]; exact List.mem_singleton.mpr rfl)) q⟩, fun b o _ q _ => q, fun b o q hb => ⟨o, k b o (fun z => hb (by rw [z]; exact List.mem_singleton.mpr rfl)) q⟩, fun _ _ q => q, fun _ _ _ q => q, fun b ps q => ⟨#[], by simpa using q⟩⟩ (hok_but I.hok n k) (by rw [show s'.gens = s.gens from hm.gens]; exact I.bare) fun b hb => by
    rw [List.mem_singleton.mp hb]; exact hch
def KeyAt (H : Hp) (v : Value) : Prop := ∃ t n1 n2, v = .ref t ∧ H t = some (.tup [.int n1, .int n2])
theorem key_dp {K : PySem.W.Frag} {t : Addr} {n1 n2 : Int} (h : H t = some (.tup [.int n1, .int n2])) : Dp K H (.ref t) (.tuple [.int n1, .int n2]) := .tup (.of h) (.cons (.int n1) (.cons (.int n2) .nil))
/-- where min's loop stands: the iterator at j, the box with bx -/
def At (X : Cx) (pins : List (Addr × Obj)) (σ : L2.St) (G : Hp → Prop) (a it : Addr) (j : Nat) (bx : Array Value) (R : Hp → Prop) (s : Shared) : Prop :=
  ∃ H, Inv X pins σ H s ∧ G H ∧ H it = none ∧ H (it + 1) = none ∧ s.heap.IsListIter it a j ∧ (∃ c, s.heap.get? (it + 1) = some { cls := .type "list", dict := none, data := .seq bx c, slots := #[] }) ∧ R H
def OneOf (us : List V) (v : Value) : Prop := ∃ x ∈ us, L2.RelV x v
section
variable {a it f : Addr} {us : List V} {G : Hp → Prop} {bx : Array Value} {R : Hp → Prop} {j : Nat} {E : Value → Shared → Prop}
theorem At.next (hh : X.A.in1.handled = none) (hlst : ∀ H, G H → H a = some (.lst us)) (hn : NewAt X pins it) (hj : j < us.length) (h : At X pins σ G a it j bx R s) :
    wpAny (model X.prog X.w) X.A.in1 (pyNext (.ref it)) (fun o s' => ∃ v, o = some v ∧ OneOf us v ∧ At X pins σ G a it (j + 1) bx R s') E s := by
  obtain ⟨H, I, g, n1, n2, hit, ⟨c, hb⟩, r⟩ := h
  have hl := hlst H g
  obtain ⟨its, rv, pl, hz⟩ := I.list (.of hl)
  have hlen : its.length = us.length := rv.length.symm
  have hne : a ≠ it := fun z => by rw [z, n1] at hl; cases hl
  refine ((Walks.list (prog := X.prog) (w := X.w) (A := X.A.in1) hh it a hne its.toArray).toS).item j s _ E (by simp; omega) ⟨hit, pl.isList⟩ fun v s' hP hst hm => ?_
  have h1 : its[j]? = some v := by simpa using hP
  obtain ⟨u, hu1, ru⟩ := rv.get (i := j) (x := us[j]) (List.getElem?_eq_getElem hj)
  rw [h1] at hu1
  cases hu1
  refine ⟨v, rfl, ⟨_, List.getElem_mem hj, ru⟩, H, inv_moved I hn n1 hm, g, n1, n2, hst.1, ⟨c, hm.heap _ _ (by simp) hb⟩, r⟩
theorem At.done (hh : X.A.in1.handled = none) (hlst : ∀ H, G H → H a = some (.lst us)) (hn : NewAt X pins it) (h : At X pins σ G a it us.length bx R s) :
    wpAny (model X.prog X.w) X.A.in1 (pyNext (.ref it)) (fun o s' => o = none ∧ ∃ H c, Inv X pins σ H s' ∧ G H ∧ H (it + 1) = none ∧ s'.heap.get? (it + 1) = some { cls := .type "list", dict := none, data := .seq bx c, slots := #[] }) E s := by
  obtain ⟨H, I, g, n1, n2, hit, ⟨c, hb⟩, r⟩ := h
  have hl := hlst H g
  obtain ⟨its, rv, pl, hz⟩ := I.list (.of hl)
  have hlen : its.length = us.length := rv.length.symm
  have hne : a ≠ it := fun z => by rw [z, n1] at hl; cases hl
  have W := (Walks.list (prog := X.prog) (w := X.w) (A := X.A.in1) hh it a hne its.toArray).toS
  refine W.done s _ E ⟨by rw [List.size_toArray, hlen]; exact hit, pl.isList⟩ fun s' hm => ⟨rfl, H, c, inv_moved I hn n1 hm, g, n2, hm.heap _ _ (by simp) hb⟩
theorem At.turn {v : Value} (hn : ∀ b, b = it ∨ b = it + 1 → b ∉ frs X.stack) (hcall : ∀ (H : Hp) (s : Shared) (x : V) (v : Value), x ∈ us → L2.RelV x v → G H → Inv X pins σ H s → codeAny (model X.prog X.w) X.A.in1 (.call (.ref f) ⟨[v], []⟩) (CR CX0 X.stack X.prog X.w H s (fun r H' => G H' ∧ ∃ t n1 n2, r = .ref t ∧ H' t = some (.tup [.int n1, .int n2])) E0) s)
    (hR : ∀ H H', (∀ b xs, H b = some (.tup xs) → H' b = some (.tup xs)) → R H → R H') (hv : OneOf us v) (h : At X pins σ G a it j bx R s) :
    wpAny (model X.prog X.w) X.A.in1 (call (.ref f) [v]) (fun kx s' => At X pins σ G a it j bx (fun H => R H ∧ KeyAt H kx) s') E s := by
  obtain ⟨x, hx, rx⟩ := hv
  obtain ⟨H, I, g, n1, n2, ⟨o, ho, ho2⟩, ⟨c, hb⟩, r⟩ := h
  refine wpAny_call (codeAny_mono (hcall H s x v hx rx g I) fun r' s' hq => ?_)
  cases r' with
  | error e => exact (show False from hq).elim
  | ok fl =>
    cases fl with
    | ret u =>
      obtain ⟨k, H', os, bare, un, hok, rk, g', t, m1, m2, ek, ht⟩ := hq
      subst ek
      obtain rfl : u = Value.ref t := rk
      refine ⟨H', I.call' (ch := []) os un hok bare (fun b z => absurd z (by simp)), g', un.free _ _ ho n1 (by simp), un.free _ _ hb n2 (by simp), ⟨o, un.keep _ _ ho n1 (hn _ (.inl rfl)) (by simp), ho2⟩, ⟨c, un.keep _ _ hb n2 (hn _ (.inr rfl)) (by simp)⟩, hR H H' un.tups r, t, m1, m2, rfl, ht⟩
    | next => exact False.elim hq
    | brk => exact False.elim hq
    | cont => exact False.elim hq
theorem At.write {w : Array Value} (hn : NewAt X pins (it + 1)) (h : At X pins σ G a it j bx R s) (tk : Nat) : At X pins σ G a it j w R { s with heap := s.heap.update (it + 1) (Obj.mapSeq fun _ => w), toks := tk } := by
  obtain ⟨H, I, g, n1, n2, ⟨o, ho, ho2⟩, ⟨c, hb⟩, r⟩ := h
  have k : ∀ b u, b ≠ it + 1 → s.heap.get? b = some u → (s.heap.update (it + 1) (Obj.mapSeq fun _ => w)).get? b = some u := fun b u hne q => (Heap.get?_update_other _ _ (Ne.symm hne)).trans q
  refine ⟨H, ?_, g, n1, n2, ⟨o, k it _ (Nat.ne_of_lt (Nat.lt_succ_self it)) ho, ho2⟩, ⟨_, show (s.heap.update (it + 1) (Obj.mapSeq fun _ => w)).get? (it + 1) = _ from Heap.get?_update_self (Obj.mapSeq fun _ => w) hb rfl⟩, r⟩
  exact I.call' (ch := [it + 1]) rfl ⟨fun b o q _ _ hx => k b o (fun z => hx (by rw [z]; exact List.mem_singleton.mpr rfl)) q, fun b o q _ _ hx => ⟨o.slots, k b o (fun z => hx (by rw [z]; exact List.mem_singleton.mpr rfl)) q⟩, fun b o _ q _ => q, fun b o q hx => ⟨o, k b o (fun z => hx (by rw [z]; exact List.mem_singleton.mpr rfl)) q⟩, fun _ _ q => q, fun _ _ _ q => q, fun b ps q => ⟨#[], by simpa using q⟩⟩ (hok_but I.hok n2 k) I.bare fun b hx => by
    rw [List.mem_singleton.mp hx]; exact hn
theorem At.cmp {kx kb : Value} (hu : X.A.in1.units + 64 < cLine) (h : At X pins σ G a it j bx (fun H => KeyAt H kb ∧ KeyAt H kx) s) : wpAny (model X.prog X.w) X.A.in1 (richCompare .Lt kx kb) (fun r s' => s' = s ∧ ∃ b, r = .bool b) E s := by
  obtain ⟨H, I, g, n1, n2, _, _, ⟨t1, a1, b1, rfl, h1⟩, t2, a2, b2, rfl, h2⟩ := h
  obtain ⟨_, r1⟩ := Dp.reads I _ _ _ (key_dp (K := X.K) h1) (show L2.RelV (.ref t1) (.ref t1) from rfl)
  obtain ⟨_, r2⟩ := Dp.reads I _ _ _ (key_dp (K := X.K) h2) (show L2.RelV (.ref t2) (.ref t2) from rfl)
  show wpAny _ _ (compareOp .Lt (.ref t2) (.ref t1)) _ _ _
  refine PySem.W.lt_data r2 r1 (by simp [PySem.W.alike, PySem.W.alikeAll]) (by simp) ?_ ⟨rfl, _, rfl⟩
  have e : PyData.depth (.tuple [.int a2, .int b2]) ≤ 2 := by simp [PyData.depth, PyData.depthAll]
  omega
theorem minJ_of (hh : X.A.in1.handled = none) (hu : X.A.in1.units + 64 < cLine) (hlst : ∀ H, G H → H a = some (.lst us)) (hn : NewAt X pins it) (hn2 : NewAt X pins (it + 1)) (hf : ∀ b, b = it ∨ b = it + 1 → b ∉ frs X.stack) (hne : 0 < us.length)
    (hcall : ∀ (H : Hp) (s : Shared) (x : V) (v : Value), x ∈ us → L2.RelV x v → G H → Inv X pins σ H s → codeAny (model X.prog X.w) X.A.in1 (.call (.ref f) ⟨[v], []⟩) (CR CX0 X.stack X.prog X.w H s (fun r H' => G H' ∧ ∃ t n1 n2, r = .ref t ∧ H' t = some (.tup [.int n1, .int n2])) E0) s) :
    MinJ X.prog X.w X.A.in1 (it + 1) it f (us.length - 1) (fun j vb kb s => At X pins σ G a it (j + 1) #[vb, kb] (fun H => KeyAt H kb) s ∧ OneOf us vb) (fun j vb kb v s => At X pins σ G a it (j + 2) #[vb, kb] (fun H => KeyAt H kb) s ∧ OneOf us vb ∧ OneOf us v)
      (fun j vb kb v kx s => At X pins σ G a it (j + 2) #[vb, kb] (fun H => KeyAt H kb ∧ KeyAt H kx) s ∧ OneOf us vb ∧ OneOf us v) (fun vb s => OneOf us vb ∧ ∃ H, Inv X pins σ H s ∧ G H) where
  box := fun j vb kb s ⟨⟨H, _, _, _, _, _, h, _⟩, _⟩ => h
  next := fun j vb kb s E hj ⟨h, ho⟩ => wpAny_mono (h.next hh hlst hn (by omega)) (fun o s' ⟨v, e, h1, h2⟩ => ⟨v, e, h2, ho, h1⟩) fun _ _ z => z
  turn := fun j vb kb v s E ⟨h, ho, hv⟩ => wpAny_mono (h.turn hf hcall (fun H H' ht ⟨t, m1, m2, e, q⟩ => ⟨t, m1, m2, e, ht _ _ q⟩) hv) (fun kx s' h2 => ⟨h2, ho, hv⟩) fun _ _ z => z
  cmp := fun j vb kb v kx s E ⟨h, _⟩ => h.cmp hu
  box2 := fun j vb kb v kx s ⟨⟨H, _, _, _, _, _, h, _⟩, _⟩ => h
  take := fun j vb kb v kx s ⟨h, _, hv⟩ => by
    obtain ⟨H, I, g, n1, n2, it', b', r⟩ := h.write (w := #[v, kx]) hn2 s.toks
    exact ⟨⟨H, I, g, n1, n2, it', b', r.2⟩, hv⟩
  keep := fun j vb kb v kx s ⟨⟨H, I, g, n1, n2, it', b', r⟩, ho, _⟩ => ⟨⟨H, I, g, n1, n2, it', b', r.1⟩, ho⟩
  done := fun vb kb s E ⟨h, ho⟩ => by
    rw [show us.length - 1 + 1 = us.length by omega] at h
    refine wpAny_mono (h.done hh hlst hn) (fun o s' ⟨e, H, c, I, g, n2, hb⟩ => ⟨e, c, hb, ho, H, ?_, g⟩) fun _ _ z => z
    have k : ∀ b u, b ≠ it + 1 → s'.heap.get? b = some u → (s'.heap.update (it + 1) (Obj.mapSeq fun _ => #[])).get? b = some u := fun b u hne q => (Heap.get?_update_other _ _ (Ne.symm hne)).trans q
    exact I.call' (ch := [it + 1]) rfl ⟨fun b o q _ _ hx => k b o (fun z => hx (by rw [z]; exact List.mem_singleton.mpr rfl)) q, fun b o q _ _ hx => ⟨o.slots, k b o (fun z => hx (by rw [z]; exact List.mem_singleton.mpr rfl)) q⟩, fun b o _ q _ => q, fun b o q hx => ⟨o, k b o (fun z => hx (by rw [z]; exact List.mem_singleton.mpr rfl)) q⟩, fun _ _ q => q, fun _ _ _ q => q, fun b ps q => ⟨#[], by simpa using q⟩⟩ (hok_but I.hok n2 k) I.bare fun b hx => by
      rw [List.mem_singleton.mp hx]; exact hn2
/-- min(xs, key=f): some item -/
theorem minL_call {Qf : Value → Shared → Prop} (I : Inv X pins σ H s) (hh : X.A.in1.handled = none) (hu : X.A.in1.units + 64 < cLine) (g0 : G H) (hlst : ∀ H, G H → H a = some (.lst us)) (hne : 0 < us.length)
    (hcall : ∀ (H : Hp) (s : Shared) (x : V) (v : Value), x ∈ us → L2.RelV x v → G H → Inv X pins σ H s → codeAny (model X.prog X.w) X.A.in1 (.call (.ref f) ⟨[v], []⟩) (CR CX0 X.stack X.prog X.w H s (fun r H' => G H' ∧ ∃ t n1 n2, r = .ref t ∧ H' t = some (.tup [.int n1, .int n2])) E0) s)
    (hQ : ∀ x ∈ us, ∀ (v : Value) (H : Hp) (s : Shared), L2.RelV x v → G H → Inv X pins σ H s → Qf v s) : wpAny (model X.prog X.w) X.A (call (.builtin "min") [.ref a] [(Str.ofString "key", .ref f)]) Qf E s := by
  have hname : ((toString "min" ++ toString ".loop" : String) = "min.loop") := by decide
  have hl := hlst H g0
  obtain ⟨its, rv, pl, hz⟩ := I.list (.of hl)
  refine PyProof.Rows.kmk_tree PySem.F.kind_min PySem.F.plain_min PySem.F.entry_min (PyProof.Rows.kmk_min_key _ _) ?_
  show wpAny _ X.A.in1 ((Builtin.Builtins.bindParams "min" ["key", "default"] 0 ⟨[], [(Str.ofString "key", .ref f)]⟩) >>= _) _ _ s
  refine wpAny_bind (wpAny_of_eq (show Builtin.Builtins.bindParams "min" ["key", "default"] 0 ⟨[], [(Str.ofString "key", .ref f)]⟩ = pure [some (.ref f), none] from rfl) (wpAny_bind (wpAny_pure ?_)))
  refine wpAny_bind (wpAny_pyIter_list pl.isList (wpAny_bind (wpAny_newObj_type ?_)))
  rw [hname]
  refine wpAny_pure ⟨plainId_quiet PySem.F.plain_min_loop _, ?_⟩
  have hsz : ∀ o : Obj, (s.heap.push o).objs.size = s.heap.objs.size + 1 := fun o => Heap.size_push ..
  generalize hit : s.heap.objs.size = it at *
  have hn : NewAt X pins it := newAt I (Nat.le_of_eq hit)
  have hn2 : NewAt X pins (it + 1) := newAt I (by omega)
  have hf : ∀ b, b = it ∨ b = it + 1 → b ∉ frs X.stack := fun b hb => nofrAt I (by omega)
  have M := minJ_of (f := f) hh hu hlst hn hn2 hf hne hcall
  rw [hsz]
  have kp : ∀ b o, s.heap.get? b = some o → ((s.heap.push { cls := .type "list_iterator", data := .fields #[.ref a, .int 0 0] }).push { cls := .type "list", data := .seq #[] 0 }).get? b = some o := fun b o z => Heap.get?_push_of_some _ (Heap.get?_push_of_some _ z)
  have e1 : (s.heap.push { cls := .type "list_iterator", data := .fields #[.ref a, .int 0 0] }).get? it = some { cls := .type "list_iterator", data := .fields #[.ref a, .int 0 0] } := by rw [← hit]; exact Heap.get?_push_size _ rfl
  have e2 : ((s.heap.push { cls := .type "list_iterator", data := .fields #[.ref a, .int 0 0] }).push { cls := .type "list", data := .seq #[] 0 }).get? (it + 1) = some { cls := .type "list", data := .seq #[] 0 } := by
    have q : ((s.heap.push { cls := .type "list_iterator", data := .fields #[.ref a, .int 0 0] }).push { cls := .type "list", data := .seq #[] 0 }).get? (s.heap.push { cls := .type "list_iterator", data := .fields #[.ref a, .int 0 0] }).objs.size = some { cls := .type "list", data := .seq #[] 0 } := Heap.get?_push_size _ rfl
    rw [hsz] at q
    exact q
  have h0 : ∀ tk, At X pins σ G a it 0 #[] (fun _ => True) { s with heap := (s.heap.push { cls := .type "list_iterator", data := .fields #[.ref a, .int 0 0] }).push { cls := .type "list", data := .seq #[] 0 }, toks := tk } := fun tk =>
    ⟨H, I.kept kp, g0, I.hok.fresh (Nat.le_of_eq hit), I.hok.fresh (by omega), ⟨_, Heap.get?_push_of_some _ e1, rfl, rfl⟩, ⟨_, e2⟩, trivial⟩
  refine PySem.codeAny_builtin PySem.F.entry_min_loop ?_
  rw [PySem.Around.under_plainId PySem.F.plain_min_loop _]
  show wpAny _ X.A.in1 ((seqItems? (.ref (it + 1))) >>= _) _ _ _
  refine wpAny_bind (PySem.wpAny_seqItems e2 rfl ?_)
  show wpAny _ X.A.in1 ((tryCatch (pyNext (.ref it)) _) >>= _) _ _ _
  refine wpAny_bind (wpAny_tryCatch (wpAny_mono ((h0 _).next hh hlst hn hne) (fun o s1 ⟨v, e, hv, h1⟩ => ?_) fun _ _ z => z))
  subst e
  show wpAny _ X.A.in1 ((tryCatch (holding [v] (call (.ref f) [v])) _) >>= _) _ _ _
  refine wpAny_bind (wpAny_tryCatch (wpAny_holding (wpAny_mono (h1.turn hf hcall (fun _ _ _ z => z) hv) (fun kx s2 h2 => ?_) fun _ _ z => z)))
  have h3 := h2.write (w := #[v, kx]) hn2 s2.toks
  obtain ⟨_, _, _, _, _, _, ⟨c2, hb2⟩, _⟩ := id h2
  show wpAny _ X.A.in1 ((updateSeq (it + 1) (fun _ => #[v, kx])) >>= _) _ _ _
  refine wpAny_bind (wpAny_updateSeq hb2 rfl ?_)
  rw [hname]
  obtain ⟨H3, I3, g3, m1, m2, i3, b3, _, r3⟩ := h3
  refine wpAny_pure ⟨plainId_quiet PySem.F.plain_min_loop _, minJ_loop M (fun v' s' ⟨⟨x, hx, rx⟩, H', I', g'⟩ => ?_) _ (us.length - 1) 0 v kx _ (by omega) ⟨⟨H3, I3, g3, m1, m2, i3, b3, r3⟩, hv⟩⟩
  exact hQ x hx v' H' s' rx g' I'
end
end
end U
set_option Elab.async false
set_option linter.all false
set_option maxRecDepth 100000
set_option maxHeartbeats 1000000
/-! min(xs, key=lambda x: ..) over data -/
namespace U
open PySem PySem.Spec PyProof.Rows L2 NdefX LamX
/-- one of the items; tb: what the lambda's body makes of its parameter and the captured slots -/
def kMinLam (ta : KE) (js : List Nat) (tb : KE) : KE := fun ρ P => ta ρ fun d => ∃ ds, d = .lst ds ∧ ds ≠ [] ∧ (∀ d ∈ ds, tb (.p d :: js.map (fun j => ρ.getD j .any)) fun y => ∃ n1 n2, y = .tup [.int n1, .int n2]) ∧ ∀ d ∈ ds, P d
theorem slotAt_eq {σ : L2.St} {j : Nat} {x : Option V} (h : σ[j]? = some x) : NdefX.slotAt σ j = x := by
  unfold NdefX.slotAt
  rw [h]
theorem lam_re {S : Sta} {S' : Sta} {m : AD} {H : Hp} {σ : L2.St} {ρ : PSt} {N : List Str} {x : V} {d : D} {js : List Nat} (hK : S'.K = S.K) (hw : S'.tw = S.tw) (r : RE S m H σ ρ) (q : Rep S.K S.tw m H x d) (hN : N.length = 1 + js.length) : RE S' m H (startF N [x] (js.map (NdefX.slotAt σ))) (.p d :: js.map (fun j => ρ.getD j .any)) := by
  have e : startF N [x] (js.map (NdefX.slotAt σ)) = some x :: js.map (NdefX.slotAt σ) := by
    unfold startF
    rw [List.length_singleton, List.length_map, hN, show 1 + js.length - 1 - js.length = 0 by omega, List.replicate_zero, List.append_nil]; rfl
  rw [e]
  refine ⟨by rw [List.length_cons, List.length_cons, List.length_map, List.length_map], fun i y s h1 h2 => ?_, r.al, fun a ha => r.tp a (by rw [← hw]; exact ha), by rw [hK]; exact r.tb⟩
  rw [hK, hw]
  cases i with
  | zero =>
    cases h1; cases h2
    exact ⟨x, rfl, q⟩
  | succ i =>
    rw [List.getElem?_cons_succ, List.getElem?_map] at h1 h2
    cases hj : js[i]? with
    | none => rw [hj] at h1; cases h1
    | some j =>
      rw [hj] at h1 h2
      cases h1; cases h2
      show SlotRel S.K S.tw m H (NdefX.slotAt σ j) (ρ.getD j .any)
      rw [List.getD_eq_getElem?_getD]
      cases hs : ρ[j]? with
      | none => trivial
      | some s =>
        have hl : j < σ.length := by rw [r.len]; exact (List.getElem?_eq_some_iff.mp hs).1
        have := r.rel j σ[j] s (List.getElem?_eq_getElem hl) hs
        rw [slotAt_eq (List.getElem?_eq_getElem hl)]
        exact this
theorem r_minLam {S : Sta} {a : Expr} {ta tb : KE} {N fr : List Str} {x : Str} {lsc : Scope} {params : Arguments} {body : Expr} {js : List Nat} {k : Nat} {c : Addr} {p lpos k1 pos : Pos} (hg : Glo S "min") (hm : S.mg "min" = none) (ha : EvB S a ta) (hk : k + 2 ≤ S.k)
    (NS' : NScope N [x] fr lsc) (hjs : js.map (fun j => S.N[j]?) = fr.map some) (hN : N.length = 1 + js.length) (hfree : ∀ y ∈ lsc.names, y.2 = .free → S.sc.names.lookup y.1 = some .cell ∨ S.sc.names.lookup y.1 = some .free) (hfr : ∀ y ∈ fr, (y, NameKind.free) ∈ lsc.names)
    (hdef : ∀ env, defaultsOf params env = ([], [])) (hb : ∀ (q : Str) (cl : List (Str × Addr)) (pm cv ctv : Value) (us : List Value), us.length = 1 → bindArgs (PySem.W.kla_fn "<lambda>" q params body lsc cl pm cv ctv) ⟨us, []⟩ = pure ([x].zip us))
    (TB : TabB S.base S.mg c (TbK S.K)) (hev : ∀ env, S.ev env → env.code = .ref c ∧ env.qual ++ "<lambda>" = TQ) (hbody : EvR ⟨S.P, S.w, S.K, S.mg, S.base, N, lsc, fun _ => false, k, S.tw, fun _ => True⟩ body tb) (ns : NS a := by intro _ _; rfl) :
    EvR S (.Call (.Name "min" p) [a] [⟨some "key", .Lambda params body lsc lpos, k1⟩] pos) (kMinLam ta js tb) := by
  intro X ok m H σ ρ P r h pins s I
  obtain ⟨hcode, hq⟩ := hev _ ok.ev
  refine wpAny_Call_Name_kw (ld_blt I (hg.gl ok) (by rw [ok.mg]; exact hm) PyProof.Rows.boot_min ?_)
  have h' : tCons (wE X a) tNil σ H (fun vs H1 => ∃ v, vs = [v] ∧ ∃ d, (∃ ds, d = .lst ds ∧ ds ≠ [] ∧ (∀ d ∈ ds, tb (.p d :: js.map (fun j => ρ.getD j .any)) fun y => ∃ n1 n2, y = .tup [.int n1, .int n2]) ∧ ∀ d ∈ ds, P d) ∧ Ex S.tw H H1 ∧ RepB S.K S.tw m H1 v d) :=
    wE_mono (ha X ok m H σ ρ _ r h) fun v H1 _ q => ⟨v, rfl, q⟩
  refine PyProof.Rows.callWith_kw (thn ((pa_cons pe_w pa_nil (ns _ _)).run pos pins s σ H _ I h') fun us s1 ⟨vs, H1, I1, r1, q1⟩ => ?_) (by rw [ns]; rfl) (by rw [ns]; rfl)
  obtain ⟨v, rfl, d, ⟨ds, rfl, hne, htb, hP⟩, e1, q1⟩ := q1
  obtain ⟨l, xs, rfl, nwl, hl1, rs⟩ : ∃ l xs, v = .ref l ∧ ¬ S.tw l ∧ H1 l = some (.lst xs) ∧ Reps S.K S.tw m H1 xs ds := by
    rcases q1 with q1 | ⟨l, ds', xs, e, e', n, hl, q1⟩
    · cases q1 with
      | lst hl n ln f => exact ⟨_, _, rfl, (r.ex e1).nw n, hl, ln, f⟩
    · cases e
      exact ⟨l, xs, e', n, hl, q1⟩
  obtain ⟨u, rfl, rx⟩ := vals1 r1
  obtain rfl : u = Value.ref l := rx
  have ra := r.ex e1
  show wpAny _ _ (evalAll ((do let v ← eval (.Lambda params body lsc lpos) X.env; standAt pos; pure v) :: [])) _ _ s1
  refine wpAny_evalAll_cons (wpAny_bind (lam_make3 (P := TbK S.K) (c := c) I1 (by rw [ok.base, ok.mg]; exact TB) hcode ra.tb hq (hdef _) (fun y hy e => ?_) S.tw (fun b hb => (ra.tp b hb).2) fun f c' H2 s2 I2 e2 hf0 hf hc => wpAny_bind (wpAny_standAt (wpAny_pure (wpAny_evalAll_nil ?_)))))
  · have := hfree y hy e
    rw [← ok.sc] at this
    rcases this with z | z
    · exact I1.ok.has _ (.inl z)
    · exact I1.ok.has _ (.inr z)
  show wpAny _ _ (call (.builtin "min") [.ref l] [(Str.ofString "key", .ref f)]) _ _ _
  have rb := ra.ex e2
  have nw2 : ∀ b, H1 b = none → ¬ S.tw b := fun b hb z => ra.fresh hb (ra.tp b z).1
  have hl2 : H2 l = some (.lst xs) := e2.keep l _ hl1 nwl (ntbl_lst _)
  have rs2 := ra.reps e2 rs
  have nwf : ¬ S.tw f := nw2 f hf0
  have ntf : NTbl (LamO f ⟨"<lambda>", X.env.qual ++ "<lambda>", params, [], lsc, cloFrom X.env.cells lsc.names [], c'⟩ body) := fun ps z => by
    unfold LamO at z
    cases z
  have nwc : ¬ S.tw c' := fun z => by
    obtain ⟨i, j, q⟩ := (rb.tp c' z).2
    rw [q] at hc
    exact ncode_lst _ _ _ (Option.some.inj hc)
  have hxs : 0 < xs.length := by
    rw [rs.1]
    exact List.length_pos_iff.mpr hne
  refine minL_call (G := fun H => Ex S.tw H2 H) (us := xs) I2 (I2.ok.hd ok.calm) (by have := ok.room.un; show X.A.units + 1 + 64 < _; omega) .refl (fun H3 g => g.keep l _ hl2 nwl (ntbl_lst _)) hxs (fun H3 s3 x3 v3 hx rx g I3 => ?_) fun x3 hx v3 H3 s3 rx g I3 => ?_
  · have re3 := rb.ex g
    obtain ⟨i, hi⟩ := List.getElem?_of_mem hx
    have hid : i < ds.length := by rw [← rs.1]; exact (List.getElem?_eq_some_iff.mp hi).1
    have q3 : Rep S.K S.tw m H3 x3 ds[i] := rb.rep g (rs2.2 i x3 _ hi (List.getElem?_eq_getElem hid))
    have hr : Room (k + 1) X.A.in1 := Room.in1 (ok.room.mono (by omega))
    refine lam_run (N := N) (ps := [x]) (fr := fr) (F := ⟨"<lambda>", X.env.qual ++ "<lambda>", params, [], lsc, cloFrom X.env.cells lsc.names [], c'⟩) (e := body) (vs := [x3]) (ws := js.map (NdefX.slotAt σ)) (k := k) NS' (fun pm ctv us hu => hb _ _ _ _ _ us hu) hr I3.env0.in1 (g.keep f _ hf nwf ntf) (g.keep c' _ hc nwc (ntbl_code _ _))
      (cells_of I3 (Caps.made I3.ok (fun y hy e => by have := hfree y hy e; rw [← ok.sc] at this; exact this) hfr (by rw [ok.N]; exact hjs))) (.cons rx .nil) rfl ?_
    have okL : XOk ⟨S.P, S.w, S.K, S.mg, S.base, N, lsc, fun _ => false, k, S.tw, fun _ => True⟩ (ncx CX0 X.prog X.w X.K X.mg X.base N ⟨"<lambda>", X.env.qual ++ "<lambda>", params, [], lsc, cloFrom X.env.cells lsc.names [], c'⟩ f X.A.in1 X.stack s3 H3 E0).nox :=
      ⟨ok.prog, ok.w, ok.K, ok.mg, ok.base, rfl, rfl, rfl, rfl, hr.deeper _, rfl, trivial⟩
    refine wE_mono (hbody _ okL m H3 _ _ _ (lam_re (S := S) rfl rfl re3 q3 hN) (htb _ (List.getElem_mem hid))) fun v4 H4 _ ⟨y, ⟨n1, n2, ey⟩, e4, q4⟩ => ?_
    subst ey
    obtain ⟨t, ws, rfl, ht, rw'⟩ := q4.tupOf
    have := Reps.ints (ns := [n1, n2]) rw'
    subst this
    exact ⟨g.trans e4, t, n1, n2, rfl, ht⟩
  · obtain ⟨i, hi⟩ := List.getElem?_of_mem hx
    have hid : i < ds.length := by rw [← rs.1]; exact (List.getElem?_eq_some_iff.mp hi).1
    exact ⟨x3, H3, I3, rx, ds[i], hP _ (List.getElem_mem hid), (e1.trans e2).trans g, rb.rep g (rs2.2 i x3 _ hi (List.getElem?_eq_getElem hid))⟩
end U
set_option Elab.async false
set_option linter.all false
set_option maxRecDepth 100000
set_option maxHeartbeats 4000000
namespace U
open PySem PySem.Spec PyProof.Rows L2
structure TcSearch (K : PySem.W.Frag) (C : Addr) : Prop where
  cls : Cls K C
  na_near : NoAttr K C "near"
  na_below : NoAttr K C "below"
structure TcLists (K : PySem.W.Frag) (C : Addr) : Prop where
  cls : Cls K C
  na_beside : NoAttr K C "beside"
  na_own_lists : NoAttr K C "own_lists"
end U
set_option Elab.async false
set_option linter.all false
set_option maxRecDepth 100000
set_option maxHeartbeats 4000000
namespace U
open PySem PySem.Spec PyProof.Rows L2
section
variable {P : Program} {w : World} {K : PySem.W.Frag} {mg : Str → Option Value} {base : Heap} {k : Nat} {tw : AD} {cSearch cLists : Addr}

abbrev S_is_number : Stmt := topS 7
abbrev N_is_number : List Str := ["thing"]
theorem nd_is_number : (N_is_number).Nodup := by decide +kernel
theorem b_is_number {K : PySem.W.Frag} {f : Addr} {fd : FuncData} (F : Fun K "is_number" "is_number" S_is_number f fd) : Binds K fd ["thing"] [] := F.binds (ps := ["thing"]) fun _ _ _ _ _ _ us hl => match us, hl with | [_], _ => rfl
theorem sc_is_number : FnScope N_is_number ["thing"] (defScope S_is_number) := ⟨rfl, rfl, rfl, nd_is_number, rfl, by decide +kernel, by decide +kernel⟩
def k_is_number : KS := kSeq (kRet (kAnd (kIsi (isiD "int") (kVarB 0)) (kNot (kIsi (isiD "bool") (kVarB 0))))) (kNext)
theorem d_is_number (T : Tx K mg) : SlR ⟨P, w, K, mg, base, N_is_number, defScope S_is_number, fun _ => true, k, tw, fun _ => True⟩ (defBody S_is_number) (k_is_number) :=
  l_cons (s_ret (r_and (r_isi (by rfl) T.b_isinstance (by rfl) T.b_int (by rfl) (vb 0)) (r_one (r_not (r_isi (by rfl) T.b_isinstance (by rfl) T.b_bool (by rfl) (vb 0)))))) (l_nil)
abbrev S_look_place : Stmt := topS 8
abbrev N_look_place : List Str := ["web", "place"]
theorem nd_look_place : (N_look_place).Nodup := by decide +kernel
theorem b_look_place {K : PySem.W.Frag} {f : Addr} {fd : FuncData} (F : Fun K "look_place" "look_place" S_look_place f fd) : Binds K fd ["web", "place"] [] := F.binds (ps := ["web", "place"]) fun _ _ _ _ _ _ us hl => match us, hl with | [_, _], _ => rfl
theorem sc_look_place : FnScope N_look_place ["web", "place"] (defScope S_look_place) := ⟨rfl, rfl, rfl, nd_look_place, rfl, by decide +kernel, by decide +kernel⟩
def k_look_place (q_is_number : PSp) : KS := kSeq (ksIf (tkOr (tkNot (tkV (kCall q_is_number (kCons (kVar 1) (kNil))))) (tkNot (kChain leP ltP (kC (.int 0)) (kVarB 1) (kBin ixP (kVarB 0) (kC (.int 0)))))) (kSeq (kNever) (kNext)) (kNext)) (kNext)
theorem d_look_place {q_is_number : PSp} (T : Tx K mg) (c_is_number : Callee P w K mg base k "is_number" q_is_number) : SlR ⟨P, w, K, mg, base, N_look_place, defScope S_look_place, fun _ => true, k, tw, fun _ => True⟩ (defBody S_look_place) (k_look_place q_is_number) :=
  l_cons (s_if (TwR.t (t_or (t_not (t_val (r_call c_is_number (Nat.le_refl _) (by rfl) (a_cons (v 1) (a_nil))))) (t_or1 (t_not (t_chain cd_le cd_lt (EvR.b (r_int)) (vb 1) (EvR.b (r_ix (vb 0) (EvR.b (r_int))))))))) (l_cons (s_never) (l_nil)) (l_nil)) (l_nil)
abbrev S_look_tie : Stmt := topS 9
abbrev N_look_tie : List Str := ["web", "tie"]
theorem nd_look_tie : (N_look_tie).Nodup := by decide +kernel
theorem b_look_tie {K : PySem.W.Frag} {f : Addr} {fd : FuncData} (F : Fun K "look_tie" "look_tie" S_look_tie f fd) : Binds K fd ["web", "tie"] [] := F.binds (ps := ["web", "tie"]) fun _ _ _ _ _ _ us hl => match us, hl with | [_, _], _ => rfl
theorem sc_look_tie : FnScope N_look_tie ["web", "tie"] (defScope S_look_tie) := ⟨rfl, rfl, rfl, nd_look_tie, rfl, by decide +kernel, by decide +kernel⟩
def k_look_tie (q_is_number : PSp) : KS := kSeq (ksIf (tkOr (tkNot (tkV (kCall q_is_number (kCons (kVar 1) (kNil))))) (tkNot (kChain leP ltP (kC (.int 0)) (kVarB 1) (kCall lenP (kCons (kBin ixP (kVarB 0) (kC (.int 1))) (kNil)))))) (kSeq (kNever) (kNext)) (kNext)) (kNext)
theorem d_look_tie {q_is_number : PSp} (T : Tx K mg) (c_is_number : Callee P w K mg base k "is_number" q_is_number) : SlR ⟨P, w, K, mg, base, N_look_tie, defScope S_look_tie, fun _ => true, k, tw, fun _ => True⟩ (defBody S_look_tie) (k_look_tie q_is_number) :=
  l_cons (s_if (TwR.t (t_or (t_not (t_val (r_call c_is_number (Nat.le_refl _) (by rfl) (a_cons (v 1) (a_nil))))) (t_or1 (t_not (t_chain cd_le cd_lt (EvR.b (r_int)) (vb 1) (EvR.b (r_callB bd_len (by rfl) T.b_len (by rfl) (ab_cons (EvR.b (r_ix (vb 0) (EvR.b (r_int)))) (ab_nil))))))))) (l_cons (s_never) (l_nil)) (l_nil)) (l_nil)
abbrev S_ties_at : Stmt := topS 11
abbrev N_ties_at : List Str := ["web", "place", "number", "tie"]
theorem nd_ties_at : (N_ties_at).Nodup := by decide +kernel
theorem b_ties_at {K : PySem.W.Frag} {f : Addr} {fd : FuncData} (F : Fun K "ties_at" "ties_at" S_ties_at f fd) : Binds K fd ["web", "place"] [] := F.binds (ps := ["web", "place"]) fun _ _ _ _ _ _ us hl => match us, hl with | [_, _], _ => rfl
theorem sc_ties_at : FnScope N_ties_at ["web", "place"] (defScope S_ties_at) := ⟨rfl, rfl, rfl, nd_ties_at, rfl, by decide +kernel, by decide +kernel⟩
def k_ties_at (q_look_place : PSp) : KS := kSeq (kDrop (kCall q_look_place (kCons (kVar 0) (kCons (kVar 1) (kNil))))) (kSeq (kRet (kF (kLc (kItET (kBin ixP (kVarB 0) (kC (.int 1)))) (gkTup 2 (gkCons (gkName 2) (gkCons (gkName 3) (gkNil)))) (kCmpT inP (kVarB 1) (kVarB 3)) (kVar 2) [2, 3]))) (kNext))
theorem d_ties_at {q_look_place : PSp} (T : Tx K mg) (c_look_place : Callee P w K mg base k "look_place" q_look_place) : SlR ⟨P, w, K, mg, base, N_ties_at, defScope S_ties_at, fun _ => true, k, tw, fun _ => True⟩ (defBody S_ties_at) (k_ties_at q_look_place) :=
  l_cons (s_drop (r_call c_look_place (Nat.le_refl _) (by rfl) (a_cons (v 0) (a_cons (v 1) (a_nil))))) (l_cons (s_ret (EvF.r (r_lc (own := [("number", 2), ("tie", 3)]) nd_ties_at (by rfl) (i_enumT (by rfl) T.b_enumerate (r_ix (vb 0) (EvR.b (r_int)))) (g_tup (gs_cons (gn 2 nd_ties_at) (gs_cons (gn 3 nd_ties_at) (gs_nil)))) (by decide) (.one (t_cmp cd_in (vb 1) (vb 3) (by rfl))) (v 2)))) (l_nil))
abbrev S_count_at : Stmt := topS 12
abbrev N_count_at : List Str := ["web", "place"]
theorem nd_count_at : (N_count_at).Nodup := by decide +kernel
theorem b_count_at {K : PySem.W.Frag} {f : Addr} {fd : FuncData} (F : Fun K "count_at" "count_at" S_count_at f fd) : Binds K fd ["web", "place"] [] := F.binds (ps := ["web", "place"]) fun _ _ _ _ _ _ us hl => match us, hl with | [_, _], _ => rfl
theorem sc_count_at : FnScope N_count_at ["web", "place"] (defScope S_count_at) := ⟨rfl, rfl, rfl, nd_count_at, rfl, by decide +kernel, by decide +kernel⟩
def k_count_at (q_ties_at : PSp) : KS := kSeq (kRet (kCall lenP (kCons (kCall q_ties_at (kCons (kVar 0) (kCons (kVar 1) (kNil)))) (kNil)))) (kNext)
theorem d_count_at {q_ties_at : PSp} (T : Tx K mg) (c_ties_at : Callee P w K mg base k "ties_at" q_ties_at) : SlR ⟨P, w, K, mg, base, N_count_at, defScope S_count_at, fun _ => true, k, tw, fun _ => True⟩ (defBody S_count_at) (k_count_at q_ties_at) :=
  l_cons (s_ret (r_callB bd_len (by rfl) T.b_len (by rfl) (ab_cons (EvR.b (r_call c_ties_at (Nat.le_refl _) (by rfl) (a_cons (v 0) (a_cons (v 1) (a_nil))))) (ab_nil)))) (l_nil)
abbrev S_most_at : Stmt := topS 13
abbrev N_most_at : List Str := ["web", "ties"]
theorem nd_most_at : (N_most_at).Nodup := by decide +kernel
theorem b_most_at {K : PySem.W.Frag} {f : Addr} {fd : FuncData} (F : Fun K "most_at" "most_at" S_most_at f fd) : Binds K fd ["web"] [] := F.binds (ps := ["web"]) fun _ _ _ _ _ _ us hl => match us, hl with | [_], _ => rfl
theorem sc_most_at : FnScope N_most_at ["web"] (defScope S_most_at) := ⟨rfl, rfl, rfl, nd_most_at, rfl, by decide +kernel, by decide +kernel⟩
def k_most_at (q_ties_by_place : PSp) : KS := kSeq (kRet (kCall maxDP (kCons (kF (kLc (kItS (kCall q_ties_by_place (kCons (kVar 0) (kNil)))) (gkName 1) (tkYes) (kCall lenP (kCons (kVarB 1) (kNil))) [1])) (kCons (kC (.int 0)) kNil)))) (kNext)
theorem d_most_at {q_ties_by_place : PSp} (T : Tx K mg) (c_ties_by_place : Callee P w K mg base k "ties_by_place" q_ties_by_place) : SlR ⟨P, w, K, mg, base, N_most_at, defScope S_most_at, fun _ => true, k, tw, fun _ => True⟩ (defBody S_most_at) (k_most_at q_ties_by_place) :=
  l_cons (s_ret (r_maxD (by rfl) T.b_max (EvR.b (EvF.r (r_lc (own := [("ties", 1)]) nd_most_at (by rfl) (i_seq (r_call c_ties_by_place (Nat.le_refl _) (by rfl) (a_cons (v 0) (a_nil)))) (gn 1 nd_most_at) (by decide) (.nil) (r_callB bd_len (by rfl) T.b_len (by rfl) (ab_cons (vb 1) (ab_nil)))))) (r_int))) (l_nil)
abbrev S_far_end : Stmt := topS 14
abbrev N_far_end : List Str := ["web", "tie", "place", "one", "other"]
theorem nd_far_end : (N_far_end).Nodup := by decide +kernel
theorem b_far_end {K : PySem.W.Frag} {f : Addr} {fd : FuncData} (F : Fun K "far_end" "far_end" S_far_end f fd) : Binds K fd ["web", "tie", "place"] [] := F.binds (ps := ["web", "tie", "place"]) fun _ _ _ _ _ _ us hl => match us, hl with | [_, _, _], _ => rfl
theorem sc_far_end : FnScope N_far_end ["web", "tie", "place"] (defScope S_far_end) := ⟨rfl, rfl, rfl, nd_far_end, rfl, by decide +kernel, by decide +kernel⟩
def k_far_end (q_look_tie q_is_number : PSp) : KS := kSeq (kDrop (kCall q_look_tie (kCons (kVar 0) (kCons (kVar 1) (kNil))))) (kSeq (kTgt (kBin ixP (kBin ixP (kVarB 0) (kC (.int 1))) (kVarB 1)) (gkTup 2 (gkCons (gkName 3) (gkCons (gkName 4) (gkNil))))) (kSeq (ksIf (tkOr (kCmpT ninP (kVarB 2) (kTup (kCons (kVar 3) (kCons (kVar 4) (kNil))))) (tkNot (tkV (kCall q_is_number (kCons (kVar 2) (kNil)))))) (kSeq (kNever) (kNext)) (kNext)) (kSeq (kRet (kIf (kCmpT eqP (kVarB 2) (kVarB 3)) (kVar 4) (kVar 3))) (kNext))))
theorem d_far_end {q_look_tie q_is_number : PSp} (T : Tx K mg) (c_look_tie : Callee P w K mg base k "look_tie" q_look_tie) (c_is_number : Callee P w K mg base k "is_number" q_is_number) : SlR ⟨P, w, K, mg, base, N_far_end, defScope S_far_end, fun _ => true, k, tw, fun _ => True⟩ (defBody S_far_end) (k_far_end q_look_tie q_is_number) :=
  l_cons (s_drop (r_call c_look_tie (Nat.le_refl _) (by rfl) (a_cons (v 0) (a_cons (v 1) (a_nil))))) (l_cons (s_tgt (r_ix (EvR.b (r_ix (vb 0) (EvR.b (r_int)))) (vb 1)) (g_tup (gs_cons (gn 3 nd_far_end) (gs_cons (gn 4 nd_far_end) (gs_nil))))) (l_cons (s_if (TwR.t (t_or (t_cmp cd_nin (vb 2) (EvR.b (r_tup (a_cons (v 3) (a_cons (v 4) (a_nil))))) (by rfl)) (t_or1 (t_not (t_val (r_call c_is_number (Nat.le_refl _) (by rfl) (a_cons (v 2) (a_nil)))))))) (l_cons (s_never) (l_nil)) (l_nil)) (l_cons (s_ret (r_if (t_cmp cd_eq (vb 2) (vb 3) (by rfl)) (v 4) (v 3))) (l_nil))))
abbrev S_part_from : Stmt := topS 15
abbrev N_part_from : List Str := ["web", "by_place", "place", "met", "waiting", "here", "tie", "further"]
theorem nd_part_from : (N_part_from).Nodup := by decide +kernel
theorem b_part_from {K : PySem.W.Frag} {f : Addr} {fd : FuncData} (F : Fun K "part_from" "part_from" S_part_from f fd) : Binds K fd ["web", "by_place", "place"] [] := F.binds (ps := ["web", "by_place", "place"]) fun _ _ _ _ _ _ us hl => match us, hl with | [_, _, _], _ => rfl
theorem sc_part_from : FnScope N_part_from ["web", "by_place", "place"] (defScope S_part_from) := ⟨rfl, rfl, rfl, nd_part_from, rfl, by decide +kernel, by decide +kernel⟩
def k_part_from : KS := kSeq (kDk1 3 (kVar 2) (kC (.bl true))) (kSeq (kOwn 4 (kLst (kCons (kVar 2) (kNil)))) (kSeq (ksWhile (kCmpT gtP (kCall lenP (kCons (kVarB 4) (kNil))) (kC (.int 0))) (kSeq (kPop 5 4) (kSeq (ksFor (kItS (kBin ixP (kVarB 1) (kVarB 5))) (gkName 6) (kSeq (kSet 7 (kBin subP (kCall sumTP (kCons (kBin ixP (kBin ixP (kVarB 0) (kC (.int 1))) (kVarB 6)) (kNil))) (kVarB 5))) (kSeq (ksIf (kInDk true 3 (kVar 7)) (kSeq (kDkPut 3 (kC (.bl true)) (kVar 7)) (kSeq (kApp 4 (kVar 7)) (kNext))) (kNext)) (kNext)))) (kNext)))) (kSeq (kRet (kF (kSorted 3))) (kNext))))
theorem d_part_from (T : Tx K mg) : SlR ⟨P, w, K, mg, base, N_part_from, defScope S_part_from, fun _ => true, k, tw, fun _ => True⟩ (defBody S_part_from) (k_part_from) :=
  l_cons (s_dk1 3 nd_part_from (by rfl) (by first | exact Or.inl rfl | exact Or.inr ⟨rfl, rfl⟩) (v 2) (r_bl)) (l_cons (s_own 4 nd_part_from (by rfl) (by first | exact Or.inl rfl | exact Or.inr ⟨rfl, rfl⟩) (r_lst (a_cons (v 2) (a_nil)))) (l_cons (s_while (t_cmp cd_gt (EvR.b (r_callB bd_len (by rfl) T.b_len (by rfl) (ab_cons (vb 4) (ab_nil)))) (EvR.b (r_int)) (by rfl)) (l_cons (s_pop 5 4 nd_part_from (by rfl) (by first | exact Or.inl rfl | exact Or.inr ⟨rfl, rfl⟩) (rdl 4) ⟨fun _ => rfl, fun _ => rfl, rfl⟩) (l_cons (s_for (i_seq (r_ix (vb 1) (vb 5))) (gn 6 nd_part_from) (l_cons (s_set 7 nd_part_from (by rfl) (by first | exact Or.inl rfl | exact Or.inr ⟨rfl, rfl⟩) (r_bin od_sub (EvR.b (r_callB bd_sumT (by rfl) T.b_sum (by rfl) (ab_cons (EvR.b (r_ix (EvR.b (r_ix (vb 0) (EvR.b (r_int)))) (vb 6))) (ab_nil)))) (vb 5))) (l_cons (s_if (t_ninDk 3 (rdl 3) (v 7)) (l_cons (s_dkPut 3 (rdl 3) (v 7) (r_bl)) (l_cons (s_app 4 (rdl 4) (v 7) ⟨fun _ => rfl, fun _ => rfl, rfl⟩) (l_nil))) (l_nil)) (l_nil)))) (l_nil)))) (l_cons (s_ret (EvF.r (r_sorted 3 (rdl 3) (by rfl) T.b_sorted))) (l_nil))))
abbrev S_parts : Stmt := topS 16
abbrev N_parts : List Str := ["web", "by_place", "found", "met", "place", "one"]
theorem nd_parts : (N_parts).Nodup := by decide +kernel
theorem b_parts {K : PySem.W.Frag} {f : Addr} {fd : FuncData} (F : Fun K "parts" "parts" S_parts f fd) : Binds K fd ["web"] [] := F.binds (ps := ["web"]) fun _ _ _ _ _ _ us hl => match us, hl with | [_], _ => rfl
theorem sc_parts : FnScope N_parts ["web"] (defScope S_parts) := ⟨rfl, rfl, rfl, nd_parts, rfl, by decide +kernel, by decide +kernel⟩
def k_parts (q_ties_by_place q_part_from : PSp) : KS := kSeq (kSet 1 (kCall q_ties_by_place (kCons (kVar 0) (kNil)))) (kSeq (kOwn 2 (kLst (kNil))) (kSeq (kDk0 3) (kSeq (ksFor (kItR1 (kBin ixP (kVarB 0) (kC (.int 0)))) (gkName 4) (kSeq (ksIf (kInDk true 3 (kVar 4)) (kSeq (kApp 2 (kCall q_part_from (kCons (kVar 0) (kCons (kVar 1) (kCons (kVar 4) (kNil)))))) (kSeq (kUpd 3 (kF (kLc (kItS (kBin ixP (kVarB 2) (kNeg (kC (.int 1))))) (gkName 5) (tkYes) (kTup (kCons (kVar 5) (kCons (kC (.bl true)) (kNil)))) [5]))) (kNext))) (kNext)) (kNext))) (kRel 2 (kSeq (kRet (kVar 2)) (kNext))))))
theorem d_parts {q_ties_by_place q_part_from : PSp} (T : Tx K mg) (c_ties_by_place : Callee P w K mg base k "ties_by_place" q_ties_by_place) (c_part_from : Callee P w K mg base k "part_from" q_part_from) : SlR ⟨P, w, K, mg, base, N_parts, defScope S_parts, fun _ => true, k, tw, fun _ => True⟩ (defBody S_parts) (k_parts q_ties_by_place q_part_from) :=
  l_cons (s_set 1 nd_parts (by rfl) (by first | exact Or.inl rfl | exact Or.inr ⟨rfl, rfl⟩) (r_call c_ties_by_place (Nat.le_refl _) (by rfl) (a_cons (v 0) (a_nil)))) (l_cons (s_own 2 nd_parts (by rfl) (by first | exact Or.inl rfl | exact Or.inr ⟨rfl, rfl⟩) (r_lst (a_nil))) (l_cons (s_dk0 3 nd_parts (by rfl) (by first | exact Or.inl rfl | exact Or.inr ⟨rfl, rfl⟩)) (l_cons (s_for (i_range1 (by rfl) T.b_range (r_ix (vb 0) (EvR.b (r_int)))) (gn 4 nd_parts) (l_cons (s_if (t_ninDk 3 (rdl 3) (v 4)) (l_cons (s_app 2 (rdl 2) (r_call c_part_from (Nat.le_refl _) (by rfl) (a_cons (v 0) (a_cons (v 1) (a_cons (v 4) (a_nil))))) ⟨fun _ => rfl, fun _ => rfl, rfl⟩) (l_cons (s_upd 3 (rdl 3) (EvF.r (r_lc (own := [("one", 5)]) nd_parts (by rfl) (i_seq (r_ix (vb 2) (EvR.b (r_neg (r_int))))) (gn 5 nd_parts) (by decide) (.nil) (r_tup (a_cons (v 5) (a_cons (r_bl) (a_nil)))))) ⟨fun _ => rfl, fun _ => rfl, rfl⟩) (l_nil))) (l_nil)) (l_nil))) (l_rel 2 (l_cons (s_ret (v 2)) (l_nil))))))
abbrev S_only : Stmt := topS 17
abbrev N_only : List Str := ["web", "ties", "tie"]
theorem nd_only : (N_only).Nodup := by decide +kernel
theorem b_only {K : PySem.W.Frag} {f : Addr} {fd : FuncData} (F : Fun K "only" "only" S_only f fd) : Binds K fd ["web", "ties"] [] := F.binds (ps := ["web", "ties"]) fun _ _ _ _ _ _ us hl => match us, hl with | [_, _], _ => rfl
theorem sc_only : FnScope N_only ["web", "ties"] (defScope S_only) := ⟨rfl, rfl, rfl, nd_only, rfl, by decide +kernel, by decide +kernel⟩
def k_only (q_look_tie : PSp) : KS := kSeq (ksFor (kItS (kVar 1)) (gkName 2) (kSeq (kDrop (kCall q_look_tie (kCons (kVar 0) (kCons (kVar 2) (kNil))))) (kNext))) (kSeq (kRet (kTup (kCons (kBin ixP (kVarB 0) (kC (.int 0))) (kCons (kCall tupleP (kCons (kF (kLc (kItS (kVar 1)) (gkName 2) (tkYes) (kBin ixP (kBin ixP (kVarB 0) (kC (.int 1))) (kVarB 2)) [2])) (kNil))) (kNil))))) (kNext))
theorem d_only {q_look_tie : PSp} (T : Tx K mg) (c_look_tie : Callee P w K mg base k "look_tie" q_look_tie) : SlR ⟨P, w, K, mg, base, N_only, defScope S_only, fun _ => true, k, tw, fun _ => True⟩ (defBody S_only) (k_only q_look_tie) :=
  l_cons (s_for (i_seq (v 1)) (gn 2 nd_only) (l_cons (s_drop (r_call c_look_tie (Nat.le_refl _) (by rfl) (a_cons (v 0) (a_cons (v 2) (a_nil))))) (l_nil))) (l_cons (s_ret (r_tup (a_cons (r_ix (vb 0) (EvR.b (r_int))) (a_cons (r_callT bd_tuple (by rfl) T.b_tuple (by rfl) (ab_cons (EvR.b (EvF.r (r_lc (own := [("tie", 2)]) nd_only (by rfl) (i_seq (v 1)) (gn 2 nd_only) (by decide) (.nil) (r_ix (EvR.b (r_ix (vb 0) (EvR.b (r_int)))) (vb 2))))) (ab_nil))) (a_nil))))) (l_nil))
abbrev S_within : Stmt := topS 18
abbrev N_within : List Str := ["web", "places", "number", "one", "other"]
theorem nd_within : (N_within).Nodup := by decide +kernel
theorem b_within {K : PySem.W.Frag} {f : Addr} {fd : FuncData} (F : Fun K "within" "within" S_within f fd) : Binds K fd ["web", "places"] [] := F.binds (ps := ["web", "places"]) fun _ _ _ _ _ _ us hl => match us, hl with | [_, _], _ => rfl
theorem sc_within : FnScope N_within ["web", "places"] (defScope S_within) := ⟨rfl, rfl, rfl, nd_within, rfl, by decide +kernel, by decide +kernel⟩
def k_within : KS := kSeq (kRet (kF (kLc (kItET (kBin ixP (kVarB 0) (kC (.int 1)))) (gkTup 2 (gkCons (gkName 2) (gkCons (gkTup 2 (gkCons (gkName 3) (gkCons (gkName 4) (gkNil)))) (gkNil)))) (tkAnd (kCmpT inP (kVarB 3) (kVarB 1)) (kCmpT inP (kVarB 4) (kVarB 1))) (kVar 2) [2, 3, 4]))) (kNext)
theorem d_within (T : Tx K mg) : SlR ⟨P, w, K, mg, base, N_within, defScope S_within, fun _ => true, k, tw, fun _ => True⟩ (defBody S_within) (k_within) :=
  l_cons (s_ret (EvF.r (r_lc (own := [("number", 2), ("one", 3), ("other", 4)]) nd_within (by rfl) (i_enumT (by rfl) T.b_enumerate (r_ix (vb 0) (EvR.b (r_int)))) (g_tup (gs_cons (gn 2 nd_within) (gs_cons (g_tup (gs_cons (gn 3 nd_within) (gs_cons (gn 4 nd_within) (gs_nil)))) (gs_nil)))) (by decide) (.one (TwR.t (t_and (t_cmp cd_in (vb 3) (vb 1) (by rfl)) (t_and1 (t_cmp cd_in (vb 4) (vb 1) (by rfl)))))) (v 2)))) (l_nil)
abbrev S_is_hue : Stmt := topS 20
abbrev N_is_hue : List Str := ["thing"]
theorem nd_is_hue : (N_is_hue).Nodup := by decide +kernel
theorem b_is_hue {K : PySem.W.Frag} {f : Addr} {fd : FuncData} (F : Fun K "is_hue" "is_hue" S_is_hue f fd) : Binds K fd ["thing"] [] := F.binds (ps := ["thing"]) fun _ _ _ _ _ _ us hl => match us, hl with | [_], _ => rfl
theorem sc_is_hue : FnScope N_is_hue ["thing"] (defScope S_is_hue) := ⟨rfl, rfl, rfl, nd_is_hue, rfl, by decide +kernel, by decide +kernel⟩
def k_is_hue (q_is_number : PSp) : KS := kSeq (kRet (kOr (kCmp isP (kVarB 0) (kC .non)) (kAnd (kCall q_is_number (kCons (kVar 0) (kNil))) (kCmp geP (kVarB 0) (kC (.int 0)))))) (kNext)
theorem d_is_hue {q_is_number : PSp} (T : Tx K mg) (c_is_number : Callee P w K mg base k "is_number" q_is_number) : SlR ⟨P, w, K, mg, base, N_is_hue, defScope S_is_hue, fun _ => true, k, tw, fun _ => True⟩ (defBody S_is_hue) (k_is_hue q_is_number) :=
  l_cons (s_ret (r_or (r_cmp cd_is (vb 0) (EvR.b (r_non)) (by rfl)) (r_one (r_and (r_call c_is_number (Nat.le_refl _) (by rfl) (a_cons (v 0) (a_nil))) (r_one (r_cmp cd_ge (vb 0) (EvR.b (r_int)) (by rfl))))))) (l_nil)
abbrev S_clash_of : Stmt := topS 21
abbrev N_clash_of : List Str := ["web", "row", "first", "pairs", "tie", "hue", "place"]
theorem nd_clash_of : (N_clash_of).Nodup := by decide +kernel
theorem b_clash_of {K : PySem.W.Frag} {f : Addr} {fd : FuncData} (F : Fun K "clash_of" "clash_of" S_clash_of f fd) : Binds K fd ["web", "row"] [] := F.binds (ps := ["web", "row"]) fun _ _ _ _ _ _ us hl => match us, hl with | [_, _], _ => rfl
theorem sc_clash_of : FnScope N_clash_of ["web", "row"] (defScope S_clash_of) := ⟨rfl, rfl, rfl, nd_clash_of, rfl, by decide +kernel, by decide +kernel⟩
def k_clash_of : KS := kSeq (kDt0 2) (kSeq (kOwn 3 (kLst (kNil))) (kSeq (ksFor (kItE (kVar 1)) (gkTup 2 (gkCons (gkName 4) (gkCons (gkName 5) (gkNil)))) (kSeq (ksFor (kItS (kBin ixP (kBin ixP (kVarB 0) (kC (.int 1))) (kVarB 4))) (gkName 6) (kSeq (ksIf (tkAnd (kCmpT nisP (kVarB 5) (kC .non)) (kInDt 2 (kTup (kCons (kVar 6) (kCons (kVar 5) (kNil)))))) (kSeq (kApp 3 (kTup (kCons (kBin ixP (kVarB 2) (kTup (kCons (kVar 6) (kCons (kVar 5) (kNil))))) (kCons (kVar 4) (kNil))))) (kNext)) (kSeq (ksIf (kCmpT nisP (kVarB 5) (kC .non)) (kSeq (kDtPut 2 (kVar 4) (kTup (kCons (kVar 6) (kCons (kVar 5) (kNil))))) (kNext)) (kNext)) (kNext))) (kNext))) (kNext))) (kSeq (kRet (kCall minDP (kCons (kVarB 3) (kCons (kC .non) kNil)))) (kNext))))
theorem d_clash_of (T : Tx K mg) : SlR ⟨P, w, K, mg, base, N_clash_of, defScope S_clash_of, fun _ => true, k, tw, fun _ => True⟩ (defBody S_clash_of) (k_clash_of) :=
  l_cons (s_dt0 2 nd_clash_of (by rfl) (by first | exact Or.inl rfl | exact Or.inr ⟨rfl, rfl⟩)) (l_cons (s_own 3 nd_clash_of (by rfl) (by first | exact Or.inl rfl | exact Or.inr ⟨rfl, rfl⟩) (r_lst (a_nil))) (l_cons (s_for (i_enum (by rfl) T.b_enumerate (v 1)) (g_tup (gs_cons (gn 4 nd_clash_of) (gs_cons (gn 5 nd_clash_of) (gs_nil)))) (l_cons (s_for (i_seq (r_ix (EvR.b (r_ix (vb 0) (EvR.b (r_int)))) (vb 4))) (gn 6 nd_clash_of) (l_cons (s_if (TwR.t (t_and (t_cmp cd_nis (vb 5) (EvR.b (r_non)) (by rfl)) (t_and1 (t_inDt 2 (rdl 2) (r_tup (a_cons (v 6) (a_cons (v 5) (a_nil)))))))) (l_cons (s_app 3 (rdl 3) (r_tup (a_cons (r_ix (vb 2) (EvR.b (r_tup (a_cons (v 6) (a_cons (v 5) (a_nil)))))) (a_cons (v 4) (a_nil)))) ⟨fun _ => rfl, fun _ => rfl, rfl⟩) (l_nil)) (l_cons (s_if (t_cmp cd_nis (vb 5) (EvR.b (r_non)) (by rfl)) (l_cons (s_dtPut 2 (rdl 2) (r_tup (a_cons (v 6) (a_cons (v 5) (a_nil)))) (v 4)) (l_nil)) (l_nil)) (l_nil))) (l_nil))) (l_nil))) (l_cons (s_ret (r_minD (by rfl) T.b_min (vb 3) (r_non))) (l_nil))))
abbrev S_is_hueing : Stmt := topS 22
abbrev N_is_hueing : List Str := ["web", "thing", "hue"]
theorem nd_is_hueing : (N_is_hueing).Nodup := by decide +kernel
theorem b_is_hueing {K : PySem.W.Frag} {f : Addr} {fd : FuncData} (F : Fun K "is_hueing" "is_hueing" S_is_hueing f fd) : Binds K fd ["web", "thing"] [] := F.binds (ps := ["web", "thing"]) fun _ _ _ _ _ _ us hl => match us, hl with | [_, _], _ => rfl
theorem sc_is_hueing : FnScope N_is_hueing ["web", "thing"] (defScope S_is_hueing) := ⟨rfl, rfl, rfl, nd_is_hueing, rfl, by decide +kernel, by decide +kernel⟩
def k_is_hueing (q_is_hue q_clash_of : PSp) : KS := kSeq (ksIf (tkOr (tkNot (tkV (kIsi isiD2 (kVarB 1)))) (kCmpT neP (kCall lenP (kCons (kVarB 1) (kNil))) (kCall lenP (kCons (kBin ixP (kVarB 0) (kC (.int 1))) (kNil))))) (kSeq (kRet (kC (.bl false))) (kNext)) (kNext)) (kSeq (kRet (kAnd (kCall allP (kCons (kF (kLc (kItS (kVar 1)) (gkName 2) (tkYes) (kCall q_is_hue (kCons (kVar 2) (kNil))) [2])) (kNil))) (kCmp isP (kCall q_clash_of (kCons (kVar 0) (kCons (kVar 1) (kNil)))) (kC .non)))) (kNext))
theorem d_is_hueing {q_is_hue q_clash_of : PSp} (T : Tx K mg) (c_is_hue : Callee P w K mg base k "is_hue" q_is_hue) (c_clash_of : Callee P w K mg base k "clash_of" q_clash_of) : SlR ⟨P, w, K, mg, base, N_is_hueing, defScope S_is_hueing, fun _ => true, k, tw, fun _ => True⟩ (defBody S_is_hueing) (k_is_hueing q_is_hue q_clash_of) :=
  l_cons (s_if (TwR.t (t_or (t_not (t_val (r_isi2 (by rfl) T.b_isinstance (by rfl) T.b_list (by rfl) T.b_tuple (vb 1)))) (t_or1 (t_cmp cd_ne (EvR.b (r_callB bd_len (by rfl) T.b_len (by rfl) (ab_cons (vb 1) (ab_nil)))) (EvR.b (r_callB bd_len (by rfl) T.b_len (by rfl) (ab_cons (EvR.b (r_ix (vb 0) (EvR.b (r_int)))) (ab_nil)))) (by rfl))))) (l_cons (s_ret (r_bl)) (l_nil)) (l_nil)) (l_cons (s_ret (r_and (r_callB bd_all (by rfl) T.b_all (by rfl) (ab_cons (EvR.b (EvF.r (r_lc (own := [("hue", 2)]) nd_is_hueing (by rfl) (i_seq (v 1)) (gn 2 nd_is_hueing) (by decide) (.nil) (r_call c_is_hue (Nat.le_refl _) (by rfl) (a_cons (v 2) (a_nil)))))) (ab_nil))) (r_one (r_cmp cd_is (EvR.b (r_call c_clash_of (Nat.le_refl _) (by rfl) (a_cons (v 0) (a_cons (v 1) (a_nil))))) (EvR.b (r_non)) (by rfl))))) (l_nil))
abbrev S_is_whole : Stmt := topS 23
abbrev N_is_whole : List Str := ["web", "thing"]
theorem nd_is_whole : (N_is_whole).Nodup := by decide +kernel
theorem b_is_whole {K : PySem.W.Frag} {f : Addr} {fd : FuncData} (F : Fun K "is_whole" "is_whole" S_is_whole f fd) : Binds K fd ["web", "thing"] [] := F.binds (ps := ["web", "thing"]) fun _ _ _ _ _ _ us hl => match us, hl with | [_, _], _ => rfl
theorem sc_is_whole : FnScope N_is_whole ["web", "thing"] (defScope S_is_whole) := ⟨rfl, rfl, rfl, nd_is_whole, rfl, by decide +kernel, by decide +kernel⟩
def k_is_whole (q_is_hueing : PSp) : KS := kSeq (kRet (kAnd (kCall q_is_hueing (kCons (kVar 0) (kCons (kVar 1) (kNil)))) (kCmp ninP (kC .non) (kVarB 1)))) (kNext)
theorem d_is_whole {q_is_hueing : PSp} (T : Tx K mg) (c_is_hueing : Callee P w K mg base k "is_hueing" q_is_hueing) : SlR ⟨P, w, K, mg, base, N_is_whole, defScope S_is_whole, fun _ => true, k, tw, fun _ => True⟩ (defBody S_is_whole) (k_is_whole q_is_hueing) :=
  l_cons (s_ret (r_and (r_call c_is_hueing (Nat.le_refl _) (by rfl) (a_cons (v 0) (a_cons (v 1) (a_nil)))) (r_one (r_cmp cd_nin (EvR.b (r_non)) (vb 1) (by rfl))))) (l_nil)
abbrev S_is_place_of : Stmt := topS 29
abbrev N_is_place_of : List Str := ["web", "thing"]
theorem nd_is_place_of : (N_is_place_of).Nodup := by decide +kernel
theorem b_is_place_of {K : PySem.W.Frag} {f : Addr} {fd : FuncData} (F : Fun K "is_place_of" "is_place_of" S_is_place_of f fd) : Binds K fd ["web", "thing"] [] := F.binds (ps := ["web", "thing"]) fun _ _ _ _ _ _ us hl => match us, hl with | [_, _], _ => rfl
theorem sc_is_place_of : FnScope N_is_place_of ["web", "thing"] (defScope S_is_place_of) := ⟨rfl, rfl, rfl, nd_is_place_of, rfl, by decide +kernel, by decide +kernel⟩
def k_is_place_of (q_is_number : PSp) : KS := kSeq (kRet (kAnd (kCall q_is_number (kCons (kVar 1) (kNil))) (kBo (kChain leP ltP (kC (.int 0)) (kVarB 1) (kBin ixP (kVarB 0) (kC (.int 0))))))) (kNext)
theorem d_is_place_of {q_is_number : PSp} (T : Tx K mg) (c_is_number : Callee P w K mg base k "is_number" q_is_number) : SlR ⟨P, w, K, mg, base, N_is_place_of, defScope S_is_place_of, fun _ => true, k, tw, fun _ => True⟩ (defBody S_is_place_of) (k_is_place_of q_is_number) :=
  l_cons (s_ret (r_and (r_call c_is_number (Nat.le_refl _) (by rfl) (a_cons (v 1) (a_nil))) (r_one (r_chain cd_le cd_lt (EvR.b (r_int)) (vb 1) (EvR.b (r_ix (vb 0) (EvR.b (r_int)))))))) (l_nil)
abbrev S_is_odd_set : Stmt := topS 30
abbrev N_is_odd_set : List Str := ["web", "thing", "place", "k"]
theorem nd_is_odd_set : (N_is_odd_set).Nodup := by decide +kernel
theorem b_is_odd_set {K : PySem.W.Frag} {f : Addr} {fd : FuncData} (F : Fun K "is_odd_set" "is_odd_set" S_is_odd_set f fd) : Binds K fd ["web", "thing"] [] := F.binds (ps := ["web", "thing"]) fun _ _ _ _ _ _ us hl => match us, hl with | [_, _], _ => rfl
theorem sc_is_odd_set : FnScope N_is_odd_set ["web", "thing"] (defScope S_is_odd_set) := ⟨rfl, rfl, rfl, nd_is_odd_set, rfl, by decide +kernel, by decide +kernel⟩
def k_is_odd_set (q_is_place_of : PSp) : KS := kSeq (ksIf (tkOr (tkNot (tkV (kIsi (isiD "tuple") (kVarB 1)))) (tkOr (kCmpT ltP (kCall lenP (kCons (kVarB 1) (kNil))) (kC (.int 3))) (kCmpT eqP (kBin modP (kCall lenP (kCons (kVarB 1) (kNil))) (kC (.int 2))) (kC (.int 0))))) (kSeq (kRet (kC (.bl false))) (kNext)) (kNext)) (kSeq (ksIf (tkNot (tkV (kCall allP (kCons (kF (kLc (kItS (kVar 1)) (gkName 2) (tkYes) (kCall q_is_place_of (kCons (kVar 0) (kCons (kVar 2) (kNil)))) [2])) (kNil))))) (kSeq (kRet (kC (.bl false))) (kNext)) (kNext)) (kSeq (kRet (kCall allP (kCons (kF (kLc (kItET (kSl (kVarB 1) (koN) (koS (kNeg (kC (.int 1)))))) (gkTup 2 (gkCons (gkName 3) (gkCons (gkName 2) (gkNil)))) (tkYes) (kCmp ltP (kVarB 2) (kBin ixP (kVarB 1) (kBin addP (kVarB 3) (kC (.int 1))))) [3, 2])) (kNil)))) (kNext)))
theorem d_is_odd_set {q_is_place_of : PSp} (T : Tx K mg) (c_is_place_of : Callee P w K mg base k "is_place_of" q_is_place_of) : SlR ⟨P, w, K, mg, base, N_is_odd_set, defScope S_is_odd_set, fun _ => true, k, tw, fun _ => True⟩ (defBody S_is_odd_set) (k_is_odd_set q_is_place_of) :=
  l_cons (s_if (TwR.t (t_or (t_not (t_val (r_isi (by rfl) T.b_isinstance (by rfl) T.b_tuple (by rfl) (vb 1)))) (t_or (t_cmp cd_lt (EvR.b (r_callB bd_len (by rfl) T.b_len (by rfl) (ab_cons (vb 1) (ab_nil)))) (EvR.b (r_int)) (by rfl)) (t_or1 (t_cmp cd_eq (EvR.b (r_bin od_mod (EvR.b (r_callB bd_len (by rfl) T.b_len (by rfl) (ab_cons (vb 1) (ab_nil)))) (EvR.b (r_int)))) (EvR.b (r_int)) (by rfl)))))) (l_cons (s_ret (r_bl)) (l_nil)) (l_nil)) (l_cons (s_if (t_not (t_val (r_callB bd_all (by rfl) T.b_all (by rfl) (ab_cons (EvR.b (EvF.r (r_lc (own := [("place", 2)]) nd_is_odd_set (by rfl) (i_seq (v 1)) (gn 2 nd_is_odd_set) (by decide) (.nil) (r_call c_is_place_of (Nat.le_refl _) (by rfl) (a_cons (v 0) (a_cons (v 2) (a_nil))))))) (ab_nil))))) (l_cons (s_ret (r_bl)) (l_nil)) (l_nil)) (l_cons (s_ret (r_callB bd_all (by rfl) T.b_all (by rfl) (ab_cons (EvR.b (EvF.r (r_lc (own := [("k", 3), ("place", 2)]) nd_is_odd_set (by rfl) (i_enumT (by rfl) T.b_enumerate (r_slice (vb 1) (o_none) (o_some (r_neg (r_int))))) (g_tup (gs_cons (gn 3 nd_is_odd_set) (gs_cons (gn 2 nd_is_odd_set) (gs_nil)))) (by decide) (.nil) (r_cmp cd_lt (vb 2) (EvR.b (r_ix (vb 1) (EvR.b (r_bin od_add (vb 3) (EvR.b (r_int)))))) (by rfl))))) (ab_nil)))) (l_nil)))
abbrev S_is_full_set : Stmt := topS 31
abbrev N_is_full_set : List Str := ["web", "hues", "thing"]
theorem nd_is_full_set : (N_is_full_set).Nodup := by decide +kernel
theorem b_is_full_set {K : PySem.W.Frag} {f : Addr} {fd : FuncData} (F : Fun K "is_full_set" "is_full_set" S_is_full_set f fd) : Binds K fd ["web", "hues", "thing"] [] := F.binds (ps := ["web", "hues", "thing"]) fun _ _ _ _ _ _ us hl => match us, hl with | [_, _, _], _ => rfl
theorem sc_is_full_set : FnScope N_is_full_set ["web", "hues", "thing"] (defScope S_is_full_set) := ⟨rfl, rfl, rfl, nd_is_full_set, rfl, by decide +kernel, by decide +kernel⟩
def k_is_full_set (q_is_odd_set q_within : PSp) : KS := kSeq (kRet (kAnd (kCall q_is_odd_set (kCons (kVar 0) (kCons (kVar 2) (kNil)))) (kCmp gtP (kCall lenP (kCons (kCall q_within (kCons (kVar 0) (kCons (kVar 2) (kNil)))) (kNil))) (kBin mulP (kVarB 1) (kBin fdivP (kCall lenP (kCons (kVarB 2) (kNil))) (kC (.int 2))))))) (kNext)
theorem d_is_full_set {q_is_odd_set q_within : PSp} (T : Tx K mg) (c_is_odd_set : Callee P w K mg base k "is_odd_set" q_is_odd_set) (c_within : Callee P w K mg base k "within" q_within) : SlR ⟨P, w, K, mg, base, N_is_full_set, defScope S_is_full_set, fun _ => true, k, tw, fun _ => True⟩ (defBody S_is_full_set) (k_is_full_set q_is_odd_set q_within) :=
  l_cons (s_ret (r_and (r_call c_is_odd_set (Nat.le_refl _) (by rfl) (a_cons (v 0) (a_cons (v 2) (a_nil)))) (r_one (r_cmp cd_gt (EvR.b (r_callB bd_len (by rfl) T.b_len (by rfl) (ab_cons (EvR.b (r_call c_within (Nat.le_refl _) (by rfl) (a_cons (v 0) (a_cons (v 2) (a_nil))))) (ab_nil)))) (EvR.b (r_bin od_mul (vb 1) (EvR.b (r_bin od_fdiv (EvR.b (r_callB bd_len (by rfl) T.b_len (by rfl) (ab_cons (vb 2) (ab_nil)))) (EvR.b (r_int)))))) (by rfl))))) (l_nil)
end
end U
set_option Elab.async false
set_option linter.all false
set_option maxRecDepth 100000
set_option maxHeartbeats 4000000
namespace U
open PySem PySem.Spec PyProof.Rows L2
section
variable {P : Program} {w : World} {K : PySem.W.Frag} {mg : Str → Option Value} {base : Heap} {k : Nat} {tw : AD} {cSearch cLists : Addr}

abbrev S_hues_to_try : Stmt := topS 32
abbrev N_hues_to_try : List Str := ["web", "hues", "way", "tie", "taken", "met", "one", "other", "hue", "k"]
theorem nd_hues_to_try : (N_hues_to_try).Nodup := by decide +kernel
theorem b_hues_to_try {K : PySem.W.Frag} {f : Addr} {fd : FuncData} (F : Fun K "hues_to_try" "hues_to_try" S_hues_to_try f fd) : Binds K fd ["web", "hues", "way", "tie"] [] := F.binds (ps := ["web", "hues", "way", "tie"]) fun _ _ _ _ _ _ us hl => match us, hl with | [_, _, _, _], _ => rfl
theorem sc_hues_to_try : FnScope N_hues_to_try ["web", "hues", "way", "tie"] (defScope S_hues_to_try) := ⟨rfl, rfl, rfl, nd_hues_to_try, rfl, by decide +kernel, by decide +kernel⟩
def k_hues_to_try : KS := kSeq (kTgt (kBin ixP (kBin ixP (kVarB 0) (kC (.int 1))) (kVarB 3)) (gkTup 2 (gkCons (gkName 6) (gkCons (gkName 7) (gkNil))))) (kSeq (kSet 4 (kF (kLc (kItS (kVar 2)) (gkTup 2 (gkCons (gkName 9) (gkCons (gkName 8) (gkNil)))) (tkOr (kCmpT inP (kVarB 6) (kBin ixP (kBin ixP (kVarB 0) (kC (.int 1))) (kVarB 9))) (kCmpT inP (kVarB 7) (kBin ixP (kBin ixP (kVarB 0) (kC (.int 1))) (kVarB 9)))) (kVar 8) [9, 8]))) (kSeq (kSet 5 (kLenSet (kF (kLc (kItS (kVar 2)) (gkTup 2 (gkCons (gkName 9) (gkCons (gkName 8) (gkNil)))) (tkYes) (kVar 8) [9, 8])))) (kSeq (kRet (kF (kLc (kItR1 (kCall min2P (kCons (kVarB 1) (kCons (kBin addP (kVarB 5) (kC (.int 1))) (kNil))))) (gkName 8) (kCmpT ninP (kVarB 8) (kVarB 4)) (kVar 8) [8]))) (kNext))))
theorem d_hues_to_try (T : Tx K mg) : SlR ⟨P, w, K, mg, base, N_hues_to_try, defScope S_hues_to_try, fun _ => true, k, tw, fun _ => True⟩ (defBody S_hues_to_try) (k_hues_to_try) :=
  l_cons (s_tgt (r_ix (EvR.b (r_ix (vb 0) (EvR.b (r_int)))) (vb 3)) (g_tup (gs_cons (gn 6 nd_hues_to_try) (gs_cons (gn 7 nd_hues_to_try) (gs_nil))))) (l_cons (s_set 4 nd_hues_to_try (by rfl) (by first | exact Or.inl rfl | exact Or.inr ⟨rfl, rfl⟩) (EvF.r (r_lc (own := [("k", 9), ("hue", 8)]) nd_hues_to_try (by rfl) (i_seq (v 2)) (g_tup (gs_cons (gn 9 nd_hues_to_try) (gs_cons (gn 8 nd_hues_to_try) (gs_nil)))) (by decide) (.one (TwR.t (t_or (t_cmp cd_in (vb 6) (EvR.b (r_ix (EvR.b (r_ix (vb 0) (EvR.b (r_int)))) (vb 9))) (by rfl)) (t_or1 (t_cmp cd_in (vb 7) (EvR.b (r_ix (EvR.b (r_ix (vb 0) (EvR.b (r_int)))) (vb 9))) (by rfl)))))) (v 8))) (sw_false (by rfl) (by rfl))) (l_cons (s_set 5 nd_hues_to_try (by rfl) (by first | exact Or.inl rfl | exact Or.inr ⟨rfl, rfl⟩) (r_lenSet (by rfl) T.b_len (by rfl) T.b_set (EvR.b (EvF.r (r_lc (own := [("k", 9), ("hue", 8)]) nd_hues_to_try (by rfl) (i_seq (v 2)) (g_tup (gs_cons (gn 9 nd_hues_to_try) (gs_cons (gn 8 nd_hues_to_try) (gs_nil)))) (by decide) (.nil) (v 8)))))) (l_cons (s_ret (EvF.r (r_lc (own := [("hue", 8)]) nd_hues_to_try (by rfl) (i_range1 (by rfl) T.b_range (r_callB bd_min2 (by rfl) T.b_min (by rfl) (ab_cons (vb 1) (ab_cons (EvR.b (r_bin od_add (vb 5) (EvR.b (r_int)))) (ab_nil))))) (gn 8 nd_hues_to_try) (by decide) (.one (t_cmp cd_nin (vb 8) (vb 4) (by rfl))) (v 8)))) (l_nil))))
abbrev S_is_new_tie : Stmt := topS 33
abbrev N_is_new_tie : List Str := ["web", "way", "thing", "k", "hue"]
theorem nd_is_new_tie : (N_is_new_tie).Nodup := by decide +kernel
theorem b_is_new_tie {K : PySem.W.Frag} {f : Addr} {fd : FuncData} (F : Fun K "is_new_tie" "is_new_tie" S_is_new_tie f fd) : Binds K fd ["web", "way", "thing"] [] := F.binds (ps := ["web", "way", "thing"]) fun _ _ _ _ _ _ us hl => match us, hl with | [_, _, _], _ => rfl
theorem sc_is_new_tie : FnScope N_is_new_tie ["web", "way", "thing"] (defScope S_is_new_tie) := ⟨rfl, rfl, rfl, nd_is_new_tie, rfl, by decide +kernel, by decide +kernel⟩
def k_is_new_tie (q_is_number : PSp) : KS := kSeq (kRet (kAnd (kCall q_is_number (kCons (kVar 2) (kNil))) (kAnd (kBo (kChain leP ltP (kC (.int 0)) (kVarB 2) (kCall lenP (kCons (kBin ixP (kVarB 0) (kC (.int 1))) (kNil))))) (kCmp ninP (kVarB 2) (kF (kLc (kItS (kVar 1)) (gkTup 2 (gkCons (gkName 3) (gkCons (gkName 4) (gkNil)))) (tkYes) (kVar 3) [3, 4])))))) (kNext)
theorem d_is_new_tie {q_is_number : PSp} (T : Tx K mg) (c_is_number : Callee P w K mg base k "is_number" q_is_number) : SlR ⟨P, w, K, mg, base, N_is_new_tie, defScope S_is_new_tie, fun _ => true, k, tw, fun _ => True⟩ (defBody S_is_new_tie) (k_is_new_tie q_is_number) :=
  l_cons (s_ret (r_and (r_call c_is_number (Nat.le_refl _) (by rfl) (a_cons (v 2) (a_nil))) (r_and (r_chain cd_le cd_lt (EvR.b (r_int)) (vb 2) (EvR.b (r_callB bd_len (by rfl) T.b_len (by rfl) (ab_cons (EvR.b (r_ix (vb 0) (EvR.b (r_int)))) (ab_nil))))) (r_one (r_cmp cd_nin (vb 2) (EvR.b (EvF.r (r_lc (own := [("k", 3), ("hue", 4)]) nd_is_new_tie (by rfl) (i_seq (v 1)) (g_tup (gs_cons (gn 3 nd_is_new_tie) (gs_cons (gn 4 nd_is_new_tie) (gs_nil)))) (by decide) (.nil) (v 3)))) (by rfl)))))) (l_nil)
abbrev S_is_tree_behind : Stmt := topS 34
abbrev N_is_tree_behind : List Str := ["web", "hues", "way", "thing", "some", "tie", "trees", "hue", "tree"]
theorem nd_is_tree_behind : (N_is_tree_behind).Nodup := by decide +kernel
theorem b_is_tree_behind {K : PySem.W.Frag} {f : Addr} {fd : FuncData} (F : Fun K "is_tree_behind" "is_tree_behind" S_is_tree_behind f fd) : Binds K fd ["web", "hues", "way", "thing"] [] := F.binds (ps := ["web", "hues", "way", "thing"]) fun _ _ _ _ _ _ us hl => match us, hl with | [_, _, _, _], _ => rfl
theorem sc_is_tree_behind : FnScope N_is_tree_behind ["web", "hues", "way", "thing"] (defScope S_is_tree_behind) := ⟨rfl, rfl, rfl, nd_is_tree_behind, rfl, by decide +kernel, by decide +kernel⟩
def k_is_tree_behind (q_is_new_tie q_hues_to_try q_is_tree_behind : PSp) : KS := kSeq (ksIf (tkOr (tkNot (tkV (kIsi (isiD "tuple") (kVarB 3)))) (tkOr (kCmpT neP (kCall lenP (kCons (kVarB 3) (kNil))) (kC (.int 2))) (tkNot (tkV (kCall q_is_new_tie (kCons (kVar 0) (kCons (kVar 2) (kCons (kBin ixP (kVarB 3) (kC (.int 0))) (kNil))))))))) (kSeq (kRet (kC (.bl false))) (kNext)) (kNext)) (kSeq (kTgt (kVar 3) (gkTup 2 (gkCons (gkName 5) (gkCons (gkName 6) (gkNil))))) (kSeq (kSet 4 (kCall q_hues_to_try (kCons (kVar 0) (kCons (kVar 1) (kCons (kVar 2) (kCons (kVar 5) (kNil))))))) (kSeq (ksIf (tkOr (tkNot (tkV (kIsi (isiD "tuple") (kVarB 6)))) (kCmpT neP (kCall lenP (kCons (kVarB 6) (kNil))) (kCall lenP (kCons (kVarB 4) (kNil))))) (kSeq (kRet (kC (.bl false))) (kNext)) (kNext)) (kSeq (kRet (kCall allP (kCons (kF (kLc (kItZM (kVar 4) (kVar 6)) (gkTup 2 (gkCons (gkName 7) (gkCons (gkName 8) (gkNil)))) (tkYes) (kCall q_is_tree_behind (kCons (kVar 0) (kCons (kVar 1) (kCons (kBin addP (kVarB 2) (kF (kLst (kCons (kTup (kCons (kVar 5) (kCons (kVar 7) (kNil)))) (kNil))))) (kCons (kVar 8) (kNil)))))) [7, 8])) (kNil)))) (kNext)))))
theorem d_is_tree_behind {q_is_new_tie q_hues_to_try q_is_tree_behind : PSp} (T : Tx K mg) (c_is_new_tie : Callee P w K mg base k "is_new_tie" q_is_new_tie) (c_hues_to_try : Callee P w K mg base k "hues_to_try" q_hues_to_try) (c_is_tree_behind : Callee P w K mg base k "is_tree_behind" q_is_tree_behind) : SlR ⟨P, w, K, mg, base, N_is_tree_behind, defScope S_is_tree_behind, fun _ => true, k, tw, fun _ => True⟩ (defBody S_is_tree_behind) (k_is_tree_behind q_is_new_tie q_hues_to_try q_is_tree_behind) :=
  l_cons (s_if (TwR.t (t_or (t_not (t_val (r_isi (by rfl) T.b_isinstance (by rfl) T.b_tuple (by rfl) (vb 3)))) (t_or (t_cmp cd_ne (EvR.b (r_callB bd_len (by rfl) T.b_len (by rfl) (ab_cons (vb 3) (ab_nil)))) (EvR.b (r_int)) (by rfl)) (t_or1 (t_not (t_val (r_call c_is_new_tie (Nat.le_refl _) (by rfl) (a_cons (v 0) (a_cons (v 2) (a_cons (r_ix (vb 3) (EvR.b (r_int))) (a_nil))))))))))) (l_cons (s_ret (r_bl)) (l_nil)) (l_nil)) (l_cons (s_tgt (v 3) (g_tup (gs_cons (gn 5 nd_is_tree_behind) (gs_cons (gn 6 nd_is_tree_behind) (gs_nil))))) (l_cons (s_set 4 nd_is_tree_behind (by rfl) (by first | exact Or.inl rfl | exact Or.inr ⟨rfl, rfl⟩) (r_call c_hues_to_try (Nat.le_refl _) (by rfl) (a_cons (v 0) (a_cons (v 1) (a_cons (v 2) (a_cons (v 5) (a_nil))))))) (l_cons (s_if (TwR.t (t_or (t_not (t_val (r_isi (by rfl) T.b_isinstance (by rfl) T.b_tuple (by rfl) (vb 6)))) (t_or1 (t_cmp cd_ne (EvR.b (r_callB bd_len (by rfl) T.b_len (by rfl) (ab_cons (vb 6) (ab_nil)))) (EvR.b (r_callB bd_len (by rfl) T.b_len (by rfl) (ab_cons (vb 4) (ab_nil)))) (by rfl))))) (l_cons (s_ret (r_bl)) (l_nil)) (l_nil)) (l_cons (s_ret (r_callB bd_all (by rfl) T.b_all (by rfl) (ab_cons (EvR.b (EvF.r (r_lc (own := [("hue", 7), ("tree", 8)]) nd_is_tree_behind (by rfl) (i_zipM (by rfl) T.b_zip (v 4) (v 6)) (g_tup (gs_cons (gn 7 nd_is_tree_behind) (gs_cons (gn 8 nd_is_tree_behind) (gs_nil)))) (by decide) (.nil) (r_call c_is_tree_behind (Nat.le_refl _) (by rfl) (a_cons (v 0) (a_cons (v 1) (a_cons (r_bin od_add (vb 2) (EvR.b (EvF.r (r_lst (a_cons (r_tup (a_cons (v 5) (a_cons (v 7) (a_nil)))) (a_nil)))))) (a_cons (v 8) (a_nil))))))))) (ab_nil)))) (l_nil)))))
abbrev S_shows_fewer : Stmt := topS 35
abbrev N_shows_fewer : List Str := ["web", "hues", "paper"]
theorem nd_shows_fewer : (N_shows_fewer).Nodup := by decide +kernel
theorem b_shows_fewer {K : PySem.W.Frag} {f : Addr} {fd : FuncData} (F : Fun K "shows_fewer" "shows_fewer" S_shows_fewer f fd) : Binds K fd ["web", "hues", "paper"] [] := F.binds (ps := ["web", "hues", "paper"]) fun _ _ _ _ _ _ us hl => match us, hl with | [_, _, _], _ => rfl
theorem sc_shows_fewer : FnScope N_shows_fewer ["web", "hues", "paper"] (defScope S_shows_fewer) := ⟨rfl, rfl, rfl, nd_shows_fewer, rfl, by decide +kernel, by decide +kernel⟩
def k_shows_fewer (q_is_place_of q_count_at q_is_full_set q_is_tree_behind : PSp) : KS := kSeq (ksIf (tkOr (tkNot (tkV (kIsi (isiD "tuple") (kVarB 2)))) (kCmpT neP (kCall lenP (kCons (kVarB 2) (kNil))) (kC (.int 2)))) (kSeq (kRet (kC (.bl false))) (kNext)) (kNext)) (kSeq (ksIf (kCmpT eqP (kBin ixP (kVarB 2) (kC (.int 0))) (kC (.str "place"))) (kSeq (kRet (kAnd (kCall q_is_place_of (kCons (kVar 0) (kCons (kBin ixP (kVarB 2) (kC (.int 1))) (kNil)))) (kCmp gtP (kCall q_count_at (kCons (kVar 0) (kCons (kBin ixP (kVarB 2) (kC (.int 1))) (kNil)))) (kVarB 1)))) (kNext)) (kNext)) (kSeq (ksIf (kCmpT eqP (kBin ixP (kVarB 2) (kC (.int 0))) (kC (.str "set"))) (kSeq (kRet (kCall q_is_full_set (kCons (kVar 0) (kCons (kVar 1) (kCons (kBin ixP (kVarB 2) (kC (.int 1))) (kNil)))))) (kNext)) (kNext)) (kSeq (kRet (kAnd (kCmp eqP (kBin ixP (kVarB 2) (kC (.int 0))) (kC (.str "tree"))) (kCall q_is_tree_behind (kCons (kVar 0) (kCons (kVar 1) (kCons (kF (kLst (kNil))) (kCons (kBin ixP (kVarB 2) (kC (.int 1))) (kNil)))))))) (kNext))))
theorem d_shows_fewer {q_is_place_of q_count_at q_is_full_set q_is_tree_behind : PSp} (T : Tx K mg) (c_is_place_of : Callee P w K mg base k "is_place_of" q_is_place_of) (c_count_at : Callee P w K mg base k "count_at" q_count_at) (c_is_full_set : Callee P w K mg base k "is_full_set" q_is_full_set) (c_is_tree_behind : Callee P w K mg base k "is_tree_behind" q_is_tree_behind) : SlR ⟨P, w, K, mg, base, N_shows_fewer, defScope S_shows_fewer, fun _ => true, k, tw, fun _ => True⟩ (defBody S_shows_fewer) (k_shows_fewer q_is_place_of q_count_at q_is_full_set q_is_tree_behind) :=
  l_cons (s_if (TwR.t (t_or (t_not (t_val (r_isi (by rfl) T.b_isinstance (by rfl) T.b_tuple (by rfl) (vb 2)))) (t_or1 (t_cmp cd_ne (EvR.b (r_callB bd_len (by rfl) T.b_len (by rfl) (ab_cons (vb 2) (ab_nil)))) (EvR.b (r_int)) (by rfl))))) (l_cons (s_ret (r_bl)) (l_nil)) (l_nil)) (l_cons (s_if (t_cmp cd_eq (EvR.b (r_ix (vb 2) (EvR.b (r_int)))) (EvR.b (gs T.t_PLACE)) (by rfl)) (l_cons (s_ret (r_and (r_call c_is_place_of (Nat.le_refl _) (by rfl) (a_cons (v 0) (a_cons (r_ix (vb 2) (EvR.b (r_int))) (a_nil)))) (r_one (r_cmp cd_gt (EvR.b (r_call c_count_at (Nat.le_refl _) (by rfl) (a_cons (v 0) (a_cons (r_ix (vb 2) (EvR.b (r_int))) (a_nil))))) (vb 1) (by rfl))))) (l_nil)) (l_nil)) (l_cons (s_if (t_cmp cd_eq (EvR.b (r_ix (vb 2) (EvR.b (r_int)))) (EvR.b (gs T.t_SET)) (by rfl)) (l_cons (s_ret (r_call c_is_full_set (Nat.le_refl _) (by rfl) (a_cons (v 0) (a_cons (v 1) (a_cons (r_ix (vb 2) (EvR.b (r_int))) (a_nil)))))) (l_nil)) (l_nil)) (l_cons (s_ret (r_and (r_cmp cd_eq (EvR.b (r_ix (vb 2) (EvR.b (r_int)))) (EvR.b (gs T.t_TREE)) (by rfl)) (r_one (r_call c_is_tree_behind (Nat.le_refl _) (by rfl) (a_cons (v 0) (a_cons (v 1) (a_cons (EvF.r (r_lst (a_nil))) (a_cons (r_ix (vb 2) (EvR.b (r_int))) (a_nil))))))))) (l_nil))))
abbrev S_shows_fewest : Stmt := topS 36
abbrev N_shows_fewest : List Str := ["web", "thing", "number", "row", "paper", "hue"]
theorem nd_shows_fewest : (N_shows_fewest).Nodup := by decide +kernel
theorem b_shows_fewest {K : PySem.W.Frag} {f : Addr} {fd : FuncData} (F : Fun K "shows_fewest" "shows_fewest" S_shows_fewest f fd) : Binds K fd ["web", "thing"] [] := F.binds (ps := ["web", "thing"]) fun _ _ _ _ _ _ us hl => match us, hl with | [_, _], _ => rfl
theorem sc_shows_fewest : FnScope N_shows_fewest ["web", "thing"] (defScope S_shows_fewest) := ⟨rfl, rfl, rfl, nd_shows_fewest, rfl, by decide +kernel, by decide +kernel⟩
def k_shows_fewest (q_is_number q_is_whole q_shows_fewer : PSp) : KS := kSeq (ksIf (tkOr (tkNot (tkV (kIsi (isiD "tuple") (kVarB 1)))) (tkOr (kCmpT neP (kCall lenP (kCons (kVarB 1) (kNil))) (kC (.int 3))) (tkNot (tkV (kCall q_is_number (kCons (kBin ixP (kVarB 1) (kC (.int 0))) (kNil))))))) (kSeq (kRet (kC (.bl false))) (kNext)) (kNext)) (kSeq (kTgt (kVar 1) (gkTup 3 (gkCons (gkName 2) (gkCons (gkName 3) (gkCons (gkName 4) (gkNil)))))) (kSeq (ksIf (tkOr (tkNot (tkV (kCall q_is_whole (kCons (kVar 0) (kCons (kVar 3) (kNil)))))) (tkNot (tkV (kCall allP (kCons (kF (kLc (kItS (kVar 3)) (gkName 5) (tkYes) (kCmp ltP (kVarB 5) (kVarB 2)) [5])) (kNil)))))) (kSeq (kRet (kC (.bl false))) (kNext)) (kNext)) (kSeq (ksIf (kCmpT leP (kVarB 2) (kC (.int 0))) (kSeq (kRet (kAnd (kCmp eqP (kVarB 2) (kC (.int 0))) (kCmp isP (kVarB 4) (kC .non)))) (kNext)) (kNext)) (kSeq (kRet (kCall q_shows_fewer (kCons (kVar 0) (kCons (kBin subP (kVarB 2) (kC (.int 1))) (kCons (kVar 4) (kNil)))))) (kNext)))))
theorem d_shows_fewest {q_is_number q_is_whole q_shows_fewer : PSp} (T : Tx K mg) (c_is_number : Callee P w K mg base k "is_number" q_is_number) (c_is_whole : Callee P w K mg base k "is_whole" q_is_whole) (c_shows_fewer : Callee P w K mg base k "shows_fewer" q_shows_fewer) : SlR ⟨P, w, K, mg, base, N_shows_fewest, defScope S_shows_fewest, fun _ => true, k, tw, fun _ => True⟩ (defBody S_shows_fewest) (k_shows_fewest q_is_number q_is_whole q_shows_fewer) :=
  l_cons (s_if (TwR.t (t_or (t_not (t_val (r_isi (by rfl) T.b_isinstance (by rfl) T.b_tuple (by rfl) (vb 1)))) (t_or (t_cmp cd_ne (EvR.b (r_callB bd_len (by rfl) T.b_len (by rfl) (ab_cons (vb 1) (ab_nil)))) (EvR.b (r_int)) (by rfl)) (t_or1 (t_not (t_val (r_call c_is_number (Nat.le_refl _) (by rfl) (a_cons (r_ix (vb 1) (EvR.b (r_int))) (a_nil))))))))) (l_cons (s_ret (r_bl)) (l_nil)) (l_nil)) (l_cons (s_tgt (v 1) (g_tup (gs_cons (gn 2 nd_shows_fewest) (gs_cons (gn 3 nd_shows_fewest) (gs_cons (gn 4 nd_shows_fewest) (gs_nil)))))) (l_cons (s_if (TwR.t (t_or (t_not (t_val (r_call c_is_whole (Nat.le_refl _) (by rfl) (a_cons (v 0) (a_cons (v 3) (a_nil)))))) (t_or1 (t_not (t_val (r_callB bd_all (by rfl) T.b_all (by rfl) (ab_cons (EvR.b (EvF.r (r_lc (own := [("hue", 5)]) nd_shows_fewest (by rfl) (i_seq (v 3)) (gn 5 nd_shows_fewest) (by decide) (.nil) (r_cmp cd_lt (vb 5) (vb 2) (by rfl))))) (ab_nil)))))))) (l_cons (s_ret (r_bl)) (l_nil)) (l_nil)) (l_cons (s_if (t_cmp cd_le (vb 2) (EvR.b (r_int)) (by rfl)) (l_cons (s_ret (r_and (r_cmp cd_eq (vb 2) (EvR.b (r_int)) (by rfl)) (r_one (r_cmp cd_is (vb 4) (EvR.b (r_non)) (by rfl))))) (l_nil)) (l_nil)) (l_cons (s_ret (r_call c_shows_fewer (Nat.le_refl _) (by rfl) (a_cons (v 0) (a_cons (r_bin od_sub (vb 2) (EvR.b (r_int))) (a_cons (v 4) (a_nil)))))) (l_nil)))))
abbrev S_tie_of : Stmt := topS 40
abbrev N_tie_of : List Str := ["web", "hueing", "place", "hue", "tie"]
theorem nd_tie_of : (N_tie_of).Nodup := by decide +kernel
theorem b_tie_of {K : PySem.W.Frag} {f : Addr} {fd : FuncData} (F : Fun K "tie_of" "tie_of" S_tie_of f fd) : Binds K fd ["web", "hueing", "place", "hue"] [] := F.binds (ps := ["web", "hueing", "place", "hue"]) fun _ _ _ _ _ _ us hl => match us, hl with | [_, _, _, _], _ => rfl
theorem sc_tie_of : FnScope N_tie_of ["web", "hueing", "place", "hue"] (defScope S_tie_of) := ⟨rfl, rfl, rfl, nd_tie_of, rfl, by decide +kernel, by decide +kernel⟩
def k_tie_of (q_ties_at : PSp) : KS := kSeq (ksFor (kItS (kCall q_ties_at (kCons (kVar 0) (kCons (kVar 2) (kNil))))) (gkName 4) (kSeq (ksIf (kCmpT eqP (kBin ixP (kVarB 1) (kVarB 4)) (kVarB 3)) (kSeq (kRet (kVar 4)) (kNext)) (kNext)) (kNext))) (kSeq (kRet (kC .non)) (kNext))
theorem d_tie_of {q_ties_at : PSp} (T : Tx K mg) (c_ties_at : Callee P w K mg base k "ties_at" q_ties_at) : SlR ⟨P, w, K, mg, base, N_tie_of, defScope S_tie_of, fun _ => true, k, tw, fun _ => True⟩ (defBody S_tie_of) (k_tie_of q_ties_at) :=
  l_cons (s_for (i_seq (r_call c_ties_at (Nat.le_refl _) (by rfl) (a_cons (v 0) (a_cons (v 2) (a_nil))))) (gn 4 nd_tie_of) (l_cons (s_if (t_cmp cd_eq (EvR.b (r_ix (vb 1) (vb 4))) (vb 3) (by rfl)) (l_cons (s_ret (v 4)) (l_nil)) (l_nil)) (l_nil))) (l_cons (s_ret (r_non)) (l_nil))
abbrev S_look_hues : Stmt := topS 41
abbrev N_look_hues : List Str := ["one", "other"]
theorem nd_look_hues : (N_look_hues).Nodup := by decide +kernel
theorem b_look_hues {K : PySem.W.Frag} {f : Addr} {fd : FuncData} (F : Fun K "look_hues" "look_hues" S_look_hues f fd) : Binds K fd ["one", "other"] [] := F.binds (ps := ["one", "other"]) fun _ _ _ _ _ _ us hl => match us, hl with | [_, _], _ => rfl
theorem sc_look_hues : FnScope N_look_hues ["one", "other"] (defScope S_look_hues) := ⟨rfl, rfl, rfl, nd_look_hues, rfl, by decide +kernel, by decide +kernel⟩
def k_look_hues : KS := kSeq (ksIf (kCmpT eqP (kVarB 0) (kVarB 1)) (kSeq (kNever) (kNext)) (kNext)) (kNext)
theorem d_look_hues (T : Tx K mg) : SlR ⟨P, w, K, mg, base, N_look_hues, defScope S_look_hues, fun _ => true, k, tw, fun _ => True⟩ (defBody S_look_hues) (k_look_hues) :=
  l_cons (s_if (t_cmp cd_eq (vb 0) (vb 1) (by rfl)) (l_cons (s_never) (l_nil)) (l_nil)) (l_nil)
abbrev S_row_from : Stmt := topS 42
abbrev N_row_from : List Str := ["web", "hueing", "place", "one", "other", "held", "found", "tie", "due", "then"]
theorem nd_row_from : (N_row_from).Nodup := by decide +kernel
theorem b_row_from {K : PySem.W.Frag} {f : Addr} {fd : FuncData} (F : Fun K "row_from" "row_from" S_row_from f fd) : Binds K fd ["web", "hueing", "place", "one", "other"] [] := F.binds (ps := ["web", "hueing", "place", "one", "other"]) fun _ _ _ _ _ _ us hl => match us, hl with | [_, _, _, _, _], _ => rfl
theorem sc_row_from : FnScope N_row_from ["web", "hueing", "place", "one", "other"] (defScope S_row_from) := ⟨rfl, rfl, rfl, nd_row_from, rfl, by decide +kernel, by decide +kernel⟩
def k_row_from (q_ties_at q_look_hues q_tie_of q_far_end : PSp) : KS := kSeq (kSet 5 (kCall q_ties_at (kCons (kVar 0) (kCons (kVar 2) (kNil))))) (kSeq (kDrop (kCall q_look_hues (kCons (kVar 3) (kCons (kVar 4) (kNil))))) (kSeq (ksIf (kCmpT inP (kVarB 4) (kF (kLc (kItS (kVar 5)) (gkName 7) (tkYes) (kBin ixP (kVarB 1) (kVarB 7)) [7]))) (kSeq (kNever) (kNext)) (kNext)) (kSeq (kOwn 6 (kLst (kNil))) (kSeq (kPar 8 9 (kVar 3) (kVar 4)) (kSeq (kSet 7 (kCall q_tie_of (kCons (kVar 0) (kCons (kVar 1) (kCons (kVar 2) (kCons (kVar 8) (kNil))))))) (kSeq (ksWhile (kCmpT nisP (kVarB 7) (kC .non)) (kSeq (kApp 6 (kVar 7)) (kSeq (kSet 2 (kCall q_far_end (kCons (kVar 0) (kCons (kVar 7) (kCons (kVar 2) (kNil)))))) (kSeq (kPar 8 9 (kVar 9) (kVar 8)) (kSeq (kSet 7 (kCall q_tie_of (kCons (kVar 0) (kCons (kVar 1) (kCons (kVar 2) (kCons (kVar 8) (kNil))))))) (kNext)))))) (kRel 6 (kSeq (kRet (kVar 6)) (kNext)))))))))
theorem d_row_from {q_ties_at q_look_hues q_tie_of q_far_end : PSp} (T : Tx K mg) (c_ties_at : Callee P w K mg base k "ties_at" q_ties_at) (c_look_hues : Callee P w K mg base k "look_hues" q_look_hues) (c_tie_of : Callee P w K mg base k "tie_of" q_tie_of) (c_far_end : Callee P w K mg base k "far_end" q_far_end) : SlR ⟨P, w, K, mg, base, N_row_from, defScope S_row_from, fun _ => true, k, tw, fun _ => True⟩ (defBody S_row_from) (k_row_from q_ties_at q_look_hues q_tie_of q_far_end) :=
  l_cons (s_set 5 nd_row_from (by rfl) (by first | exact Or.inl rfl | exact Or.inr ⟨rfl, rfl⟩) (r_call c_ties_at (Nat.le_refl _) (by rfl) (a_cons (v 0) (a_cons (v 2) (a_nil))))) (l_cons (s_drop (r_call c_look_hues (Nat.le_refl _) (by rfl) (a_cons (v 3) (a_cons (v 4) (a_nil))))) (l_cons (s_if (t_cmp cd_in (vb 4) (EvR.b (EvF.r (r_lc (own := [("tie", 7)]) nd_row_from (by rfl) (i_seq (v 5)) (gn 7 nd_row_from) (by decide) (.nil) (r_ix (vb 1) (vb 7))))) (by rfl)) (l_cons (s_never) (l_nil)) (l_nil)) (l_cons (s_own 6 nd_row_from (by rfl) (by first | exact Or.inl rfl | exact Or.inr ⟨rfl, rfl⟩) (r_lst (a_nil))) (l_cons (s_par 8 9 nd_row_from (by rfl) (by rfl) (by decide) (by rfl) (by rfl) (by rfl) (v 3) (v 4) (by rfl) (by decide) (by rfl) (by rfl) (by rfl)) (l_cons (s_set 7 nd_row_from (by rfl) (by first | exact Or.inl rfl | exact Or.inr ⟨rfl, rfl⟩) (r_call c_tie_of (Nat.le_refl _) (by rfl) (a_cons (v 0) (a_cons (v 1) (a_cons (v 2) (a_cons (v 8) (a_nil))))))) (l_cons (s_while (t_cmp cd_nis (vb 7) (EvR.b (r_non)) (by rfl)) (l_cons (s_app 6 (rdl 6) (v 7) ⟨fun _ => rfl, fun _ => rfl, rfl⟩) (l_cons (s_set 2 nd_row_from (by rfl) (by first | exact Or.inl rfl | exact Or.inr ⟨rfl, rfl⟩) (r_call c_far_end (Nat.le_refl _) (by rfl) (a_cons (v 0) (a_cons (v 7) (a_cons (v 2) (a_nil)))))) (l_cons (s_par 8 9 nd_row_from (by rfl) (by rfl) (by decide) (by rfl) (by rfl) (by rfl) (v 9) (v 8) (by rfl) (by decide) (by rfl) (by rfl) (by rfl)) (l_cons (s_set 7 nd_row_from (by rfl) (by first | exact Or.inl rfl | exact Or.inr ⟨rfl, rfl⟩) (r_call c_tie_of (Nat.le_refl _) (by rfl) (a_cons (v 0) (a_cons (v 1) (a_cons (v 2) (a_cons (v 8) (a_nil))))))) (l_nil)))))) (l_rel 6 (l_cons (s_ret (v 6)) (l_nil)))))))))
abbrev S_neighbours : Stmt := topS 43
abbrev N_neighbours : List Str := ["web", "hueing", "tie", "hues", "found", "place", "other"]
theorem nd_neighbours : (N_neighbours).Nodup := by decide +kernel
theorem b_neighbours {K : PySem.W.Frag} {f : Addr} {fd : FuncData} (F : Fun K "neighbours" "neighbours" S_neighbours f fd) : Binds K fd ["web", "hueing", "tie", "hues"] [] := F.binds (ps := ["web", "hueing", "tie", "hues"]) fun _ _ _ _ _ _ us hl => match us, hl with | [_, _, _, _], _ => rfl
theorem sc_neighbours : FnScope N_neighbours ["web", "hueing", "tie", "hues"] (defScope S_neighbours) := ⟨rfl, rfl, rfl, nd_neighbours, rfl, by decide +kernel, by decide +kernel⟩
def k_neighbours (q_ties_at : PSp) : KS := kSeq (kOwn 4 (kLst (kNil))) (kSeq (ksFor (kItS (kBin ixP (kBin ixP (kVarB 0) (kC (.int 1))) (kVarB 2))) (gkName 5) (kSeq (kExt 4 (kF (kLc (kItS (kCall q_ties_at (kCons (kVar 0) (kCons (kVar 5) (kNil))))) (gkName 6) (kCmpT inP (kBin ixP (kVarB 1) (kVarB 6)) (kVarB 3)) (kVar 6) [6]))) (kNext))) (kRel 4 (kSeq (kRet (kVar 4)) (kNext))))
theorem d_neighbours {q_ties_at : PSp} (T : Tx K mg) (c_ties_at : Callee P w K mg base k "ties_at" q_ties_at) : SlR ⟨P, w, K, mg, base, N_neighbours, defScope S_neighbours, fun _ => true, k, tw, fun _ => True⟩ (defBody S_neighbours) (k_neighbours q_ties_at) :=
  l_cons (s_own 4 nd_neighbours (by rfl) (by first | exact Or.inl rfl | exact Or.inr ⟨rfl, rfl⟩) (r_lst (a_nil))) (l_cons (s_for (i_seq (r_ix (EvR.b (r_ix (vb 0) (EvR.b (r_int)))) (vb 2))) (gn 5 nd_neighbours) (l_cons (s_ext 4 (rdl 4) (EvR.b (EvF.r (r_lc (own := [("other", 6)]) nd_neighbours (by rfl) (i_seq (r_call c_ties_at (Nat.le_refl _) (by rfl) (a_cons (v 0) (a_cons (v 5) (a_nil))))) (gn 6 nd_neighbours) (by decide) (.one (t_cmp cd_in (EvR.b (r_ix (vb 1) (vb 6))) (vb 3) (by rfl))) (v 6)))) ⟨fun _ => rfl, fun _ => rfl, rfl⟩) (l_nil))) (l_rel 4 (l_cons (s_ret (v 4)) (l_nil))))
abbrev S_word_of : Stmt := topS 45
abbrev N_word_of : List Str := ["web", "ties", "held", "tie", "place"]
theorem nd_word_of : (N_word_of).Nodup := by decide +kernel
theorem b_word_of {K : PySem.W.Frag} {f : Addr} {fd : FuncData} (F : Fun K "word_of" "word_of" S_word_of f fd) : Binds K fd ["web", "ties"] [] := F.binds (ps := ["web", "ties"]) fun _ _ _ _ _ _ us hl => match us, hl with | [_, _], _ => rfl
theorem sc_word_of : FnScope N_word_of ["web", "ties"] (defScope S_word_of) := ⟨rfl, rfl, rfl, nd_word_of, rfl, by decide +kernel, by decide +kernel⟩
def k_word_of : KS := kSeq (kOwn 2 (kLst (kNil))) (kSeq (ksFor (kItS (kVar 1)) (gkName 3) (kSeq (kExt 2 (kBin ixP (kBin ixP (kVarB 0) (kC (.int 1))) (kVarB 3))) (kNext))) (kRel 2 (kSeq (kRet (kIf (tkV (kCall allP (kCons (kF (kLc (kItS (kVar 2)) (gkName 4) (tkYes) (kCmp eqP (kCount (kVarB 2) (kVar 4)) (kC (.int 2))) [4])) (kNil)))) (kC (.str "ring")) (kC (.str "open")))) (kNext))))
theorem d_word_of (T : Tx K mg) : SlR ⟨P, w, K, mg, base, N_word_of, defScope S_word_of, fun _ => true, k, tw, fun _ => True⟩ (defBody S_word_of) (k_word_of) :=
  l_cons (s_own 2 nd_word_of (by rfl) (by first | exact Or.inl rfl | exact Or.inr ⟨rfl, rfl⟩) (r_lst (a_nil))) (l_cons (s_for (i_seq (v 1)) (gn 3 nd_word_of) (l_cons (s_ext 2 (rdl 2) (EvR.b (r_ix (EvR.b (r_ix (vb 0) (EvR.b (r_int)))) (vb 3))) ⟨fun _ => rfl, fun _ => rfl, rfl⟩) (l_nil))) (l_rel 2 (l_cons (s_ret (r_if (t_val (r_callB bd_all (by rfl) T.b_all (by rfl) (ab_cons (EvR.b (EvF.r (r_lc (own := [("place", 4)]) nd_word_of (by rfl) (i_seq (v 2)) (gn 4 nd_word_of) (by decide) (.nil) (r_cmp cd_eq (EvR.b (r_count (vb 2) (v 4) ⟨fun _ => rfl, fun _ => rfl, rfl⟩)) (EvR.b (r_int)) (by rfl))))) (ab_nil)))) (gs T.t_RING) (gs T.t_OPEN))) (l_nil))))
abbrev S_rows_of : Stmt := topS 46
abbrev N_rows_of : List Str := ["web", "hueing", "one", "other", "met", "found", "tie", "hue", "row", "further"]
theorem nd_rows_of : (N_rows_of).Nodup := by decide +kernel
theorem b_rows_of {K : PySem.W.Frag} {f : Addr} {fd : FuncData} (F : Fun K "rows_of" "rows_of" S_rows_of f fd) : Binds K fd ["web", "hueing", "one", "other"] [] := F.binds (ps := ["web", "hueing", "one", "other"]) fun _ _ _ _ _ _ us hl => match us, hl with | [_, _, _, _], _ => rfl
theorem sc_rows_of : FnScope N_rows_of ["web", "hueing", "one", "other"] (defScope S_rows_of) := ⟨rfl, rfl, rfl, nd_rows_of, rfl, by decide +kernel, by decide +kernel⟩
def k_rows_of (q_look_hues q_row_with q_word_of : PSp) : KS := kSeq (kDrop (kCall q_look_hues (kCons (kVar 2) (kCons (kVar 3) (kNil))))) (kSeq (kDk0 4) (kSeq (kOwn 5 (kLst (kNil))) (kSeq (ksFor (kItE (kVar 1)) (gkTup 2 (gkCons (gkName 6) (gkCons (gkName 7) (gkNil)))) (kSeq (ksIf (tkAnd (kCmpT inP (kVarB 7) (kTup (kCons (kVar 2) (kCons (kVar 3) (kNil))))) (kInDk true 4 (kVar 6))) (kSeq (kSet 8 (kCall q_row_with (kCons (kVar 0) (kCons (kVar 1) (kCons (kVar 6) (kCons (kTup (kCons (kVar 2) (kCons (kVar 3) (kNil)))) (kNil))))))) (kSeq (ksFor (kItS (kVar 8)) (gkName 9) (kSeq (kDkPut 4 (kC (.bl true)) (kVar 9)) (kNext))) (kSeq (kApp 5 (kTup (kCons (kCall q_word_of (kCons (kVar 0) (kCons (kVar 8) (kNil)))) (kCons (kVar 8) (kNil))))) (kNext)))) (kNext)) (kNext))) (kRel 5 (kSeq (kRet (kVar 5)) (kNext))))))
theorem d_rows_of {q_look_hues q_row_with q_word_of : PSp} (T : Tx K mg) (c_look_hues : Callee P w K mg base k "look_hues" q_look_hues) (c_row_with : Callee P w K mg base k "row_with" q_row_with) (c_word_of : Callee P w K mg base k "word_of" q_word_of) : SlR ⟨P, w, K, mg, base, N_rows_of, defScope S_rows_of, fun _ => true, k, tw, fun _ => True⟩ (defBody S_rows_of) (k_rows_of q_look_hues q_row_with q_word_of) :=
  l_cons (s_drop (r_call c_look_hues (Nat.le_refl _) (by rfl) (a_cons (v 2) (a_cons (v 3) (a_nil))))) (l_cons (s_dk0 4 nd_rows_of (by rfl) (by first | exact Or.inl rfl | exact Or.inr ⟨rfl, rfl⟩)) (l_cons (s_own 5 nd_rows_of (by rfl) (by first | exact Or.inl rfl | exact Or.inr ⟨rfl, rfl⟩) (r_lst (a_nil))) (l_cons (s_for (i_enum (by rfl) T.b_enumerate (v 1)) (g_tup (gs_cons (gn 6 nd_rows_of) (gs_cons (gn 7 nd_rows_of) (gs_nil)))) (l_cons (s_if (TwR.t (t_and (t_cmp cd_in (vb 7) (EvR.b (r_tup (a_cons (v 2) (a_cons (v 3) (a_nil))))) (by rfl)) (t_and1 (t_ninDk 4 (rdl 4) (v 6))))) (l_cons (s_set 8 nd_rows_of (by rfl) (by first | exact Or.inl rfl | exact Or.inr ⟨rfl, rfl⟩) (r_call c_row_with (Nat.le_refl _) (by rfl) (a_cons (v 0) (a_cons (v 1) (a_cons (v 6) (a_cons (r_tup (a_cons (v 2) (a_cons (v 3) (a_nil)))) (a_nil))))))) (l_cons (s_for (i_seq (v 8)) (gn 9 nd_rows_of) (l_cons (s_dkPut 4 (rdl 4) (v 9) (r_bl)) (l_nil))) (l_cons (s_app 5 (rdl 5) (r_tup (a_cons (r_call c_word_of (Nat.le_refl _) (by rfl) (a_cons (v 0) (a_cons (v 8) (a_nil)))) (a_cons (v 8) (a_nil)))) ⟨fun _ => rfl, fun _ => rfl, rfl⟩) (l_nil)))) (l_nil)) (l_nil))) (l_rel 5 (l_cons (s_ret (v 5)) (l_nil))))))
abbrev S_other_of : Stmt := topS 47
abbrev N_other_of : List Str := ["hue", "one", "other"]
theorem nd_other_of : (N_other_of).Nodup := by decide +kernel
theorem b_other_of {K : PySem.W.Frag} {f : Addr} {fd : FuncData} (F : Fun K "other_of" "other_of" S_other_of f fd) : Binds K fd ["hue", "one", "other"] [] := F.binds (ps := ["hue", "one", "other"]) fun _ _ _ _ _ _ us hl => match us, hl with | [_, _, _], _ => rfl
theorem sc_other_of : FnScope N_other_of ["hue", "one", "other"] (defScope S_other_of) := ⟨rfl, rfl, rfl, nd_other_of, rfl, by decide +kernel, by decide +kernel⟩
def k_other_of : KS := kSeq (kRet (kIf (kCmpT eqP (kVarB 0) (kVarB 1)) (kVar 2) (kVar 1))) (kNext)
theorem d_other_of (T : Tx K mg) : SlR ⟨P, w, K, mg, base, N_other_of, defScope S_other_of, fun _ => true, k, tw, fun _ => True⟩ (defBody S_other_of) (k_other_of) :=
  l_cons (s_ret (r_if (t_cmp cd_eq (vb 0) (vb 1) (by rfl)) (v 2) (v 1))) (l_nil)
abbrev S_exchanged : Stmt := topS 48
abbrev N_exchanged : List Str := ["web", "hueing", "ties", "one", "other", "made", "tie"]
theorem nd_exchanged : (N_exchanged).Nodup := by decide +kernel
theorem b_exchanged {K : PySem.W.Frag} {f : Addr} {fd : FuncData} (F : Fun K "exchanged" "exchanged" S_exchanged f fd) : Binds K fd ["web", "hueing", "ties", "one", "other"] [] := F.binds (ps := ["web", "hueing", "ties", "one", "other"]) fun _ _ _ _ _ _ us hl => match us, hl with | [_, _, _, _, _], _ => rfl
theorem sc_exchanged : FnScope N_exchanged ["web", "hueing", "ties", "one", "other"] (defScope S_exchanged) := ⟨rfl, rfl, rfl, nd_exchanged, rfl, by decide +kernel, by decide +kernel⟩
def k_exchanged (q_look_hues q_other_of q_is_hueing : PSp) : KS := kSeq (kDrop (kCall q_look_hues (kCons (kVar 3) (kCons (kVar 4) (kNil))))) (kSeq (kOwn 5 (kCallF listP (kCons (kVarB 1) (kNil)))) (kSeq (ksFor (kItS (kVar 2)) (gkName 6) (kSeq (ksIf (kCmpT ninP (kBin ixP (kVarB 1) (kVarB 6)) (kTup (kCons (kVar 3) (kCons (kVar 4) (kNil))))) (kSeq (kNever) (kNext)) (kNext)) (kSeq (kPut 5 (kCall q_other_of (kCons (kBin ixP (kVarB 1) (kVarB 6)) (kCons (kVar 3) (kCons (kVar 4) (kNil))))) (kVar 6)) (kNext)))) (kRel 5 (kSeq (ksIf (tkNot (tkV (kCall q_is_hueing (kCons (kVar 0) (kCons (kVar 5) (kNil)))))) (kSeq (kNever) (kNext)) (kNext)) (kRel 5 (kSeq (kRet (kVar 5)) (kNext)))))))
theorem d_exchanged {q_look_hues q_other_of q_is_hueing : PSp} (T : Tx K mg) (c_look_hues : Callee P w K mg base k "look_hues" q_look_hues) (c_other_of : Callee P w K mg base k "other_of" q_other_of) (c_is_hueing : Callee P w K mg base k "is_hueing" q_is_hueing) : SlR ⟨P, w, K, mg, base, N_exchanged, defScope S_exchanged, fun _ => true, k, tw, fun _ => True⟩ (defBody S_exchanged) (k_exchanged q_look_hues q_other_of q_is_hueing) :=
  l_cons (s_drop (r_call c_look_hues (Nat.le_refl _) (by rfl) (a_cons (v 3) (a_cons (v 4) (a_nil))))) (l_cons (s_own 5 nd_exchanged (by rfl) (by first | exact Or.inl rfl | exact Or.inr ⟨rfl, rfl⟩) (r_callTF bf_list (by rfl) T.b_list (by rfl) (ab_cons (vb 1) (ab_nil)))) (l_cons (s_for (i_seq (v 2)) (gn 6 nd_exchanged) (l_cons (s_if (t_cmp cd_nin (EvR.b (r_ix (vb 1) (vb 6))) (EvR.b (r_tup (a_cons (v 3) (a_cons (v 4) (a_nil))))) (by rfl)) (l_cons (s_never) (l_nil)) (l_nil)) (l_cons (s_put 5 (rdl 5) (v 6) (r_call c_other_of (Nat.le_refl _) (by rfl) (a_cons (r_ix (vb 1) (vb 6)) (a_cons (v 3) (a_cons (v 4) (a_nil)))))) (l_nil)))) (l_rel 5 (l_cons (s_if (t_not (t_val (r_call c_is_hueing (Nat.le_refl _) (by rfl) (a_cons (v 0) (a_cons (v 5) (a_nil)))))) (l_cons (s_never) (l_nil)) (l_nil)) (l_rel 5 (l_cons (s_ret (v 5)) (l_nil)))))))
abbrev S_look_so : Stmt := topS 53
abbrev N_look_so : List Str := ["is_so"]
theorem nd_look_so : (N_look_so).Nodup := by decide +kernel
theorem b_look_so {K : PySem.W.Frag} {f : Addr} {fd : FuncData} (F : Fun K "look_so" "look_so" S_look_so f fd) : Binds K fd ["is_so"] [] := F.binds (ps := ["is_so"]) fun _ _ _ _ _ _ us hl => match us, hl with | [_], _ => rfl
theorem sc_look_so : FnScope N_look_so ["is_so"] (defScope S_look_so) := ⟨rfl, rfl, rfl, nd_look_so, rfl, by decide +kernel, by decide +kernel⟩
def k_look_so : KS := kSeq (ksIf (tkNot (tkV (kVar 0))) (kSeq (kNever) (kNext)) (kNext)) (kNext)
theorem d_look_so (T : Tx K mg) : SlR ⟨P, w, K, mg, base, N_look_so, defScope S_look_so, fun _ => true, k, tw, fun _ => True⟩ (defBody S_look_so) (k_look_so) :=
  l_cons (s_if (t_not (t_val (v 0))) (l_cons (s_never) (l_nil)) (l_nil)) (l_nil)
abbrev S_row_turned : Stmt := topS 59
abbrev N_row_turned : List Str := ["web", "hueing", "step", "word", "place", "one", "other"]
theorem nd_row_turned : (N_row_turned).Nodup := by decide +kernel
theorem b_row_turned {K : PySem.W.Frag} {f : Addr} {fd : FuncData} (F : Fun K "row_turned" "row_turned" S_row_turned f fd) : Binds K fd ["web", "hueing", "step"] [] := F.binds (ps := ["web", "hueing", "step"]) fun _ _ _ _ _ _ us hl => match us, hl with | [_, _, _], _ => rfl
theorem sc_row_turned : FnScope N_row_turned ["web", "hueing", "step"] (defScope S_row_turned) := ⟨rfl, rfl, rfl, nd_row_turned, rfl, by decide +kernel, by decide +kernel⟩
def k_row_turned (q_exchanged q_row_from : PSp) : KS := kSeq (kTgt (kVar 2) (gkTup 4 (gkCons (gkName 3) (gkCons (gkName 4) (gkCons (gkName 5) (gkCons (gkName 6) (gkNil))))))) (kSeq (kRet (kCall q_exchanged (kCons (kVar 0) (kCons (kVar 1) (kCons (kCall q_row_from (kCons (kVar 0) (kCons (kVar 1) (kCons (kVar 4) (kCons (kVar 5) (kCons (kVar 6) (kNil))))))) (kCons (kVar 5) (kCons (kVar 6) (kNil)))))))) (kNext))
theorem d_row_turned {q_exchanged q_row_from : PSp} (T : Tx K mg) (c_exchanged : Callee P w K mg base k "exchanged" q_exchanged) (c_row_from : Callee P w K mg base k "row_from" q_row_from) : SlR ⟨P, w, K, mg, base, N_row_turned, defScope S_row_turned, fun _ => true, k, tw, fun _ => True⟩ (defBody S_row_turned) (k_row_turned q_exchanged q_row_from) :=
  l_cons (s_tgt (v 2) (g_tup (gs_cons (gn 3 nd_row_turned) (gs_cons (gn 4 nd_row_turned) (gs_cons (gn 5 nd_row_turned) (gs_cons (gn 6 nd_row_turned) (gs_nil))))))) (l_cons (s_ret (r_call c_exchanged (Nat.le_refl _) (by rfl) (a_cons (v 0) (a_cons (v 1) (a_cons (r_call c_row_from (Nat.le_refl _) (by rfl) (a_cons (v 0) (a_cons (v 1) (a_cons (v 4) (a_cons (v 5) (a_cons (v 6) (a_nil))))))) (a_cons (v 5) (a_cons (v 6) (a_nil)))))))) (l_nil))
abbrev S_made_by : Stmt := topS 60
abbrev N_made_by : List Str := ["web", "hueing", "step"]
theorem nd_made_by : (N_made_by).Nodup := by decide +kernel
theorem b_made_by {K : PySem.W.Frag} {f : Addr} {fd : FuncData} (F : Fun K "made_by" "made_by" S_made_by f fd) : Binds K fd ["web", "hueing", "step"] [] := F.binds (ps := ["web", "hueing", "step"]) fun _ _ _ _ _ _ us hl => match us, hl with | [_, _, _], _ => rfl
theorem sc_made_by : FnScope N_made_by ["web", "hueing", "step"] (defScope S_made_by) := ⟨rfl, rfl, rfl, nd_made_by, rfl, by decide +kernel, by decide +kernel⟩
def k_made_by (q_with_hue q_dropped q_moved q_row_turned : PSp) : KS := kSeq (ksIf (kCmpT eqP (kBin ixP (kVarB 2) (kC (.int 0))) (kC (.str "hue"))) (kSeq (kRet (kCall q_with_hue (kCons (kVar 0) (kCons (kVar 1) (kCons (kVar 2) (kNil)))))) (kNext)) (kNext)) (kSeq (ksIf (kCmpT eqP (kBin ixP (kVarB 2) (kC (.int 0))) (kC (.str "drop"))) (kSeq (kRet (kCall q_dropped (kCons (kVar 0) (kCons (kVar 1) (kCons (kVar 2) (kNil)))))) (kNext)) (kNext)) (kSeq (ksIf (kCmpT eqP (kBin ixP (kVarB 2) (kC (.int 0))) (kC (.str "move"))) (kSeq (kRet (kCall q_moved (kCons (kVar 0) (kCons (kVar 1) (kCons (kVar 2) (kNil)))))) (kNext)) (kNext)) (kSeq (kRet (kCall q_row_turned (kCons (kVar 0) (kCons (kVar 1) (kCons (kVar 2) (kNil)))))) (kNext))))
theorem d_made_by {q_with_hue q_dropped q_moved q_row_turned : PSp} (T : Tx K mg) (c_with_hue : Callee P w K mg base k "with_hue" q_with_hue) (c_dropped : Callee P w K mg base k "dropped" q_dropped) (c_moved : Callee P w K mg base k "moved" q_moved) (c_row_turned : Callee P w K mg base k "row_turned" q_row_turned) : SlR ⟨P, w, K, mg, base, N_made_by, defScope S_made_by, fun _ => true, k, tw, fun _ => True⟩ (defBody S_made_by) (k_made_by q_with_hue q_dropped q_moved q_row_turned) :=
  l_cons (s_if (t_cmp cd_eq (EvR.b (r_ix (vb 2) (EvR.b (r_int)))) (EvR.b (gs T.t_HUE)) (by rfl)) (l_cons (s_ret (r_call c_with_hue (Nat.le_refl _) (by rfl) (a_cons (v 0) (a_cons (v 1) (a_cons (v 2) (a_nil)))))) (l_nil)) (l_nil)) (l_cons (s_if (t_cmp cd_eq (EvR.b (r_ix (vb 2) (EvR.b (r_int)))) (EvR.b (gs T.t_DROP)) (by rfl)) (l_cons (s_ret (r_call c_dropped (Nat.le_refl _) (by rfl) (a_cons (v 0) (a_cons (v 1) (a_cons (v 2) (a_nil)))))) (l_nil)) (l_nil)) (l_cons (s_if (t_cmp cd_eq (EvR.b (r_ix (vb 2) (EvR.b (r_int)))) (EvR.b (gs T.t_MOVE)) (by rfl)) (l_cons (s_ret (r_call c_moved (Nat.le_refl _) (by rfl) (a_cons (v 0) (a_cons (v 1) (a_cons (v 2) (a_nil)))))) (l_nil)) (l_nil)) (l_cons (s_ret (r_call c_row_turned (Nat.le_refl _) (by rfl) (a_cons (v 0) (a_cons (v 1) (a_cons (v 2) (a_nil)))))) (l_nil))))
abbrev S_sizes : Stmt := topS 63
abbrev N_sizes : List Str := ["hueing", "hues", "ties"]
theorem nd_sizes : (N_sizes).Nodup := by decide +kernel
theorem b_sizes {K : PySem.W.Frag} {f : Addr} {fd : FuncData} (F : Fun K "sizes" "sizes" S_sizes f fd) : Binds K fd ["hueing", "hues"] [] := F.binds (ps := ["hueing", "hues"]) fun _ _ _ _ _ _ us hl => match us, hl with | [_, _], _ => rfl
theorem sc_sizes : FnScope N_sizes ["hueing", "hues"] (defScope S_sizes) := ⟨rfl, rfl, rfl, nd_sizes, rfl, by decide +kernel, by decide +kernel⟩
def k_sizes (q_classes : PSp) : KS := kSeq (kRet (kF (kLc (kItS (kCall q_classes (kCons (kVar 0) (kCons (kVar 1) (kNil))))) (gkName 2) (tkYes) (kCall lenP (kCons (kVarB 2) (kNil))) [2]))) (kNext)
theorem d_sizes {q_classes : PSp} (T : Tx K mg) (c_classes : Callee P w K mg base k "classes" q_classes) : SlR ⟨P, w, K, mg, base, N_sizes, defScope S_sizes, fun _ => true, k, tw, fun _ => True⟩ (defBody S_sizes) (k_sizes q_classes) :=
  l_cons (s_ret (EvF.r (r_lc (own := [("ties", 2)]) nd_sizes (by rfl) (i_seq (r_call c_classes (Nat.le_refl _) (by rfl) (a_cons (v 0) (a_cons (v 1) (a_nil))))) (gn 2 nd_sizes) (by decide) (.nil) (r_callB bd_len (by rfl) T.b_len (by rfl) (ab_cons (vb 2) (ab_nil)))))) (l_nil)
abbrev S_end_of_hue : Stmt := topS 64
abbrev N_end_of_hue : List Str := ["web", "hueing", "ties", "hue", "held", "tie", "place"]
theorem nd_end_of_hue : (N_end_of_hue).Nodup := by decide +kernel
theorem b_end_of_hue {K : PySem.W.Frag} {f : Addr} {fd : FuncData} (F : Fun K "end_of_hue" "end_of_hue" S_end_of_hue f fd) : Binds K fd ["web", "hueing", "ties", "hue"] [] := F.binds (ps := ["web", "hueing", "ties", "hue"]) fun _ _ _ _ _ _ us hl => match us, hl with | [_, _, _, _], _ => rfl
theorem sc_end_of_hue : FnScope N_end_of_hue ["web", "hueing", "ties", "hue"] (defScope S_end_of_hue) := ⟨rfl, rfl, rfl, nd_end_of_hue, rfl, by decide +kernel, by decide +kernel⟩
def k_end_of_hue : KS := kSeq (kOwn 4 (kLst (kNil))) (kSeq (ksFor (kItS (kVar 2)) (gkName 5) (kSeq (kExt 4 (kBin ixP (kBin ixP (kVarB 0) (kC (.int 1))) (kVarB 5))) (kNext))) (kSeq (ksFor (kItS (kVar 2)) (gkName 5) (kSeq (ksFor (kItS (kBin ixP (kBin ixP (kVarB 0) (kC (.int 1))) (kVarB 5))) (gkName 6) (kSeq (ksIf (tkAnd (kCmpT eqP (kBin ixP (kVarB 1) (kVarB 5)) (kVarB 3)) (kCmpT eqP (kCount (kVarB 4) (kVar 6)) (kC (.int 1)))) (kSeq (kRet (kVar 6)) (kNext)) (kNext)) (kNext))) (kNext))) (kSeq (kRet (kC .non)) (kNext))))
theorem d_end_of_hue (T : Tx K mg) : SlR ⟨P, w, K, mg, base, N_end_of_hue, defScope S_end_of_hue, fun _ => true, k, tw, fun _ => True⟩ (defBody S_end_of_hue) (k_end_of_hue) :=
  l_cons (s_own 4 nd_end_of_hue (by rfl) (by first | exact Or.inl rfl | exact Or.inr ⟨rfl, rfl⟩) (r_lst (a_nil))) (l_cons (s_for (i_seq (v 2)) (gn 5 nd_end_of_hue) (l_cons (s_ext 4 (rdl 4) (EvR.b (r_ix (EvR.b (r_ix (vb 0) (EvR.b (r_int)))) (vb 5))) ⟨fun _ => rfl, fun _ => rfl, rfl⟩) (l_nil))) (l_cons (s_for (i_seq (v 2)) (gn 5 nd_end_of_hue) (l_cons (s_for (i_seq (r_ix (EvR.b (r_ix (vb 0) (EvR.b (r_int)))) (vb 5))) (gn 6 nd_end_of_hue) (l_cons (s_if (TwR.t (t_and (t_cmp cd_eq (EvR.b (r_ix (vb 1) (vb 5))) (vb 3) (by rfl)) (t_and1 (t_cmp cd_eq (EvR.b (r_count (vb 4) (v 6) ⟨fun _ => rfl, fun _ => rfl, rfl⟩)) (EvR.b (r_int)) (by rfl))))) (l_cons (s_ret (v 6)) (l_nil)) (l_nil)) (l_nil))) (l_nil))) (l_cons (s_ret (r_non)) (l_nil))))
abbrev S_step_between : Stmt := topS 65
abbrev N_step_between : List Str := ["web", "hueing", "most", "least", "word", "ties", "many", "tie"]
theorem nd_step_between : (N_step_between).Nodup := by decide +kernel
theorem b_step_between {K : PySem.W.Frag} {f : Addr} {fd : FuncData} (F : Fun K "step_between" "step_between" S_step_between f fd) : Binds K fd ["web", "hueing", "most", "least"] [] := F.binds (ps := ["web", "hueing", "most", "least"]) fun _ _ _ _ _ _ us hl => match us, hl with | [_, _, _, _], _ => rfl
theorem sc_step_between : FnScope N_step_between ["web", "hueing", "most", "least"] (defScope S_step_between) := ⟨rfl, rfl, rfl, nd_step_between, rfl, by decide +kernel, by decide +kernel⟩
def k_step_between (q_rows_of q_end_of_hue : PSp) : KS := kSeq (ksFor (kItS (kCall q_rows_of (kCons (kVar 0) (kCons (kVar 1) (kCons (kVar 2) (kCons (kVar 3) (kNil))))))) (gkTup 2 (gkCons (gkName 4) (gkCons (gkName 5) (gkNil)))) (kSeq (kSet 6 (kCall lenP (kCons (kF (kLc (kItS (kVar 5)) (gkName 7) (kCmpT eqP (kBin ixP (kVarB 1) (kVarB 7)) (kVarB 2)) (kVar 7) [7])) (kNil)))) (kSeq (ksIf (tkAnd (kCmpT eqP (kVarB 4) (kC (.str "open"))) (kCmpT gtP (kBin mulP (kC (.int 2)) (kVarB 6)) (kCall lenP (kCons (kVarB 5) (kNil))))) (kSeq (kRet (kTup (kCons (kC (.str "row")) (kCons (kCall q_end_of_hue (kCons (kVar 0) (kCons (kVar 1) (kCons (kVar 5) (kCons (kVar 2) (kNil)))))) (kCons (kVar 2) (kCons (kVar 3) (kNil))))))) (kNext)) (kNext)) (kNext)))) (kSeq (kRet (kC .non)) (kNext))
theorem d_step_between {q_rows_of q_end_of_hue : PSp} (T : Tx K mg) (c_rows_of : Callee P w K mg base k "rows_of" q_rows_of) (c_end_of_hue : Callee P w K mg base k "end_of_hue" q_end_of_hue) : SlR ⟨P, w, K, mg, base, N_step_between, defScope S_step_between, fun _ => true, k, tw, fun _ => True⟩ (defBody S_step_between) (k_step_between q_rows_of q_end_of_hue) :=
  l_cons (s_for (i_seq (r_call c_rows_of (Nat.le_refl _) (by rfl) (a_cons (v 0) (a_cons (v 1) (a_cons (v 2) (a_cons (v 3) (a_nil))))))) (g_tup (gs_cons (gn 4 nd_step_between) (gs_cons (gn 5 nd_step_between) (gs_nil)))) (l_cons (s_set 6 nd_step_between (by rfl) (by first | exact Or.inl rfl | exact Or.inr ⟨rfl, rfl⟩) (r_callB bd_len (by rfl) T.b_len (by rfl) (ab_cons (EvR.b (EvF.r (r_lc (own := [("tie", 7)]) nd_step_between (by rfl) (i_seq (v 5)) (gn 7 nd_step_between) (by decide) (.one (t_cmp cd_eq (EvR.b (r_ix (vb 1) (vb 7))) (vb 2) (by rfl))) (v 7)))) (ab_nil)))) (l_cons (s_if (TwR.t (t_and (t_cmp cd_eq (vb 4) (EvR.b (gs T.t_OPEN)) (by rfl)) (t_and1 (t_cmp cd_gt (EvR.b (r_bin od_mul (EvR.b (r_int)) (vb 6))) (EvR.b (r_callB bd_len (by rfl) T.b_len (by rfl) (ab_cons (vb 5) (ab_nil)))) (by rfl))))) (l_cons (s_ret (r_tup (a_cons (r_str) (a_cons (r_call c_end_of_hue (Nat.le_refl _) (by rfl) (a_cons (v 0) (a_cons (v 1) (a_cons (v 5) (a_cons (v 2) (a_nil)))))) (a_cons (v 2) (a_cons (v 3) (a_nil))))))) (l_nil)) (l_nil)) (l_nil)))) (l_cons (s_ret (r_non)) (l_nil))
abbrev S_evened : Stmt := topS 66
abbrev N_evened : List Str := ["web", "hueing", "hues", "here", "steps", "many"]
theorem nd_evened : (N_evened).Nodup := by decide +kernel
theorem b_evened {K : PySem.W.Frag} {f : Addr} {fd : FuncData} (F : Fun K "evened" "evened" S_evened f fd) : Binds K fd ["web", "hueing", "hues"] [] := F.binds (ps := ["web", "hueing", "hues"]) fun _ _ _ _ _ _ us hl => match us, hl with | [_, _, _], _ => rfl
theorem sc_evened : FnScope N_evened ["web", "hueing", "hues"] (defScope S_evened) := ⟨rfl, rfl, rfl, nd_evened, rfl, by decide +kernel, by decide +kernel⟩
def k_evened (q_sizes q_step_between q_done_step : PSp) : KS := kSeq (kSet 3 (kF (kCallF listP (kCons (kVarB 1) (kNil))))) (kSeq (kOwn 4 (kLst (kNil))) (kSeq (kSet 5 (kCall q_sizes (kCons (kVar 3) (kCons (kVar 2) (kNil))))) (kSeq (ksWhile (kCmpT gtP (kBin subP (kCall maxDP (kCons (kVarB 5) (kCons (kC (.int 0)) kNil))) (kCall minDP (kCons (kVarB 5) (kCons (kC (.int 0)) kNil)))) (kC (.int 1))) (kSeq (kApp 4 (kCall q_step_between (kCons (kVar 0) (kCons (kVar 3) (kCons (kIndex (kVarB 5) (kCall maxLP (kCons (kVarB 5) (kNil)))) (kCons (kIndex (kVarB 5) (kCall minLP (kCons (kVarB 5) (kNil)))) (kNil))))))) (kSeq (kSet 3 (kCall q_done_step (kCons (kVar 0) (kCons (kVar 3) (kCons (kBin ixP (kVarB 4) (kNeg (kC (.int 1)))) (kNil)))))) (kSeq (kSet 5 (kCall q_sizes (kCons (kVar 3) (kCons (kVar 2) (kNil))))) (kNext))))) (kRel 4 (kSeq (kRet (kTup (kCons (kVar 3) (kCons (kVar 4) (kNil))))) (kNext))))))
theorem d_evened {q_sizes q_step_between q_done_step : PSp} (T : Tx K mg) (c_sizes : Callee P w K mg base k "sizes" q_sizes) (c_step_between : Callee P w K mg base k "step_between" q_step_between) (c_done_step : Callee P w K mg base k "done_step" q_done_step) : SlR ⟨P, w, K, mg, base, N_evened, defScope S_evened, fun _ => true, k, tw, fun _ => True⟩ (defBody S_evened) (k_evened q_sizes q_step_between q_done_step) :=
  l_cons (s_set 3 nd_evened (by rfl) (by first | exact Or.inl rfl | exact Or.inr ⟨rfl, rfl⟩) (EvF.r (r_callTF bf_list (by rfl) T.b_list (by rfl) (ab_cons (vb 1) (ab_nil))))) (l_cons (s_own 4 nd_evened (by rfl) (by first | exact Or.inl rfl | exact Or.inr ⟨rfl, rfl⟩) (r_lst (a_nil))) (l_cons (s_set 5 nd_evened (by rfl) (by first | exact Or.inl rfl | exact Or.inr ⟨rfl, rfl⟩) (r_call c_sizes (Nat.le_refl _) (by rfl) (a_cons (v 3) (a_cons (v 2) (a_nil))))) (l_cons (s_while (t_cmp cd_gt (EvR.b (r_bin od_sub (EvR.b (r_maxD (by rfl) T.b_max (vb 5) (r_int))) (EvR.b (r_minD (by rfl) T.b_min (vb 5) (r_int))))) (EvR.b (r_int)) (by rfl)) (l_cons (s_app 4 (rdl 4) (r_call c_step_between (Nat.le_refl _) (by rfl) (a_cons (v 0) (a_cons (v 3) (a_cons (r_index (vb 5) (r_callB bd_maxL (by rfl) T.b_max (by rfl) (ab_cons (vb 5) (ab_nil))) ⟨fun _ => rfl, fun _ => rfl, rfl⟩) (a_cons (r_index (vb 5) (r_callB bd_minL (by rfl) T.b_min (by rfl) (ab_cons (vb 5) (ab_nil))) ⟨fun _ => rfl, fun _ => rfl, rfl⟩) (a_nil)))))) ⟨fun _ => rfl, fun _ => rfl, rfl⟩) (l_cons (s_set 3 nd_evened (by rfl) (by first | exact Or.inl rfl | exact Or.inr ⟨rfl, rfl⟩) (r_call c_done_step (Nat.le_refl _) (by rfl) (a_cons (v 0) (a_cons (v 3) (a_cons (r_ix (vb 4) (EvR.b (r_neg (r_int)))) (a_nil)))))) (l_cons (s_set 5 nd_evened (by rfl) (by first | exact Or.inl rfl | exact Or.inr ⟨rfl, rfl⟩) (r_call c_sizes (Nat.le_refl _) (by rfl) (a_cons (v 3) (a_cons (v 2) (a_nil))))) (l_nil))))) (l_rel 4 (l_cons (s_ret (r_tup (a_cons (v 3) (a_cons (v 4) (a_nil))))) (l_nil))))))
end
end U
set_option Elab.async false
set_option linter.all false
set_option maxRecDepth 100000
set_option maxHeartbeats 4000000
namespace U
open PySem PySem.Spec PyProof.Rows L2
section
variable {P : Program} {w : World} {K : PySem.W.Frag} {mg : Str → Option Value} {base : Heap} {k : Nat} {tw : AD} {cSearch cLists : Addr}

abbrev S_ties_near : Stmt := topS 68
abbrev N_ties_near : List Str := ["web", "found", "tie", "pair", "k", "one", "other"]
theorem nd_ties_near : (N_ties_near).Nodup := by decide +kernel
theorem b_ties_near {K : PySem.W.Frag} {f : Addr} {fd : FuncData} (F : Fun K "ties_near" "ties_near" S_ties_near f fd) : Binds K fd ["web"] [] := F.binds (ps := ["web"]) fun _ _ _ _ _ _ us hl => match us, hl with | [_], _ => rfl
theorem sc_ties_near : FnScope N_ties_near ["web"] (defScope S_ties_near) := ⟨rfl, rfl, rfl, nd_ties_near, rfl, by decide +kernel, by decide +kernel⟩
def k_ties_near : KS := kSeq (kOwn 1 (kLst (kNil))) (kSeq (ksFor (kItET (kBin ixP (kVarB 0) (kC (.int 1)))) (gkTup 2 (gkCons (gkName 2) (gkCons (gkName 3) (gkNil)))) (kSeq (kApp 1 (kF (kLc (kItET (kBin ixP (kVarB 0) (kC (.int 1)))) (gkTup 2 (gkCons (gkName 4) (gkCons (gkTup 2 (gkCons (gkName 5) (gkCons (gkName 6) (gkNil)))) (gkNil)))) (tkAnd (kCmpT neP (kVarB 4) (kVarB 2)) (tkOr (kCmpT inP (kVarB 5) (kVarB 3)) (kCmpT inP (kVarB 6) (kVarB 3)))) (kVar 4) [4, 5, 6]))) (kNext))) (kRel 1 (kSeq (kRet (kVar 1)) (kNext))))
theorem d_ties_near (T : Tx K mg) : SlR ⟨P, w, K, mg, base, N_ties_near, defScope S_ties_near, fun _ => true, k, tw, fun _ => True⟩ (defBody S_ties_near) (k_ties_near) :=
  l_cons (s_own 1 nd_ties_near (by rfl) (by first | exact Or.inl rfl | exact Or.inr ⟨rfl, rfl⟩) (r_lst (a_nil))) (l_cons (s_for (i_enumT (by rfl) T.b_enumerate (r_ix (vb 0) (EvR.b (r_int)))) (g_tup (gs_cons (gn 2 nd_ties_near) (gs_cons (gn 3 nd_ties_near) (gs_nil)))) (l_cons (s_app 1 (rdl 1) (EvF.r (r_lc (own := [("k", 4), ("one", 5), ("other", 6)]) nd_ties_near (by rfl) (i_enumT (by rfl) T.b_enumerate (r_ix (vb 0) (EvR.b (r_int)))) (g_tup (gs_cons (gn 4 nd_ties_near) (gs_cons (g_tup (gs_cons (gn 5 nd_ties_near) (gs_cons (gn 6 nd_ties_near) (gs_nil)))) (gs_nil)))) (by decide) (.one (TwR.t (t_and (t_cmp cd_ne (vb 4) (vb 2) (by rfl)) (t_and1 (TwR.t (t_or (t_cmp cd_in (vb 5) (vb 3) (by rfl)) (t_or1 (t_cmp cd_in (vb 6) (vb 3) (by rfl))))))))) (v 4))) ⟨fun _ => rfl, fun _ => rfl, rfl⟩) (l_nil))) (l_rel 1 (l_cons (s_ret (v 1)) (l_nil))))
abbrev S_Search_free_hues : Stmt := clsS 69 1
abbrev N_Search_free_hues : List Str := ["self", "row", "tie", "taken", "k", "hue"]
theorem nd_Search_free_hues : (N_Search_free_hues).Nodup := by decide +kernel
theorem sc_Search_free_hues : FnScope N_Search_free_hues ["self", "row", "tie"] (defScope S_Search_free_hues) := ⟨rfl, rfl, rfl, nd_Search_free_hues, rfl, by decide +kernel, by decide +kernel⟩
def k_Search_free_hues (cSearch : Addr) : KS := kSeq (kSet 3 (kF (kLc (kItS (kBin ixP (kFldC cSearch "near" (kVar 0)) (kVarB 2))) (gkName 4) (tkYes) (kBin ixP (kVarB 1) (kVarB 4)) [4]))) (kSeq (kRet (kF (kLc (kItR1 (kFldC cSearch "below" (kVar 0))) (gkName 5) (kCmpT ninP (kVarB 5) (kVarB 3)) (kVar 5) [5]))) (kNext))
theorem d_Search_free_hues (T : Tx K mg) (TSearch : TcSearch K cSearch) : SlR ⟨P, w, K, mg, base, N_Search_free_hues, defScope S_Search_free_hues, fun _ => true, k, tw, fun _ => True⟩ (defBody S_Search_free_hues) (k_Search_free_hues cSearch) :=
  l_cons (s_set 3 nd_Search_free_hues (by rfl) (by first | exact Or.inl rfl | exact Or.inr ⟨rfl, rfl⟩) (EvF.r (r_lc (own := [("k", 4)]) nd_Search_free_hues (by rfl) (i_seq (r_ix (EvR.b (r_fldC TSearch.cls TSearch.na_near (v 0))) (vb 2))) (gn 4 nd_Search_free_hues) (by decide) (.nil) (r_ix (vb 1) (vb 4)))) (sw_false (by rfl) (by rfl))) (l_cons (s_ret (EvF.r (r_lc (own := [("hue", 5)]) nd_Search_free_hues (by rfl) (i_range1 (by rfl) T.b_range (r_fldC TSearch.cls TSearch.na_below (v 0))) (gn 5 nd_Search_free_hues) (by decide) (.one (t_cmp cd_nin (vb 5) (vb 3) (by rfl))) (v 5)))) (l_nil))
abbrev S_Search_open_hues : Stmt := clsS 69 2
abbrev N_Search_open_hues : List Str := ["self", "row", "tie", "met", "hue"]
theorem nd_Search_open_hues : (N_Search_open_hues).Nodup := by decide +kernel
theorem sc_Search_open_hues : FnScope N_Search_open_hues ["self", "row", "tie"] (defScope S_Search_open_hues) := ⟨rfl, rfl, rfl, nd_Search_open_hues, rfl, by decide +kernel, by decide +kernel⟩
def k_Search_open_hues (cSearch : Addr) (q_Search_free_hues : PSp) : KS := kSeq (kSet 3 (kLenSet (kF (kLc (kItS (kVar 1)) (gkName 4) (kCmpT nisP (kVarB 4) (kC .non)) (kVar 4) [4])))) (kSeq (kRet (kF (kLc (kItS (kMeth cSearch "free_hues" q_Search_free_hues (kVar 0) (kCons (kVar 1) (kCons (kVar 2) (kNil))))) (gkName 4) (kCmpT leP (kVarB 4) (kVarB 3)) (kVar 4) [4]))) (kNext))
theorem d_Search_open_hues {q_Search_free_hues : PSp} (T : Tx K mg) (TSearch : TcSearch K cSearch) (m_Search_free_hues : CalleeM P w K mg base k cSearch "free_hues" q_Search_free_hues) : SlR ⟨P, w, K, mg, base, N_Search_open_hues, defScope S_Search_open_hues, fun _ => true, k, tw, fun _ => True⟩ (defBody S_Search_open_hues) (k_Search_open_hues cSearch q_Search_free_hues) :=
  l_cons (s_set 3 nd_Search_open_hues (by rfl) (by first | exact Or.inl rfl | exact Or.inr ⟨rfl, rfl⟩) (r_lenSet (by rfl) T.b_len (by rfl) T.b_set (EvR.b (EvF.r (r_lc (own := [("hue", 4)]) nd_Search_open_hues (by rfl) (i_seq (v 1)) (gn 4 nd_Search_open_hues) (by decide) (.one (t_cmp cd_nis (vb 4) (EvR.b (r_non)) (by rfl))) (v 4)))))) (l_cons (s_ret (EvF.r (r_lc (own := [("hue", 4)]) nd_Search_open_hues (by rfl) (i_seq (r_meth TSearch.cls m_Search_free_hues (Nat.le_refl _) (v 0) (a_cons (v 1) (a_cons (v 2) (a_nil))))) (gn 4 nd_Search_open_hues) (by decide) (.one (t_cmp cd_le (vb 4) (vb 3) (by rfl))) (v 4)))) (l_nil))
abbrev S_Search_narrowest : Stmt := clsS 69 3
abbrev N_Search_narrowest : List Str := ["self", "row", "bare", "tie", "hue"]
theorem nd_Search_narrowest : (N_Search_narrowest).Nodup := by decide +kernel
theorem sc_Search_narrowest : FnScope N_Search_narrowest ["self", "row"] (defScope S_Search_narrowest) := ⟨rfl, rfl, rfl, nd_Search_narrowest, rfl, by decide +kernel, by decide +kernel⟩
def k_Search_narrowest (cSearch : Addr) (q_Search_free_hues : PSp) : KS := kSeq (kOwn 2 (kLst (kNil))) (kSeq (ksFor (kItE (kVar 1)) (gkTup 2 (gkCons (gkName 3) (gkCons (gkName 4) (gkNil)))) (kSeq (ksIf (kCmpT isP (kVarB 4) (kC .non)) (kSeq (kApp 2 (kTup (kCons (kCall lenP (kCons (kMeth cSearch "free_hues" q_Search_free_hues (kVar 0) (kCons (kVar 1) (kCons (kVar 3) (kNil)))) (kNil))) (kCons (kNeg (kCall lenP (kCons (kBin ixP (kFldC cSearch "near" (kVar 0)) (kVarB 3)) (kNil)))) (kCons (kVar 3) (kNil)))))) (kNext)) (kNext)) (kNext))) (kSeq (kRet (kIf (kCmpT gtP (kCall lenP (kCons (kVarB 2) (kNil))) (kC (.int 0))) (kBin ixP (kCall minTP (kCons (kVarB 2) (kNil))) (kC (.int 2))) (kC .non))) (kNext)))
theorem d_Search_narrowest {q_Search_free_hues : PSp} (T : Tx K mg) (TSearch : TcSearch K cSearch) (m_Search_free_hues : CalleeM P w K mg base k cSearch "free_hues" q_Search_free_hues) : SlR ⟨P, w, K, mg, base, N_Search_narrowest, defScope S_Search_narrowest, fun _ => true, k, tw, fun _ => True⟩ (defBody S_Search_narrowest) (k_Search_narrowest cSearch q_Search_free_hues) :=
  l_cons (s_own 2 nd_Search_narrowest (by rfl) (by first | exact Or.inl rfl | exact Or.inr ⟨rfl, rfl⟩) (r_lst (a_nil))) (l_cons (s_for (i_enum (by rfl) T.b_enumerate (v 1)) (g_tup (gs_cons (gn 3 nd_Search_narrowest) (gs_cons (gn 4 nd_Search_narrowest) (gs_nil)))) (l_cons (s_if (t_cmp cd_is (vb 4) (EvR.b (r_non)) (by rfl)) (l_cons (s_app 2 (rdl 2) (r_tup (a_cons (r_callB bd_len (by rfl) T.b_len (by rfl) (ab_cons (EvR.b (r_meth TSearch.cls m_Search_free_hues (Nat.le_refl _) (v 0) (a_cons (v 1) (a_cons (v 3) (a_nil))))) (ab_nil))) (a_cons (r_neg (r_callB bd_len (by rfl) T.b_len (by rfl) (ab_cons (EvR.b (r_ix (EvR.b (r_fldC TSearch.cls TSearch.na_near (v 0))) (vb 3))) (ab_nil)))) (a_cons (v 3) (a_nil))))) ⟨fun _ => rfl, fun _ => rfl, rfl⟩) (l_nil)) (l_nil)) (l_nil))) (l_cons (s_ret (r_if (t_cmp cd_gt (EvR.b (r_callB bd_len (by rfl) T.b_len (by rfl) (ab_cons (vb 2) (ab_nil)))) (EvR.b (r_int)) (by rfl)) (r_ix (EvR.b (r_callB bd_minT (by rfl) T.b_min (by rfl) (ab_cons (vb 2) (ab_nil)))) (EvR.b (r_int))) (r_non))) (l_nil)))
abbrev S_Search_goes_on : Stmt := clsS 69 4
abbrev N_Search_goes_on : List Str := ["self", "row", "tie", "trees", "hue", "whole", "tree"]
theorem nd_Search_goes_on : (N_Search_goes_on).Nodup := by decide +kernel
theorem sc_Search_goes_on : FnScope N_Search_goes_on ["self", "row"] (defScope S_Search_goes_on) := ⟨rfl, rfl, rfl, nd_Search_goes_on, rfl, by decide +kernel, by decide +kernel⟩
def k_Search_goes_on (cSearch : Addr) (q_Search_narrowest q_Search_open_hues q_Search_goes_on : PSp) : KS := kSeq (kSet 2 (kMeth cSearch "narrowest" q_Search_narrowest (kVar 0) (kCons (kVar 1) (kNil)))) (kSeq (ksIf (kCmpT isP (kVarB 2) (kC .non)) (kSeq (kRet (kTup (kCons (kVar 1) (kCons (kC .non) (kNil))))) (kNext)) (kNext)) (kSeq (kOwn 3 (kLst (kNil))) (kSeq (ksFor (kItS (kMeth cSearch "open_hues" q_Search_open_hues (kVar 0) (kCons (kVar 1) (kCons (kVar 2) (kNil))))) (gkName 4) (kSeq (kTgt (kMeth cSearch "goes_on" q_Search_goes_on (kVar 0) (kCons (kBin addP (kBin addP (kSl (kVarB 1) (koN) (koS (kVar 2))) (kF (kLst (kCons (kVar 4) (kNil))))) (kSl (kVarB 1) (koS (kBin addP (kVarB 2) (kC (.int 1)))) (koN))) (kNil))) (gkTup 2 (gkCons (gkName 5) (gkCons (gkName 6) (gkNil))))) (kSeq (ksIf (kCmpT nisP (kVarB 5) (kC .non)) (kSeq (kRet (kTup (kCons (kVar 5) (kCons (kC .non) (kNil))))) (kNext)) (kNext)) (kSeq (kApp 3 (kVar 6)) (kNext))))) (kSeq (kRet (kTup (kCons (kC .non) (kCons (kTup (kCons (kVar 2) (kCons (kCall tupleP (kCons (kVarB 3) (kNil))) (kNil)))) (kNil))))) (kNext)))))
theorem d_Search_goes_on {q_Search_narrowest q_Search_open_hues q_Search_goes_on : PSp} (T : Tx K mg) (TSearch : TcSearch K cSearch) (m_Search_narrowest : CalleeM P w K mg base k cSearch "narrowest" q_Search_narrowest) (m_Search_open_hues : CalleeM P w K mg base k cSearch "open_hues" q_Search_open_hues) (m_Search_goes_on : CalleeM P w K mg base k cSearch "goes_on" q_Search_goes_on) : SlR ⟨P, w, K, mg, base, N_Search_goes_on, defScope S_Search_goes_on, fun _ => true, k, tw, fun _ => True⟩ (defBody S_Search_goes_on) (k_Search_goes_on cSearch q_Search_narrowest q_Search_open_hues q_Search_goes_on) :=
  l_cons (s_set 2 nd_Search_goes_on (by rfl) (by first | exact Or.inl rfl | exact Or.inr ⟨rfl, rfl⟩) (r_meth TSearch.cls m_Search_narrowest (Nat.le_refl _) (v 0) (a_cons (v 1) (a_nil)))) (l_cons (s_if (t_cmp cd_is (vb 2) (EvR.b (r_non)) (by rfl)) (l_cons (s_ret (r_tup (a_cons (v 1) (a_cons (r_non) (a_nil))))) (l_nil)) (l_nil)) (l_cons (s_own 3 nd_Search_goes_on (by rfl) (by first | exact Or.inl rfl | exact Or.inr ⟨rfl, rfl⟩) (r_lst (a_nil))) (l_cons (s_for (i_seq (r_meth TSearch.cls m_Search_open_hues (Nat.le_refl _) (v 0) (a_cons (v 1) (a_cons (v 2) (a_nil))))) (gn 4 nd_Search_goes_on) (l_cons (s_tgt (r_meth TSearch.cls m_Search_goes_on (Nat.le_refl _) (v 0) (a_cons (r_bin od_add (EvR.b (r_bin od_add (EvR.b (r_slice (vb 1) (o_none) (o_some (v 2)))) (EvR.b (EvF.r (r_lst (a_cons (v 4) (a_nil))))))) (EvR.b (r_slice (vb 1) (o_some (r_bin od_add (vb 2) (EvR.b (r_int)))) (o_none)))) (a_nil))) (g_tup (gs_cons (gn 5 nd_Search_goes_on) (gs_cons (gn 6 nd_Search_goes_on) (gs_nil))))) (l_cons (s_if (t_cmp cd_nis (vb 5) (EvR.b (r_non)) (by rfl)) (l_cons (s_ret (r_tup (a_cons (v 5) (a_cons (r_non) (a_nil))))) (l_nil)) (l_nil)) (l_cons (s_app 3 (rdl 3) (v 6) ⟨fun _ => rfl, fun _ => rfl, rfl⟩) (l_nil))))) (l_cons (s_ret (r_tup (a_cons (r_non) (a_cons (r_tup (a_cons (v 2) (a_cons (r_callT bd_tuple (by rfl) T.b_tuple (by rfl) (ab_cons (vb 3) (ab_nil))) (a_nil)))) (a_nil))))) (l_nil)))))
abbrev S_paper_by_set : Stmt := topS 71
abbrev N_paper_by_set : List Str := ["web", "hues", "some"]
theorem nd_paper_by_set : (N_paper_by_set).Nodup := by decide +kernel
theorem b_paper_by_set {K : PySem.W.Frag} {f : Addr} {fd : FuncData} (F : Fun K "paper_by_set" "paper_by_set" S_paper_by_set f fd) : Binds K fd ["web", "hues"] [] := F.binds (ps := ["web", "hues"]) fun _ _ _ _ _ _ us hl => match us, hl with | [_, _], _ => rfl
theorem sc_paper_by_set : FnScope N_paper_by_set ["web", "hues"] (defScope S_paper_by_set) := ⟨rfl, rfl, rfl, nd_paper_by_set, rfl, by decide +kernel, by decide +kernel⟩
def k_paper_by_set (q_full_set : PSp) : KS := kSeq (ksIf (kCmpT leP (kCall lenP (kCons (kBin ixP (kVarB 0) (kC (.int 1))) (kNil))) (kVarB 1)) (kSeq (kRet (kC .non)) (kNext)) (kNext)) (kSeq (kSet 2 (kCall q_full_set (kCons (kVar 0) (kCons (kVar 1) (kNil))))) (kSeq (kRet (kIf (kCmpT isP (kVarB 2) (kC .non)) (kC .non) (kTup (kCons (kC (.str "set")) (kCons (kVar 2) (kNil)))))) (kNext)))
theorem d_paper_by_set {q_full_set : PSp} (T : Tx K mg) (c_full_set : Callee P w K mg base k "full_set" q_full_set) : SlR ⟨P, w, K, mg, base, N_paper_by_set, defScope S_paper_by_set, fun _ => true, k, tw, fun _ => True⟩ (defBody S_paper_by_set) (k_paper_by_set q_full_set) :=
  l_cons (s_if (t_cmp cd_le (EvR.b (r_callB bd_len (by rfl) T.b_len (by rfl) (ab_cons (EvR.b (r_ix (vb 0) (EvR.b (r_int)))) (ab_nil)))) (vb 1) (by rfl)) (l_cons (s_ret (r_non)) (l_nil)) (l_nil)) (l_cons (s_set 2 nd_paper_by_set (by rfl) (by first | exact Or.inl rfl | exact Or.inr ⟨rfl, rfl⟩) (r_call c_full_set (Nat.le_refl _) (by rfl) (a_cons (v 0) (a_cons (v 1) (a_nil))))) (l_cons (s_ret (r_if (t_cmp cd_is (vb 2) (EvR.b (r_non)) (by rfl)) (r_non) (r_tup (a_cons (gs T.t_SET) (a_cons (v 2) (a_nil)))))) (l_nil)))
abbrev S_paper_by_place : Stmt := topS 72
abbrev N_paper_by_place : List Str := ["web", "most", "place"]
theorem nd_paper_by_place : (N_paper_by_place).Nodup := by decide +kernel
theorem b_paper_by_place {K : PySem.W.Frag} {f : Addr} {fd : FuncData} (F : Fun K "paper_by_place" "paper_by_place" S_paper_by_place f fd) : Binds K fd ["web"] [] := F.binds (ps := ["web"]) fun _ _ _ _ _ _ us hl => match us, hl with | [_], _ => rfl
theorem sc_paper_by_place : FnScope N_paper_by_place ["web"] (defScope S_paper_by_place) := ⟨rfl, rfl, rfl, nd_paper_by_place, rfl, by decide +kernel, by decide +kernel⟩
def k_paper_by_place (q_most_at q_count_at : PSp) : KS := kSeq (kSet 1 (kCall q_most_at (kCons (kVar 0) (kNil)))) (kSeq (ksIf (kCmpT eqP (kVarB 1) (kC (.int 0))) (kSeq (kRet (kC .non)) (kNext)) (kNext)) (kSeq (kRet (kTup (kCons (kC (.str "place")) (kCons (kBin ixP (kF (kLc (kItR1 (kBin ixP (kVarB 0) (kC (.int 0)))) (gkName 2) (kCmpT eqP (kCall q_count_at (kCons (kVar 0) (kCons (kVar 2) (kNil)))) (kVarB 1)) (kVar 2) [2])) (kC (.int 0))) (kNil))))) (kNext)))
theorem d_paper_by_place {q_most_at q_count_at : PSp} (T : Tx K mg) (c_most_at : Callee P w K mg base k "most_at" q_most_at) (c_count_at : Callee P w K mg base k "count_at" q_count_at) : SlR ⟨P, w, K, mg, base, N_paper_by_place, defScope S_paper_by_place, fun _ => true, k, tw, fun _ => True⟩ (defBody S_paper_by_place) (k_paper_by_place q_most_at q_count_at) :=
  l_cons (s_set 1 nd_paper_by_place (by rfl) (by first | exact Or.inl rfl | exact Or.inr ⟨rfl, rfl⟩) (r_call c_most_at (Nat.le_refl _) (by rfl) (a_cons (v 0) (a_nil)))) (l_cons (s_if (t_cmp cd_eq (vb 1) (EvR.b (r_int)) (by rfl)) (l_cons (s_ret (r_non)) (l_nil)) (l_nil)) (l_cons (s_ret (r_tup (a_cons (gs T.t_PLACE) (a_cons (r_ix (EvR.b (EvF.r (r_lc (own := [("place", 2)]) nd_paper_by_place (by rfl) (i_range1 (by rfl) T.b_range (r_ix (vb 0) (EvR.b (r_int)))) (gn 2 nd_paper_by_place) (by decide) (.one (t_cmp cd_eq (EvR.b (r_call c_count_at (Nat.le_refl _) (by rfl) (a_cons (v 0) (a_cons (v 2) (a_nil))))) (vb 1) (by rfl))) (v 2)))) (EvR.b (r_int))) (a_nil))))) (l_nil)))
abbrev S_ties_beside : Stmt := topS 77
abbrev N_ties_beside : List Str := ["web", "found", "tie", "one", "other", "k", "pair"]
theorem nd_ties_beside : (N_ties_beside).Nodup := by decide +kernel
theorem b_ties_beside {K : PySem.W.Frag} {f : Addr} {fd : FuncData} (F : Fun K "ties_beside" "ties_beside" S_ties_beside f fd) : Binds K fd ["web"] [] := F.binds (ps := ["web"]) fun _ _ _ _ _ _ us hl => match us, hl with | [_], _ => rfl
theorem sc_ties_beside : FnScope N_ties_beside ["web"] (defScope S_ties_beside) := ⟨rfl, rfl, rfl, nd_ties_beside, rfl, by decide +kernel, by decide +kernel⟩
def k_ties_beside : KS := kSeq (kOwn 1 (kLst (kNil))) (kSeq (ksFor (kItET (kBin ixP (kVarB 0) (kC (.int 1)))) (gkTup 2 (gkCons (gkName 2) (gkCons (gkTup 2 (gkCons (gkName 3) (gkCons (gkName 4) (gkNil)))) (gkNil)))) (kSeq (kApp 1 (kF (kLc (kItET (kBin ixP (kVarB 0) (kC (.int 1)))) (gkTup 2 (gkCons (gkName 5) (gkCons (gkName 6) (gkNil)))) (tkAnd (kCmpT neP (kVarB 5) (kVarB 2)) (tkOr (kCmpT inP (kVarB 3) (kVarB 6)) (kCmpT inP (kVarB 4) (kVarB 6)))) (kVar 5) [5, 6]))) (kNext))) (kRel 1 (kSeq (kRet (kVar 1)) (kNext))))
theorem d_ties_beside (T : Tx K mg) : SlR ⟨P, w, K, mg, base, N_ties_beside, defScope S_ties_beside, fun _ => true, k, tw, fun _ => True⟩ (defBody S_ties_beside) (k_ties_beside) :=
  l_cons (s_own 1 nd_ties_beside (by rfl) (by first | exact Or.inl rfl | exact Or.inr ⟨rfl, rfl⟩) (r_lst (a_nil))) (l_cons (s_for (i_enumT (by rfl) T.b_enumerate (r_ix (vb 0) (EvR.b (r_int)))) (g_tup (gs_cons (gn 2 nd_ties_beside) (gs_cons (g_tup (gs_cons (gn 3 nd_ties_beside) (gs_cons (gn 4 nd_ties_beside) (gs_nil)))) (gs_nil)))) (l_cons (s_app 1 (rdl 1) (EvF.r (r_lc (own := [("k", 5), ("pair", 6)]) nd_ties_beside (by rfl) (i_enumT (by rfl) T.b_enumerate (r_ix (vb 0) (EvR.b (r_int)))) (g_tup (gs_cons (gn 5 nd_ties_beside) (gs_cons (gn 6 nd_ties_beside) (gs_nil)))) (by decide) (.one (TwR.t (t_and (t_cmp cd_ne (vb 5) (vb 2) (by rfl)) (t_and1 (TwR.t (t_or (t_cmp cd_in (vb 3) (vb 6) (by rfl)) (t_or1 (t_cmp cd_in (vb 4) (vb 6) (by rfl))))))))) (v 5))) ⟨fun _ => rfl, fun _ => rfl, rfl⟩) (l_nil))) (l_rel 1 (l_cons (s_ret (v 1)) (l_nil))))
abbrev S_Lists_left_for : Stmt := clsS 78 1
abbrev N_Lists_left_for : List Str := ["self", "row", "tie", "taken", "other", "hue"]
theorem nd_Lists_left_for : (N_Lists_left_for).Nodup := by decide +kernel
theorem sc_Lists_left_for : FnScope N_Lists_left_for ["self", "row", "tie"] (defScope S_Lists_left_for) := ⟨rfl, rfl, rfl, nd_Lists_left_for, rfl, by decide +kernel, by decide +kernel⟩
def k_Lists_left_for (cLists : Addr) : KS := kSeq (kSet 3 (kF (kLc (kItS (kBin ixP (kFldC cLists "beside" (kVar 0)) (kVarB 2))) (gkName 4) (tkYes) (kBin ixP (kVarB 1) (kVarB 4)) [4]))) (kSeq (kRet (kF (kLc (kItS (kBin ixP (kFldC cLists "own_lists" (kVar 0)) (kVarB 2))) (gkName 5) (kCmpT ninP (kVarB 5) (kVarB 3)) (kVar 5) [5]))) (kNext))
theorem d_Lists_left_for (T : Tx K mg) (TLists : TcLists K cLists) : SlR ⟨P, w, K, mg, base, N_Lists_left_for, defScope S_Lists_left_for, fun _ => true, k, tw, fun _ => True⟩ (defBody S_Lists_left_for) (k_Lists_left_for cLists) :=
  l_cons (s_set 3 nd_Lists_left_for (by rfl) (by first | exact Or.inl rfl | exact Or.inr ⟨rfl, rfl⟩) (EvF.r (r_lc (own := [("other", 4)]) nd_Lists_left_for (by rfl) (i_seq (r_ix (EvR.b (r_fldC TLists.cls TLists.na_beside (v 0))) (vb 2))) (gn 4 nd_Lists_left_for) (by decide) (.nil) (r_ix (vb 1) (vb 4)))) (sw_false (by rfl) (by rfl))) (l_cons (s_ret (EvF.r (r_lc (own := [("hue", 5)]) nd_Lists_left_for (by rfl) (i_seq (r_ix (EvR.b (r_fldC TLists.cls TLists.na_own_lists (v 0))) (vb 2))) (gn 5 nd_Lists_left_for) (by decide) (.one (t_cmp cd_nin (vb 5) (vb 3) (by rfl))) (v 5)))) (l_nil))
abbrev S_Lists_whole_from : Stmt := clsS 78 3
abbrev N_Lists_whole_from : List Str := ["self", "row", "ties", "tie", "trees", "hue", "whole", "tree"]
theorem nd_Lists_whole_from : (N_Lists_whole_from).Nodup := by decide +kernel
theorem sc_Lists_whole_from : FnScope N_Lists_whole_from ["self", "row", "ties"] (defScope S_Lists_whole_from) := ⟨rfl, rfl, rfl, nd_Lists_whole_from, rfl, by decide +kernel, by decide +kernel⟩
def k_Lists_whole_from (cLists : Addr) (q_Lists_next_tie q_Lists_left_for q_Lists_whole_from : PSp) : KS := kSeq (kSet 3 (kMeth cLists "next_tie" q_Lists_next_tie (kVar 0) (kCons (kVar 1) (kCons (kVar 2) (kNil))))) (kSeq (ksIf (kCmpT isP (kVarB 3) (kC .non)) (kSeq (kRet (kTup (kCons (kVar 1) (kCons (kC .non) (kNil))))) (kNext)) (kNext)) (kSeq (kOwn 4 (kLst (kNil))) (kSeq (ksFor (kItS (kMeth cLists "left_for" q_Lists_left_for (kVar 0) (kCons (kVar 1) (kCons (kVar 3) (kNil))))) (gkName 5) (kSeq (kTgt (kMeth cLists "whole_from" q_Lists_whole_from (kVar 0) (kCons (kBin addP (kBin addP (kSl (kVarB 1) (koN) (koS (kVar 3))) (kF (kLst (kCons (kVar 5) (kNil))))) (kSl (kVarB 1) (koS (kBin addP (kVarB 3) (kC (.int 1)))) (koN))) (kCons (kVar 2) (kNil)))) (gkTup 2 (gkCons (gkName 6) (gkCons (gkName 7) (gkNil))))) (kSeq (ksIf (kCmpT nisP (kVarB 6) (kC .non)) (kSeq (kRet (kTup (kCons (kVar 6) (kCons (kC .non) (kNil))))) (kNext)) (kNext)) (kSeq (kApp 4 (kVar 7)) (kNext))))) (kSeq (kRet (kTup (kCons (kC .non) (kCons (kTup (kCons (kVar 3) (kCons (kCall tupleP (kCons (kVarB 4) (kNil))) (kNil)))) (kNil))))) (kNext)))))
theorem d_Lists_whole_from {q_Lists_next_tie q_Lists_left_for q_Lists_whole_from : PSp} (T : Tx K mg) (TLists : TcLists K cLists) (m_Lists_next_tie : CalleeM P w K mg base k cLists "next_tie" q_Lists_next_tie) (m_Lists_left_for : CalleeM P w K mg base k cLists "left_for" q_Lists_left_for) (m_Lists_whole_from : CalleeM P w K mg base k cLists "whole_from" q_Lists_whole_from) : SlR ⟨P, w, K, mg, base, N_Lists_whole_from, defScope S_Lists_whole_from, fun _ => true, k, tw, fun _ => True⟩ (defBody S_Lists_whole_from) (k_Lists_whole_from cLists q_Lists_next_tie q_Lists_left_for q_Lists_whole_from) :=
  l_cons (s_set 3 nd_Lists_whole_from (by rfl) (by first | exact Or.inl rfl | exact Or.inr ⟨rfl, rfl⟩) (r_meth TLists.cls m_Lists_next_tie (Nat.le_refl _) (v 0) (a_cons (v 1) (a_cons (v 2) (a_nil))))) (l_cons (s_if (t_cmp cd_is (vb 3) (EvR.b (r_non)) (by rfl)) (l_cons (s_ret (r_tup (a_cons (v 1) (a_cons (r_non) (a_nil))))) (l_nil)) (l_nil)) (l_cons (s_own 4 nd_Lists_whole_from (by rfl) (by first | exact Or.inl rfl | exact Or.inr ⟨rfl, rfl⟩) (r_lst (a_nil))) (l_cons (s_for (i_seq (r_meth TLists.cls m_Lists_left_for (Nat.le_refl _) (v 0) (a_cons (v 1) (a_cons (v 3) (a_nil))))) (gn 5 nd_Lists_whole_from) (l_cons (s_tgt (r_meth TLists.cls m_Lists_whole_from (Nat.le_refl _) (v 0) (a_cons (r_bin od_add (EvR.b (r_bin od_add (EvR.b (r_slice (vb 1) (o_none) (o_some (v 3)))) (EvR.b (EvF.r (r_lst (a_cons (v 5) (a_nil))))))) (EvR.b (r_slice (vb 1) (o_some (r_bin od_add (vb 3) (EvR.b (r_int)))) (o_none)))) (a_cons (v 2) (a_nil)))) (g_tup (gs_cons (gn 6 nd_Lists_whole_from) (gs_cons (gn 7 nd_Lists_whole_from) (gs_nil))))) (l_cons (s_if (t_cmp cd_nis (vb 6) (EvR.b (r_non)) (by rfl)) (l_cons (s_ret (r_tup (a_cons (v 6) (a_cons (r_non) (a_nil))))) (l_nil)) (l_nil)) (l_cons (s_app 4 (rdl 4) (v 7) ⟨fun _ => rfl, fun _ => rfl, rfl⟩) (l_nil))))) (l_cons (s_ret (r_tup (a_cons (r_non) (a_cons (r_tup (a_cons (v 3) (a_cons (r_callT bd_tuple (by rfl) T.b_tuple (by rfl) (ab_cons (vb 4) (ab_nil))) (a_nil)))) (a_nil))))) (l_nil)))))
abbrev S_lists_for : Stmt := topS 80
abbrev N_lists_for : List Str := ["hueing", "hues", "hue"]
theorem nd_lists_for : (N_lists_for).Nodup := by decide +kernel
theorem b_lists_for {K : PySem.W.Frag} {f : Addr} {fd : FuncData} (F : Fun K "lists_for" "lists_for" S_lists_for f fd) : Binds K fd ["hueing", "hues"] [] := F.binds (ps := ["hueing", "hues"]) fun _ _ _ _ _ _ us hl => match us, hl with | [_, _], _ => rfl
theorem sc_lists_for : FnScope N_lists_for ["hueing", "hues"] (defScope S_lists_for) := ⟨rfl, rfl, rfl, nd_lists_for, rfl, by decide +kernel, by decide +kernel⟩
def k_lists_for : KS := kSeq (kRet (kF (kLc (kItS (kVar 0)) (gkName 2) (tkYes) (kIf (kCmpT isP (kVarB 2) (kC .non)) (kF (kLstR (kVar 1))) (kF (kLst (kCons (kVar 2) (kNil))))) [2]))) (kNext)
theorem d_lists_for (T : Tx K mg) : SlR ⟨P, w, K, mg, base, N_lists_for, defScope S_lists_for, fun _ => true, k, tw, fun _ => True⟩ (defBody S_lists_for) (k_lists_for) :=
  l_cons (s_ret (EvF.r (r_lc (own := [("hue", 2)]) nd_lists_for (by rfl) (i_seq (v 0)) (gn 2 nd_lists_for) (by decide) (.nil) (r_if (t_cmp cd_is (vb 2) (EvR.b (r_non)) (by rfl)) (EvF.r (r_lstR (by rfl) T.b_list (by rfl) T.b_range (v 1))) (EvF.r (r_lst (a_cons (v 2) (a_nil)))))))) (l_nil)
abbrev S_filled : Stmt := topS 81
abbrev N_filled : List Str := ["web", "hueing", "hues"]
theorem nd_filled : (N_filled).Nodup := by decide +kernel
theorem b_filled {K : PySem.W.Frag} {f : Addr} {fd : FuncData} (F : Fun K "filled" "filled" S_filled f fd) : Binds K fd ["web", "hueing", "hues"] [] := F.binds (ps := ["web", "hueing", "hues"]) fun _ _ _ _ _ _ us hl => match us, hl with | [_, _, _], _ => rfl
theorem sc_filled : FnScope N_filled ["web", "hueing", "hues"] (defScope S_filled) := ⟨rfl, rfl, rfl, nd_filled, rfl, by decide +kernel, by decide +kernel⟩
def k_filled (q_from_lists q_lists_for : PSp) : KS := kSeq (kRet (kCall q_from_lists (kCons (kVar 0) (kCons (kCall q_lists_for (kCons (kVar 1) (kCons (kVar 2) (kNil)))) (kNil))))) (kNext)
theorem d_filled {q_from_lists q_lists_for : PSp} (T : Tx K mg) (c_from_lists : Callee P w K mg base k "from_lists" q_from_lists) (c_lists_for : Callee P w K mg base k "lists_for" q_lists_for) : SlR ⟨P, w, K, mg, base, N_filled, defScope S_filled, fun _ => true, k, tw, fun _ => True⟩ (defBody S_filled) (k_filled q_from_lists q_lists_for) :=
  l_cons (s_ret (r_call c_from_lists (Nat.le_refl _) (by rfl) (a_cons (v 0) (a_cons (r_call c_lists_for (Nat.le_refl _) (by rfl) (a_cons (v 1) (a_cons (v 2) (a_nil)))) (a_nil))))) (l_nil)
abbrev S_hues_left : Stmt := topS 83
abbrev N_hues_left : List Str := ["web", "lists", "way", "tie", "taken", "one", "other", "hue", "k"]
theorem nd_hues_left : (N_hues_left).Nodup := by decide +kernel
theorem b_hues_left {K : PySem.W.Frag} {f : Addr} {fd : FuncData} (F : Fun K "hues_left" "hues_left" S_hues_left f fd) : Binds K fd ["web", "lists", "way", "tie"] [] := F.binds (ps := ["web", "lists", "way", "tie"]) fun _ _ _ _ _ _ us hl => match us, hl with | [_, _, _, _], _ => rfl
theorem sc_hues_left : FnScope N_hues_left ["web", "lists", "way", "tie"] (defScope S_hues_left) := ⟨rfl, rfl, rfl, nd_hues_left, rfl, by decide +kernel, by decide +kernel⟩
def k_hues_left : KS := kSeq (kTgt (kBin ixP (kBin ixP (kVarB 0) (kC (.int 1))) (kVarB 3)) (gkTup 2 (gkCons (gkName 5) (gkCons (gkName 6) (gkNil))))) (kSeq (kSet 4 (kF (kLc (kItS (kVar 2)) (gkTup 2 (gkCons (gkName 8) (gkCons (gkName 7) (gkNil)))) (tkOr (kCmpT inP (kVarB 5) (kBin ixP (kBin ixP (kVarB 0) (kC (.int 1))) (kVarB 8))) (kCmpT inP (kVarB 6) (kBin ixP (kBin ixP (kVarB 0) (kC (.int 1))) (kVarB 8)))) (kVar 7) [8, 7]))) (kSeq (kRet (kF (kLc (kItS (kBin ixP (kVarB 1) (kVarB 3))) (gkName 7) (kCmpT ninP (kVarB 7) (kVarB 4)) (kVar 7) [7]))) (kNext)))
theorem d_hues_left (T : Tx K mg) : SlR ⟨P, w, K, mg, base, N_hues_left, defScope S_hues_left, fun _ => true, k, tw, fun _ => True⟩ (defBody S_hues_left) (k_hues_left) :=
  l_cons (s_tgt (r_ix (EvR.b (r_ix (vb 0) (EvR.b (r_int)))) (vb 3)) (g_tup (gs_cons (gn 5 nd_hues_left) (gs_cons (gn 6 nd_hues_left) (gs_nil))))) (l_cons (s_set 4 nd_hues_left (by rfl) (by first | exact Or.inl rfl | exact Or.inr ⟨rfl, rfl⟩) (EvF.r (r_lc (own := [("k", 8), ("hue", 7)]) nd_hues_left (by rfl) (i_seq (v 2)) (g_tup (gs_cons (gn 8 nd_hues_left) (gs_cons (gn 7 nd_hues_left) (gs_nil)))) (by decide) (.one (TwR.t (t_or (t_cmp cd_in (vb 5) (EvR.b (r_ix (EvR.b (r_ix (vb 0) (EvR.b (r_int)))) (vb 8))) (by rfl)) (t_or1 (t_cmp cd_in (vb 6) (EvR.b (r_ix (EvR.b (r_ix (vb 0) (EvR.b (r_int)))) (vb 8))) (by rfl)))))) (v 7))) (sw_false (by rfl) (by rfl))) (l_cons (s_ret (EvF.r (r_lc (own := [("hue", 7)]) nd_hues_left (by rfl) (i_seq (r_ix (vb 1) (vb 3))) (gn 7 nd_hues_left) (by decide) (.one (t_cmp cd_nin (vb 7) (vb 4) (by rfl))) (v 7)))) (l_nil)))
abbrev S_is_bare : Stmt := topS 84
abbrev N_is_bare : List Str := ["web", "way", "tie", "k", "hue"]
theorem nd_is_bare : (N_is_bare).Nodup := by decide +kernel
theorem b_is_bare {K : PySem.W.Frag} {f : Addr} {fd : FuncData} (F : Fun K "is_bare" "is_bare" S_is_bare f fd) : Binds K fd ["web", "way", "tie"] [] := F.binds (ps := ["web", "way", "tie"]) fun _ _ _ _ _ _ us hl => match us, hl with | [_, _, _], _ => rfl
theorem sc_is_bare : FnScope N_is_bare ["web", "way", "tie"] (defScope S_is_bare) := ⟨rfl, rfl, rfl, nd_is_bare, rfl, by decide +kernel, by decide +kernel⟩
def k_is_bare (q_is_number : PSp) : KS := kSeq (kRet (kAnd (kCall q_is_number (kCons (kVar 2) (kNil))) (kAnd (kBo (kChain leP ltP (kC (.int 0)) (kVarB 2) (kCall lenP (kCons (kBin ixP (kVarB 0) (kC (.int 1))) (kNil))))) (kCmp ninP (kVarB 2) (kF (kLc (kItS (kVar 1)) (gkTup 2 (gkCons (gkName 3) (gkCons (gkName 4) (gkNil)))) (tkYes) (kVar 3) [3, 4])))))) (kNext)
theorem d_is_bare {q_is_number : PSp} (T : Tx K mg) (c_is_number : Callee P w K mg base k "is_number" q_is_number) : SlR ⟨P, w, K, mg, base, N_is_bare, defScope S_is_bare, fun _ => true, k, tw, fun _ => True⟩ (defBody S_is_bare) (k_is_bare q_is_number) :=
  l_cons (s_ret (r_and (r_call c_is_number (Nat.le_refl _) (by rfl) (a_cons (v 2) (a_nil))) (r_and (r_chain cd_le cd_lt (EvR.b (r_int)) (vb 2) (EvR.b (r_callB bd_len (by rfl) T.b_len (by rfl) (ab_cons (EvR.b (r_ix (vb 0) (EvR.b (r_int)))) (ab_nil))))) (r_one (r_cmp cd_nin (vb 2) (EvR.b (EvF.r (r_lc (own := [("k", 3), ("hue", 4)]) nd_is_bare (by rfl) (i_seq (v 1)) (g_tup (gs_cons (gn 3 nd_is_bare) (gs_cons (gn 4 nd_is_bare) (gs_nil)))) (by decide) (.nil) (v 3)))) (by rfl)))))) (l_nil)
abbrev S_ends_all : Stmt := topS 85
abbrev N_ends_all : List Str := ["web", "lists", "way", "node", "left", "hue", "tree"]
theorem nd_ends_all : (N_ends_all).Nodup := by decide +kernel
theorem b_ends_all {K : PySem.W.Frag} {f : Addr} {fd : FuncData} (F : Fun K "ends_all" "ends_all" S_ends_all f fd) : Binds K fd ["web", "lists", "way", "node"] [] := F.binds (ps := ["web", "lists", "way", "node"]) fun _ _ _ _ _ _ us hl => match us, hl with | [_, _, _, _], _ => rfl
theorem sc_ends_all : FnScope N_ends_all ["web", "lists", "way", "node"] (defScope S_ends_all) := ⟨rfl, rfl, rfl, nd_ends_all, rfl, by decide +kernel, by decide +kernel⟩
def k_ends_all (q_is_bare q_hues_left q_ends_all : PSp) : KS := kSeq (ksIf (tkOr (tkNot (tkV (kIsi (isiD "tuple") (kVarB 3)))) (tkOr (kCmpT neP (kCall lenP (kCons (kVarB 3) (kNil))) (kC (.int 2))) (tkNot (tkV (kCall q_is_bare (kCons (kVar 0) (kCons (kVar 2) (kCons (kBin ixP (kVarB 3) (kC (.int 0))) (kNil))))))))) (kSeq (kRet (kC (.bl false))) (kNext)) (kNext)) (kSeq (kSet 4 (kCall q_hues_left (kCons (kVar 0) (kCons (kVar 1) (kCons (kVar 2) (kCons (kBin ixP (kVarB 3) (kC (.int 0))) (kNil))))))) (kSeq (ksIf (tkOr (tkNot (tkV (kIsi (isiD "tuple") (kBin ixP (kVarB 3) (kC (.int 1)))))) (kCmpT neP (kCall lenP (kCons (kBin ixP (kVarB 3) (kC (.int 1))) (kNil))) (kCall lenP (kCons (kVarB 4) (kNil))))) (kSeq (kRet (kC (.bl false))) (kNext)) (kNext)) (kSeq (kRet (kCall allP (kCons (kF (kLc (kItZM (kVar 4) (kBin ixP (kVarB 3) (kC (.int 1)))) (gkTup 2 (gkCons (gkName 5) (gkCons (gkName 6) (gkNil)))) (tkYes) (kCall q_ends_all (kCons (kVar 0) (kCons (kVar 1) (kCons (kBin addP (kVarB 2) (kF (kLst (kCons (kTup (kCons (kBin ixP (kVarB 3) (kC (.int 0))) (kCons (kVar 5) (kNil)))) (kNil))))) (kCons (kVar 6) (kNil)))))) [5, 6])) (kNil)))) (kNext))))
theorem d_ends_all {q_is_bare q_hues_left q_ends_all : PSp} (T : Tx K mg) (c_is_bare : Callee P w K mg base k "is_bare" q_is_bare) (c_hues_left : Callee P w K mg base k "hues_left" q_hues_left) (c_ends_all : Callee P w K mg base k "ends_all" q_ends_all) : SlR ⟨P, w, K, mg, base, N_ends_all, defScope S_ends_all, fun _ => true, k, tw, fun _ => True⟩ (defBody S_ends_all) (k_ends_all q_is_bare q_hues_left q_ends_all) :=
  l_cons (s_if (TwR.t (t_or (t_not (t_val (r_isi (by rfl) T.b_isinstance (by rfl) T.b_tuple (by rfl) (vb 3)))) (t_or (t_cmp cd_ne (EvR.b (r_callB bd_len (by rfl) T.b_len (by rfl) (ab_cons (vb 3) (ab_nil)))) (EvR.b (r_int)) (by rfl)) (t_or1 (t_not (t_val (r_call c_is_bare (Nat.le_refl _) (by rfl) (a_cons (v 0) (a_cons (v 2) (a_cons (r_ix (vb 3) (EvR.b (r_int))) (a_nil))))))))))) (l_cons (s_ret (r_bl)) (l_nil)) (l_nil)) (l_cons (s_set 4 nd_ends_all (by rfl) (by first | exact Or.inl rfl | exact Or.inr ⟨rfl, rfl⟩) (r_call c_hues_left (Nat.le_refl _) (by rfl) (a_cons (v 0) (a_cons (v 1) (a_cons (v 2) (a_cons (r_ix (vb 3) (EvR.b (r_int))) (a_nil))))))) (l_cons (s_if (TwR.t (t_or (t_not (t_val (r_isi (by rfl) T.b_isinstance (by rfl) T.b_tuple (by rfl) (EvR.b (r_ix (vb 3) (EvR.b (r_int))))))) (t_or1 (t_cmp cd_ne (EvR.b (r_callB bd_len (by rfl) T.b_len (by rfl) (ab_cons (EvR.b (r_ix (vb 3) (EvR.b (r_int)))) (ab_nil)))) (EvR.b (r_callB bd_len (by rfl) T.b_len (by rfl) (ab_cons (vb 4) (ab_nil)))) (by rfl))))) (l_cons (s_ret (r_bl)) (l_nil)) (l_nil)) (l_cons (s_ret (r_callB bd_all (by rfl) T.b_all (by rfl) (ab_cons (EvR.b (EvF.r (r_lc (own := [("hue", 5), ("tree", 6)]) nd_ends_all (by rfl) (i_zipM (by rfl) T.b_zip (v 4) (r_ix (vb 3) (EvR.b (r_int)))) (g_tup (gs_cons (gn 5 nd_ends_all) (gs_cons (gn 6 nd_ends_all) (gs_nil)))) (by decide) (.nil) (r_call c_ends_all (Nat.le_refl _) (by rfl) (a_cons (v 0) (a_cons (v 1) (a_cons (r_bin od_add (vb 2) (EvR.b (EvF.r (r_lst (a_cons (r_tup (a_cons (r_ix (vb 3) (EvR.b (r_int))) (a_cons (v 5) (a_nil)))) (a_nil)))))) (a_cons (v 6) (a_nil))))))))) (ab_nil)))) (l_nil))))
abbrev S_shows_lists : Stmt := topS 86
abbrev N_shows_lists : List Str := ["web", "lists", "thing", "hue", "some"]
theorem nd_shows_lists : (N_shows_lists).Nodup := by decide +kernel
theorem b_shows_lists {K : PySem.W.Frag} {f : Addr} {fd : FuncData} (F : Fun K "shows_lists" "shows_lists" S_shows_lists f fd) : Binds K fd ["web", "lists", "thing"] [] := F.binds (ps := ["web", "lists", "thing"]) fun _ _ _ _ _ _ us hl => match us, hl with | [_, _, _], _ => rfl
theorem sc_shows_lists : FnScope N_shows_lists ["web", "lists", "thing"] (defScope S_shows_lists) := ⟨rfl, rfl, rfl, nd_shows_lists, rfl, by decide +kernel, by decide +kernel⟩
def k_shows_lists (q_is_whole q_ends_all : PSp) : KS := kSeq (ksIf (tkOr (tkNot (tkV (kIsi (isiD "tuple") (kVarB 2)))) (kCmpT neP (kCall lenP (kCons (kVarB 2) (kNil))) (kC (.int 2)))) (kSeq (kRet (kC (.bl false))) (kNext)) (kNext)) (kSeq (ksIf (kCmpT eqP (kBin ixP (kVarB 2) (kC (.int 0))) (kC (.str "hueing"))) (kSeq (kRet (kAnd (kCall q_is_whole (kCons (kVar 0) (kCons (kBin ixP (kVarB 2) (kC (.int 1))) (kNil)))) (kCall allP (kCons (kF (kLc (kItZ (kBin ixP (kVarB 2) (kC (.int 1))) (kVar 1)) (gkTup 2 (gkCons (gkName 3) (gkCons (gkName 4) (gkNil)))) (tkYes) (kCmp inP (kVarB 3) (kVarB 4)) [3, 4])) (kNil))))) (kNext)) (kNext)) (kSeq (kRet (kAnd (kCmp eqP (kBin ixP (kVarB 2) (kC (.int 0))) (kC (.str "none"))) (kCall q_ends_all (kCons (kVar 0) (kCons (kVar 1) (kCons (kF (kLst (kNil))) (kCons (kBin ixP (kVarB 2) (kC (.int 1))) (kNil)))))))) (kNext)))
theorem d_shows_lists {q_is_whole q_ends_all : PSp} (T : Tx K mg) (c_is_whole : Callee P w K mg base k "is_whole" q_is_whole) (c_ends_all : Callee P w K mg base k "ends_all" q_ends_all) : SlR ⟨P, w, K, mg, base, N_shows_lists, defScope S_shows_lists, fun _ => true, k, tw, fun _ => True⟩ (defBody S_shows_lists) (k_shows_lists q_is_whole q_ends_all) :=
  l_cons (s_if (TwR.t (t_or (t_not (t_val (r_isi (by rfl) T.b_isinstance (by rfl) T.b_tuple (by rfl) (vb 2)))) (t_or1 (t_cmp cd_ne (EvR.b (r_callB bd_len (by rfl) T.b_len (by rfl) (ab_cons (vb 2) (ab_nil)))) (EvR.b (r_int)) (by rfl))))) (l_cons (s_ret (r_bl)) (l_nil)) (l_nil)) (l_cons (s_if (t_cmp cd_eq (EvR.b (r_ix (vb 2) (EvR.b (r_int)))) (EvR.b (gs T.t_HUEING)) (by rfl)) (l_cons (s_ret (r_and (r_call c_is_whole (Nat.le_refl _) (by rfl) (a_cons (v 0) (a_cons (r_ix (vb 2) (EvR.b (r_int))) (a_nil)))) (r_one (r_callB bd_all (by rfl) T.b_all (by rfl) (ab_cons (EvR.b (EvF.r (r_lc (own := [("hue", 3), ("some", 4)]) nd_shows_lists (by rfl) (i_zip (by rfl) T.b_zip (r_ix (vb 2) (EvR.b (r_int))) (v 1)) (g_tup (gs_cons (gn 3 nd_shows_lists) (gs_cons (gn 4 nd_shows_lists) (gs_nil)))) (by decide) (.nil) (r_cmp cd_in (vb 3) (vb 4) (by rfl))))) (ab_nil)))))) (l_nil)) (l_nil)) (l_cons (s_ret (r_and (r_cmp cd_eq (EvR.b (r_ix (vb 2) (EvR.b (r_int)))) (EvR.b (gs T.t_NONE)) (by rfl)) (r_one (r_call c_ends_all (Nat.le_refl _) (by rfl) (a_cons (v 0) (a_cons (v 1) (a_cons (EvF.r (r_lst (a_nil))) (a_cons (r_ix (vb 2) (EvR.b (r_int))) (a_nil))))))))) (l_nil)))
abbrev S_shows_filled : Stmt := topS 87
abbrev N_shows_filled : List Str := ["web", "hueing", "hues", "thing"]
theorem nd_shows_filled : (N_shows_filled).Nodup := by decide +kernel
theorem b_shows_filled {K : PySem.W.Frag} {f : Addr} {fd : FuncData} (F : Fun K "shows_filled" "shows_filled" S_shows_filled f fd) : Binds K fd ["web", "hueing", "hues", "thing"] [] := F.binds (ps := ["web", "hueing", "hues", "thing"]) fun _ _ _ _ _ _ us hl => match us, hl with | [_, _, _, _], _ => rfl
theorem sc_shows_filled : FnScope N_shows_filled ["web", "hueing", "hues", "thing"] (defScope S_shows_filled) := ⟨rfl, rfl, rfl, nd_shows_filled, rfl, by decide +kernel, by decide +kernel⟩
def k_shows_filled (q_shows_lists q_lists_for : PSp) : KS := kSeq (kRet (kCall q_shows_lists (kCons (kVar 0) (kCons (kCall q_lists_for (kCons (kVar 1) (kCons (kVar 2) (kNil)))) (kCons (kVar 3) (kNil)))))) (kNext)
theorem d_shows_filled {q_shows_lists q_lists_for : PSp} (T : Tx K mg) (c_shows_lists : Callee P w K mg base k "shows_lists" q_shows_lists) (c_lists_for : Callee P w K mg base k "lists_for" q_lists_for) : SlR ⟨P, w, K, mg, base, N_shows_filled, defScope S_shows_filled, fun _ => true, k, tw, fun _ => True⟩ (defBody S_shows_filled) (k_shows_filled q_shows_lists q_lists_for) :=
  l_cons (s_ret (r_call c_shows_lists (Nat.le_refl _) (by rfl) (a_cons (v 0) (a_cons (r_call c_lists_for (Nat.le_refl _) (by rfl) (a_cons (v 1) (a_cons (v 2) (a_nil)))) (a_cons (v 3) (a_nil)))))) (l_nil)
end
end U
set_option Elab.async false
set_option linter.all false
set_option maxRecDepth 100000
set_option maxHeartbeats 4000000
namespace U
open PySem PySem.Spec PyProof.Rows L2
section
variable {P : Program} {w : World} {K : PySem.W.Frag} {mg : Str → Option Value} {base : Heap} {k : Nat} {tw : AD} {cSearch cLists : Addr}

abbrev S__law_tape : Stmt := topS 89
abbrev N__law_tape : List Str := ["_law_script", "_law_k", "_law_cell", "_law_digits"]
theorem nd__law_tape : (N__law_tape).Nodup := by decide +kernel
theorem b__law_tape {K : PySem.W.Frag} {f : Addr} {fd : FuncData} (F : Fun K "_law_tape" "_law_tape" S__law_tape f fd) : Binds K fd ["_law_script", "_law_k"] [] := F.binds (ps := ["_law_script", "_law_k"]) fun _ _ _ _ _ _ us hl => match us, hl with | [_, _], _ => rfl
theorem sc__law_tape : FnScope N__law_tape ["_law_script", "_law_k"] (defScope S__law_tape) := ⟨rfl, rfl, rfl, nd__law_tape, rfl, by decide +kernel, by decide +kernel⟩
def k__law_tape : KS := kSeq (kSet 2 (kC (.int 0))) (kSeq (ksIf (kCmpT ltP (kVarB 1) (kCall lenP (kCons (kVarB 0) (kNil)))) (kSeq (kSet 2 (kBin ixP (kVarB 0) (kVarB 1))) (kNext)) (kNext)) (kSeq (kSet 3 (kBin mulP (kCall absP (kCons (kVarB 2) (kNil))) (kCall intBP (kCons (kCmp geP (kCall absP (kCons (kVarB 2) (kNil))) (kBin powP (kC (.int 10)) (kC (.int 18)))) (kNil))))) (kSeq (kRet (kF (kLst (kCons (kVar 3) (kCons (kBin modP (kBin mulP (kBin modP (kBin addP (kBin addP (kVarB 2) (kBin mulP (kC (.int 7919)) (kVarB 1))) (kC (.int 1))) (kC (.int 2147483647))) (kC (.int 48271))) (kC (.int 2147483647))) (kNil)))))) (kNext))))
theorem d__law_tape (T : Tx K mg) : SlR ⟨P, w, K, mg, base, N__law_tape, defScope S__law_tape, fun _ => true, k, tw, fun _ => True⟩ (defBody S__law_tape) (k__law_tape) :=
  l_cons (s_set 2 nd__law_tape (by rfl) (by first | exact Or.inl rfl | exact Or.inr ⟨rfl, rfl⟩) (r_int)) (l_cons (s_if (t_cmp cd_lt (vb 1) (EvR.b (r_callB bd_len (by rfl) T.b_len (by rfl) (ab_cons (vb 0) (ab_nil)))) (by rfl)) (l_cons (s_set 2 nd__law_tape (by rfl) (by first | exact Or.inl rfl | exact Or.inr ⟨rfl, rfl⟩) (r_ix (vb 0) (vb 1))) (l_nil)) (l_nil)) (l_cons (s_set 3 nd__law_tape (by rfl) (by first | exact Or.inl rfl | exact Or.inr ⟨rfl, rfl⟩) (r_bin od_mul (EvR.b (r_callB bd_abs (by rfl) T.b_abs (by rfl) (ab_cons (vb 2) (ab_nil)))) (EvR.b (r_callT bd_intB (by rfl) T.b_int (by rfl) (ab_cons (EvR.b (r_cmp cd_ge (EvR.b (r_callB bd_abs (by rfl) T.b_abs (by rfl) (ab_cons (vb 2) (ab_nil)))) (EvR.b (r_bin od_pow (EvR.b (r_int)) (EvR.b (r_int)))) (by rfl))) (ab_nil)))))) (l_cons (s_ret (EvF.r (r_lst (a_cons (v 3) (a_cons (r_bin od_mod (EvR.b (r_bin od_mul (EvR.b (r_bin od_mod (EvR.b (r_bin od_add (EvR.b (r_bin od_add (vb 2) (EvR.b (r_bin od_mul (EvR.b (r_int)) (vb 1))))) (EvR.b (r_int)))) (EvR.b (r_int)))) (EvR.b (r_int)))) (EvR.b (r_int))) (a_nil)))))) (l_nil))))
abbrev S__law_draw : Stmt := topS 90
abbrev N__law_draw : List Str := ["_law_tape_here", "_law_many", "_law_once", "_law_found"]
theorem nd__law_draw : (N__law_draw).Nodup := by decide +kernel
theorem b__law_draw {K : PySem.W.Frag} {f : Addr} {fd : FuncData} (F : Fun K "_law_draw" "_law_draw" S__law_draw f fd) : Binds K fd ["_law_tape_here", "_law_many"] [] := F.binds (ps := ["_law_tape_here", "_law_many"]) fun _ _ _ _ _ _ us hl => match us, hl with | [_, _], _ => rfl
theorem sc__law_draw : FnScope N__law_draw ["_law_tape_here", "_law_many"] (defScope S__law_draw) := ⟨rfl, rfl, rfl, nd__law_draw, rfl, by decide +kernel, by decide +kernel⟩
def k__law_draw : KS := kSeq (ksIf (kCmpT gtP (kBin ixP (kVarB 0) (kC (.int 0))) (kC (.int 0))) (kSeq (kSet 3 (kBin modP (kBin ixP (kVarB 0) (kC (.int 0))) (kVarB 1))) (kSeq (kTapeSet 0 (kBin fdivP (kBin ixP (kVarB 0) (kC (.int 0))) (kVarB 1)) (kC (.int 0))) (kSeq (kRet (kVar 3)) (kNext)))) (kNext)) (kSeq (kTapeSet 0 (kBin modP (kBin addP (kBin mulP (kBin ixP (kVarB 0) (kC (.int 1))) (kC (.int 48271))) (kC (.int 12345))) (kC (.int 2147483647))) (kC (.int 1))) (kSeq (kSet 2 (kBin modP (kBin mulP (kBin ixP (kVarB 0) (kC (.int 1))) (kBin addP (kBin modP (kBin ixP (kVarB 0) (kC (.int 1))) (kC (.int 1009))) (kC (.int 3)))) (kC (.int 2147483629)))) (kSeq (kRet (kBin modP (kBin modP (kBin mulP (kVarB 2) (kBin addP (kBin modP (kVarB 2) (kC (.int 997))) (kC (.int 5)))) (kC (.int 998244353))) (kVarB 1))) (kNext))))
theorem d__law_draw (T : Tx K mg) : SlR ⟨P, w, K, mg, base, N__law_draw, defScope S__law_draw, fun _ => true, k, tw, fun _ => True⟩ (defBody S__law_draw) (k__law_draw) :=
  l_cons (s_if (t_cmp cd_gt (EvR.b (r_ix (vb 0) (EvR.b (r_int)))) (EvR.b (r_int)) (by rfl)) (l_cons (s_set 3 nd__law_draw (by rfl) (by first | exact Or.inl rfl | exact Or.inr ⟨rfl, rfl⟩) (r_bin od_mod (EvR.b (r_ix (vb 0) (EvR.b (r_int)))) (vb 1))) (l_cons (s_tapeSet 0 (rdl 0) (r_int) (r_bin od_fdiv (EvR.b (r_ix (vb 0) (EvR.b (r_int)))) (vb 1))) (l_cons (s_ret (v 3)) (l_nil)))) (l_nil)) (l_cons (s_tapeSet 0 (rdl 0) (r_int) (r_bin od_mod (EvR.b (r_bin od_add (EvR.b (r_bin od_mul (EvR.b (r_ix (vb 0) (EvR.b (r_int)))) (EvR.b (r_int)))) (EvR.b (r_int)))) (EvR.b (r_int)))) (l_cons (s_set 2 nd__law_draw (by rfl) (by first | exact Or.inl rfl | exact Or.inr ⟨rfl, rfl⟩) (r_bin od_mod (EvR.b (r_bin od_mul (EvR.b (r_ix (vb 0) (EvR.b (r_int)))) (EvR.b (r_bin od_add (EvR.b (r_bin od_mod (EvR.b (r_ix (vb 0) (EvR.b (r_int)))) (EvR.b (r_int)))) (EvR.b (r_int)))))) (EvR.b (r_int)))) (l_cons (s_ret (r_bin od_mod (EvR.b (r_bin od_mod (EvR.b (r_bin od_mul (vb 2) (EvR.b (r_bin od_add (EvR.b (r_bin od_mod (vb 2) (EvR.b (r_int)))) (EvR.b (r_int)))))) (EvR.b (r_int)))) (vb 1))) (l_nil))))
abbrev S__law_pairs_by : Stmt := topS 91
abbrev N__law_pairs_by : List Str := ["_law_tape_here", "_law_great", "_law_way", "_law_many", "_law_found", "_law_turn", "_law_k", "_law_sides", "_law_one", "_law_j"]
theorem nd__law_pairs_by : (N__law_pairs_by).Nodup := by decide +kernel
theorem b__law_pairs_by {K : PySem.W.Frag} {f : Addr} {fd : FuncData} (F : Fun K "_law_pairs_by" "_law_pairs_by" S__law_pairs_by f fd) : Binds K fd ["_law_tape_here", "_law_great"] [] := F.binds (ps := ["_law_tape_here", "_law_great"]) fun _ _ _ _ _ _ us hl => match us, hl with | [_, _], _ => rfl
theorem sc__law_pairs_by : FnScope N__law_pairs_by ["_law_tape_here", "_law_great"] (defScope S__law_pairs_by) := ⟨rfl, rfl, rfl, nd__law_pairs_by, rfl, by decide +kernel, by decide +kernel⟩
def k__law_pairs_by (q__law_draw : PSp) : KS := kSeq (kSet 2 (kCall q__law_draw (kCons (kVar 0) (kCons (kC (.int 8)) (kNil))))) (kSeq (kSet 3 (kBin ixP (kF (kLst (kCons (kCall q__law_draw (kCons (kVar 0) (kCons (kC (.int 7)) (kNil)))) (kCons (kBin addP (kC (.int 7)) (kCall q__law_draw (kCons (kVar 0) (kCons (kC (.int 6)) (kNil))))) (kNil))))) (kCall intBP (kCons (kVarB 1) (kNil))))) (kSeq (kOwn 4 (kLst (kNil))) (kSeq (ksIf (tkAnd (kCmpT ltP (kVarB 2) (kC (.int 3))) (kCmpT gtP (kVarB 3) (kC (.int 1)))) (kSeq (ksFor (kItR1 (kCall q__law_draw (kCons (kVar 0) (kCons (kBin addP (kBin mulP (kC (.int 2)) (kVarB 3)) (kC (.int 1))) (kNil))))) (gkName 5) (kSeq (kSet 8 (kCall q__law_draw (kCons (kVar 0) (kCons (kVar 3) (kNil))))) (kSeq (kApp 4 (kTup (kCons (kVar 8) (kCons (kBin modP (kBin addP (kBin addP (kVarB 8) (kC (.int 1))) (kCall q__law_draw (kCons (kVar 0) (kCons (kBin subP (kVarB 3) (kC (.int 1))) (kNil))))) (kVarB 3)) (kNil))))) (kNext)))) (kNext)) (kNext)) (kSeq (ksIf (tkAnd (kCmpT eqP (kVarB 2) (kC (.int 3))) (kCmpT gtP (kVarB 3) (kC (.int 2)))) (kSeq (kOwn 4 (kBinF catP (kF (kLc (kItR1 (kVar 3)) (gkName 6) (tkYes) (kTup (kCons (kVar 6) (kCons (kBin modP (kBin addP (kVarB 6) (kC (.int 1))) (kVarB 3)) (kNil)))) [6])) (kF (kLst (kCons (kTup (kCons (kC (.int 0)) (kCons (kBin addP (kCall q__law_draw (kCons (kVar 0) (kCons (kBin subP (kVarB 3) (kC (.int 1))) (kNil)))) (kC (.int 1))) (kNil)))) (kNil)))))) (kNext)) (kNext)) (kSeq (ksIf (tkAnd (kCmpT eqP (kVarB 2) (kC (.int 4))) (kCmpT gtP (kVarB 3) (kC (.int 1)))) (kSeq (kOwn 4 (kLc (kItR2 (kC (.int 1)) (kVar 3)) (gkName 6) (tkYes) (kTup (kCons (kC (.int 0)) (kCons (kVar 6) (kNil)))) [6])) (kNext)) (kNext)) (kSeq (ksIf (kCmpT eqP (kVarB 2) (kC (.int 5))) (kSeq (kSet 3 (kCall min2P (kCons (kVarB 3) (kCons (kBin addP (kC (.int 5)) (kCall intBP (kCons (kVarB 1) (kNil)))) (kNil))))) (kSeq (ksFor (kItR1 (kVar 3)) (gkName 6) (kSeq (kExt 4 (kF (kLc (kItR1 (kVar 6)) (gkName 9) (tkYes) (kTup (kCons (kVar 9) (kCons (kVar 6) (kNil)))) [9]))) (kNext))) (kNext))) (kNext)) (kSeq (ksIf (kCmpT eqP (kVarB 2) (kC (.int 6))) (kSeq (kSet 7 (kBin addP (kC (.int 1)) (kBin fdivP (kVarB 3) (kC (.int 2))))) (kSeq (ksFor (kItR1 (kVar 7)) (gkName 6) (kSeq (kExt 4 (kF (kLc (kItR2 (kVar 7) (kVar 3)) (gkName 9) (kCmpT gtP (kCall q__law_draw (kCons (kVar 0) (kCons (kC (.int 3)) (kNil)))) (kC (.int 0))) (kTup (kCons (kVar 6) (kCons (kVar 9) (kNil)))) [9]))) (kNext))) (kNext))) (kNext)) (kSeq (ksIf (kCmpT eqP (kVarB 2) (kC (.int 7))) (kSeq (kSet 3 (kBin addP (kC (.int 3)) (kBin fdivP (kVarB 3) (kC (.int 3))))) (kSeq (ksFor (kItR1 (kC (.int 3))) (gkName 6) (kSeq (kExt 4 (kBin mulP (kF (kLst (kCons (kTup (kCons (kVar 6) (kCons (kBin modP (kBin addP (kVarB 6) (kC (.int 1))) (kC (.int 3))) (kNil)))) (kNil)))) (kBin addP (kC (.int 1)) (kCall q__law_draw (kCons (kVar 0) (kCons (kC (.int 3)) (kNil))))))) (kNext))) (kNext))) (kNext)) (kRel 4 (kSeq (kRet (kTup (kCons (kVar 3) (kCons (kVar 4) (kNil))))) (kNext)))))))))))
theorem d__law_pairs_by {q__law_draw : PSp} (T : Tx K mg) (c__law_draw : Callee P w K mg base k "_law_draw" q__law_draw) : SlR ⟨P, w, K, mg, base, N__law_pairs_by, defScope S__law_pairs_by, fun _ => true, k, tw, fun _ => True⟩ (defBody S__law_pairs_by) (k__law_pairs_by q__law_draw) :=
  l_cons (s_set 2 nd__law_pairs_by (by rfl) (by first | exact Or.inl rfl | exact Or.inr ⟨rfl, rfl⟩) (r_call c__law_draw (Nat.le_refl _) (by rfl) (a_cons (v 0) (a_cons (r_int) (a_nil))))) (l_cons (s_set 3 nd__law_pairs_by (by rfl) (by first | exact Or.inl rfl | exact Or.inr ⟨rfl, rfl⟩) (r_ix (EvR.b (EvF.r (r_lst (a_cons (r_call c__law_draw (Nat.le_refl _) (by rfl) (a_cons (v 0) (a_cons (r_int) (a_nil)))) (a_cons (r_bin od_add (EvR.b (r_int)) (EvR.b (r_call c__law_draw (Nat.le_refl _) (by rfl) (a_cons (v 0) (a_cons (r_int) (a_nil)))))) (a_nil)))))) (EvR.b (r_callT bd_intB (by rfl) T.b_int (by rfl) (ab_cons (vb 1) (ab_nil)))))) (l_cons (s_own 4 nd__law_pairs_by (by rfl) (by first | exact Or.inl rfl | exact Or.inr ⟨rfl, rfl⟩) (r_lst (a_nil))) (l_cons (s_if (TwR.t (t_and (t_cmp cd_lt (vb 2) (EvR.b (r_int)) (by rfl)) (t_and1 (t_cmp cd_gt (vb 3) (EvR.b (r_int)) (by rfl))))) (l_cons (s_for (i_range1 (by rfl) T.b_range (r_call c__law_draw (Nat.le_refl _) (by rfl) (a_cons (v 0) (a_cons (r_bin od_add (EvR.b (r_bin od_mul (EvR.b (r_int)) (vb 3))) (EvR.b (r_int))) (a_nil))))) (gn 5 nd__law_pairs_by) (l_cons (s_set 8 nd__law_pairs_by (by rfl) (by first | exact Or.inl rfl | exact Or.inr ⟨rfl, rfl⟩) (r_call c__law_draw (Nat.le_refl _) (by rfl) (a_cons (v 0) (a_cons (v 3) (a_nil))))) (l_cons (s_app 4 (rdl 4) (r_tup (a_cons (v 8) (a_cons (r_bin od_mod (EvR.b (r_bin od_add (EvR.b (r_bin od_add (vb 8) (EvR.b (r_int)))) (EvR.b (r_call c__law_draw (Nat.le_refl _) (by rfl) (a_cons (v 0) (a_cons (r_bin od_sub (vb 3) (EvR.b (r_int))) (a_nil))))))) (vb 3)) (a_nil)))) ⟨fun _ => rfl, fun _ => rfl, rfl⟩) (l_nil)))) (l_nil)) (l_nil)) (l_cons (s_if (TwR.t (t_and (t_cmp cd_eq (vb 2) (EvR.b (r_int)) (by rfl)) (t_and1 (t_cmp cd_gt (vb 3) (EvR.b (r_int)) (by rfl))))) (l_cons (s_own 4 nd__law_pairs_by (by rfl) (by first | exact Or.inl rfl | exact Or.inr ⟨rfl, rfl⟩) (r_binF of_cat (EvR.b (EvF.r (r_lc (own := [("_law_k", 6)]) nd__law_pairs_by (by rfl) (i_range1 (by rfl) T.b_range (v 3)) (gn 6 nd__law_pairs_by) (by decide) (.nil) (r_tup (a_cons (v 6) (a_cons (r_bin od_mod (EvR.b (r_bin od_add (vb 6) (EvR.b (r_int)))) (vb 3)) (a_nil))))))) (EvR.b (EvF.r (r_lst (a_cons (r_tup (a_cons (r_int) (a_cons (r_bin od_add (EvR.b (r_call c__law_draw (Nat.le_refl _) (by rfl) (a_cons (v 0) (a_cons (r_bin od_sub (vb 3) (EvR.b (r_int))) (a_nil))))) (EvR.b (r_int))) (a_nil)))) (a_nil))))))) (l_nil)) (l_nil)) (l_cons (s_if (TwR.t (t_and (t_cmp cd_eq (vb 2) (EvR.b (r_int)) (by rfl)) (t_and1 (t_cmp cd_gt (vb 3) (EvR.b (r_int)) (by rfl))))) (l_cons (s_setLcO (own := [("_law_k", 6)]) 4 nd__law_pairs_by (by rfl) (by rfl) (by rfl) (by rfl) (i_range2 (by rfl) T.b_range (r_int) (v 3)) (gn 6 nd__law_pairs_by) (by decide) (.nil) (r_tup (a_cons (r_int) (a_cons (v 6) (a_nil)))) (by rfl) (by rfl)) (l_nil)) (l_nil)) (l_cons (s_if (t_cmp cd_eq (vb 2) (EvR.b (r_int)) (by rfl)) (l_cons (s_set 3 nd__law_pairs_by (by rfl) (by first | exact Or.inl rfl | exact Or.inr ⟨rfl, rfl⟩) (r_callB bd_min2 (by rfl) T.b_min (by rfl) (ab_cons (vb 3) (ab_cons (EvR.b (r_bin od_add (EvR.b (r_int)) (EvR.b (r_callT bd_intB (by rfl) T.b_int (by rfl) (ab_cons (vb 1) (ab_nil)))))) (ab_nil))))) (l_cons (s_for (i_range1 (by rfl) T.b_range (v 3)) (gn 6 nd__law_pairs_by) (l_cons (s_ext 4 (rdl 4) (EvR.b (EvF.r (r_lc (own := [("_law_j", 9)]) nd__law_pairs_by (by rfl) (i_range1 (by rfl) T.b_range (v 6)) (gn 9 nd__law_pairs_by) (by decide) (.nil) (r_tup (a_cons (v 9) (a_cons (v 6) (a_nil))))))) ⟨fun _ => rfl, fun _ => rfl, rfl⟩) (l_nil))) (l_nil))) (l_nil)) (l_cons (s_if (t_cmp cd_eq (vb 2) (EvR.b (r_int)) (by rfl)) (l_cons (s_set 7 nd__law_pairs_by (by rfl) (by first | exact Or.inl rfl | exact Or.inr ⟨rfl, rfl⟩) (r_bin od_add (EvR.b (r_int)) (EvR.b (r_bin od_fdiv (vb 3) (EvR.b (r_int)))))) (l_cons (s_for (i_range1 (by rfl) T.b_range (v 7)) (gn 6 nd__law_pairs_by) (l_cons (s_ext 4 (rdl 4) (EvR.b (EvF.r (r_lc (own := [("_law_j", 9)]) nd__law_pairs_by (by rfl) (i_range2 (by rfl) T.b_range (v 7) (v 3)) (gn 9 nd__law_pairs_by) (by decide) (.one (t_cmp cd_gt (EvR.b (r_call c__law_draw (Nat.le_refl _) (by rfl) (a_cons (v 0) (a_cons (r_int) (a_nil))))) (EvR.b (r_int)) (by rfl))) (r_tup (a_cons (v 6) (a_cons (v 9) (a_nil))))))) ⟨fun _ => rfl, fun _ => rfl, rfl⟩) (l_nil))) (l_nil))) (l_nil)) (l_cons (s_if (t_cmp cd_eq (vb 2) (EvR.b (r_int)) (by rfl)) (l_cons (s_set 3 nd__law_pairs_by (by rfl) (by first | exact Or.inl rfl | exact Or.inr ⟨rfl, rfl⟩) (r_bin od_add (EvR.b (r_int)) (EvR.b (r_bin od_fdiv (vb 3) (EvR.b (r_int)))))) (l_cons (s_for (i_range1 (by rfl) T.b_range (r_int)) (gn 6 nd__law_pairs_by) (l_cons (s_ext 4 (rdl 4) (EvR.b (r_bin od_mul (EvR.b (EvF.r (r_lst (a_cons (r_tup (a_cons (v 6) (a_cons (r_bin od_mod (EvR.b (r_bin od_add (vb 6) (EvR.b (r_int)))) (EvR.b (r_int))) (a_nil)))) (a_nil))))) (EvR.b (r_bin od_add (EvR.b (r_int)) (EvR.b (r_call c__law_draw (Nat.le_refl _) (by rfl) (a_cons (v 0) (a_cons (r_int) (a_nil))))))))) ⟨fun _ => rfl, fun _ => rfl, rfl⟩) (l_nil))) (l_nil))) (l_nil)) (l_rel 4 (l_cons (s_ret (r_tup (a_cons (v 3) (a_cons (v 4) (a_nil))))) (l_nil)))))))))))
abbrev S__law_web : Stmt := topS 92
abbrev N__law_web : List Str := ["_law_tape_here", "_law_great", "_law_ties", "_law_many", "_law_pairs", "_law_one", "_law_other", "_law_turn"]
theorem nd__law_web : (N__law_web).Nodup := by decide +kernel
theorem b__law_web {K : PySem.W.Frag} {f : Addr} {fd : FuncData} (F : Fun K "_law_web" "_law_web" S__law_web f fd) : Binds K fd ["_law_tape_here", "_law_great"] [] := F.binds (ps := ["_law_tape_here", "_law_great"]) fun _ _ _ _ _ _ us hl => match us, hl with | [_, _], _ => rfl
theorem sc__law_web : FnScope N__law_web ["_law_tape_here", "_law_great"] (defScope S__law_web) := ⟨rfl, rfl, rfl, nd__law_web, rfl, by decide +kernel, by decide +kernel⟩
def k__law_web (q__law_pairs_by q__law_draw : PSp) : KS := kSeq (kTgt (kCall q__law_pairs_by (kCons (kVar 0) (kCons (kVar 1) (kNil)))) (gkTup 2 (gkCons (gkName 3) (gkCons (gkName 4) (gkNil))))) (kSeq (ksIf (tkAnd (kCmpT neP (kVarB 4) (kF (kLst (kNil)))) (kCmpT eqP (kCall q__law_draw (kCons (kVar 0) (kCons (kC (.int 4)) (kNil)))) (kC (.int 0)))) (kSeq (kSet 4 (kBin addP (kVarB 4) (kF (kLc (kItR1 (kBin addP (kC (.int 1)) (kCall q__law_draw (kCons (kVar 0) (kCons (kC (.int 3)) (kNil)))))) (gkName 7) (tkYes) (kBin ixP (kVarB 4) (kCall q__law_draw (kCons (kVar 0) (kCons (kCall lenP (kCons (kVarB 4) (kNil))) (kNil))))) [7])))) (kNext)) (kNext)) (kSeq (kOwn 2 (kLst (kNil))) (kSeq (ksFor (kItS (kVar 4)) (gkTup 2 (gkCons (gkName 5) (gkCons (gkName 6) (gkNil)))) (kSeq (kIns 2 (kCall q__law_draw (kCons (kVar 0) (kCons (kBin addP (kCall lenP (kCons (kVarB 2) (kNil))) (kC (.int 1))) (kNil)))) (kTup (kCons (kCall min2P (kCons (kVarB 5) (kCons (kVarB 6) (kNil)))) (kCons (kCall max2P (kCons (kVarB 5) (kCons (kVarB 6) (kNil)))) (kNil))))) (kNext))) (kSeq (kRet (kTup (kCons (kVar 3) (kCons (kCall tupleP (kCons (kVarB 2) (kNil))) (kNil))))) (kNext)))))
theorem d__law_web {q__law_pairs_by q__law_draw : PSp} (T : Tx K mg) (c__law_pairs_by : Callee P w K mg base k "_law_pairs_by" q__law_pairs_by) (c__law_draw : Callee P w K mg base k "_law_draw" q__law_draw) : SlR ⟨P, w, K, mg, base, N__law_web, defScope S__law_web, fun _ => true, k, tw, fun _ => True⟩ (defBody S__law_web) (k__law_web q__law_pairs_by q__law_draw) :=
  l_cons (s_tgt (r_call c__law_pairs_by (Nat.le_refl _) (by rfl) (a_cons (v 0) (a_cons (v 1) (a_nil)))) (g_tup (gs_cons (gn 3 nd__law_web) (gs_cons (gn 4 nd__law_web) (gs_nil))))) (l_cons (s_if (TwR.t (t_and (t_cmp cd_ne (vb 4) (EvR.b (EvF.r (r_lst (a_nil)))) (by rfl)) (t_and1 (t_cmp cd_eq (EvR.b (r_call c__law_draw (Nat.le_refl _) (by rfl) (a_cons (v 0) (a_cons (r_int) (a_nil))))) (EvR.b (r_int)) (by rfl))))) (l_cons (s_set 4 nd__law_web (by rfl) (by first | exact Or.inl rfl | exact Or.inr ⟨rfl, rfl⟩) (r_bin od_add (vb 4) (EvR.b (EvF.r (r_lc (own := [("_law_turn", 7)]) nd__law_web (by rfl) (i_range1 (by rfl) T.b_range (r_bin od_add (EvR.b (r_int)) (EvR.b (r_call c__law_draw (Nat.le_refl _) (by rfl) (a_cons (v 0) (a_cons (r_int) (a_nil))))))) (gn 7 nd__law_web) (by decide) (.nil) (r_ix (vb 4) (EvR.b (r_call c__law_draw (Nat.le_refl _) (by rfl) (a_cons (v 0) (a_cons (r_callB bd_len (by rfl) T.b_len (by rfl) (ab_cons (vb 4) (ab_nil))) (a_nil))))))))))) (l_nil)) (l_nil)) (l_cons (s_own 2 nd__law_web (by rfl) (by first | exact Or.inl rfl | exact Or.inr ⟨rfl, rfl⟩) (r_lst (a_nil))) (l_cons (s_for (i_seq (v 4)) (g_tup (gs_cons (gn 5 nd__law_web) (gs_cons (gn 6 nd__law_web) (gs_nil)))) (l_cons (s_ins 2 (rdl 2) (r_call c__law_draw (Nat.le_refl _) (by rfl) (a_cons (v 0) (a_cons (r_bin od_add (EvR.b (r_callB bd_len (by rfl) T.b_len (by rfl) (ab_cons (vb 2) (ab_nil)))) (EvR.b (r_int))) (a_nil)))) (r_tup (a_cons (r_callB bd_min2 (by rfl) T.b_min (by rfl) (ab_cons (vb 5) (ab_cons (vb 6) (ab_nil)))) (a_cons (r_callB bd_max2 (by rfl) T.b_max (by rfl) (ab_cons (vb 5) (ab_cons (vb 6) (ab_nil)))) (a_nil)))) ⟨fun _ => rfl, fun _ => rfl, rfl⟩) (l_nil))) (l_cons (s_ret (r_tup (a_cons (v 3) (a_cons (r_callT bd_tuple (by rfl) T.b_tuple (by rfl) (ab_cons (vb 2) (ab_nil))) (a_nil))))) (l_nil)))))
abbrev S__law_small : Stmt := topS 93
abbrev N__law_small : List Str := ["_law_tape_here", "_law_most", "_law_web_here", "_law_turn"]
theorem nd__law_small : (N__law_small).Nodup := by decide +kernel
theorem b__law_small {K : PySem.W.Frag} {f : Addr} {fd : FuncData} (F : Fun K "_law_small" "_law_small" S__law_small f fd) : Binds K fd ["_law_tape_here", "_law_most"] [] := F.binds (ps := ["_law_tape_here", "_law_most"]) fun _ _ _ _ _ _ us hl => match us, hl with | [_, _], _ => rfl
theorem sc__law_small : FnScope N__law_small ["_law_tape_here", "_law_most"] (defScope S__law_small) := ⟨rfl, rfl, rfl, nd__law_small, rfl, by decide +kernel, by decide +kernel⟩
def k__law_small (q__law_web q__law_draw : PSp) : KS := kSeq (kSet 2 (kCall q__law_web (kCons (kVar 0) (kCons (kCmp eqP (kCall q__law_draw (kCons (kVar 0) (kCons (kC (.int 12)) (kNil)))) (kC (.int 0))) (kNil))))) (kSeq (ksFor (kItR1 (kCall q__law_draw (kCons (kVar 0) (kCons (kC (.int 4)) (kNil))))) (gkName 3) (kSeq (ksIf (kCmpT eqP (kBin ixP (kVarB 2) (kC (.int 1))) (kTup (kNil))) (kSeq (kSet 2 (kCall q__law_web (kCons (kVar 0) (kCons (kC (.bl false)) (kNil))))) (kNext)) (kNext)) (kNext))) (kSeq (kRet (kTup (kCons (kBin ixP (kVarB 2) (kC (.int 0))) (kCons (kSl (kBin ixP (kVarB 2) (kC (.int 1))) (koN) (koS (kBin ixP (kF (kLst (kCons (kC (.int 9)) (kCons (kC (.int 9)) (kCons (kC (.int 9)) (kCons (kVar 1) (kNil))))))) (kCall q__law_draw (kCons (kVar 0) (kCons (kC (.int 4)) (kNil))))))) (kNil))))) (kNext)))
theorem d__law_small {q__law_web q__law_draw : PSp} (T : Tx K mg) (c__law_web : Callee P w K mg base k "_law_web" q__law_web) (c__law_draw : Callee P w K mg base k "_law_draw" q__law_draw) : SlR ⟨P, w, K, mg, base, N__law_small, defScope S__law_small, fun _ => true, k, tw, fun _ => True⟩ (defBody S__law_small) (k__law_small q__law_web q__law_draw) :=
  l_cons (s_set 2 nd__law_small (by rfl) (by first | exact Or.inl rfl | exact Or.inr ⟨rfl, rfl⟩) (r_call c__law_web (Nat.le_refl _) (by rfl) (a_cons (v 0) (a_cons (r_cmp cd_eq (EvR.b (r_call c__law_draw (Nat.le_refl _) (by rfl) (a_cons (v 0) (a_cons (r_int) (a_nil))))) (EvR.b (r_int)) (by rfl)) (a_nil))))) (l_cons (s_for (i_range1 (by rfl) T.b_range (r_call c__law_draw (Nat.le_refl _) (by rfl) (a_cons (v 0) (a_cons (r_int) (a_nil))))) (gn 3 nd__law_small) (l_cons (s_if (t_cmp cd_eq (EvR.b (r_ix (vb 2) (EvR.b (r_int)))) (EvR.b (r_tup (a_nil))) (by rfl)) (l_cons (s_set 2 nd__law_small (by rfl) (by first | exact Or.inl rfl | exact Or.inr ⟨rfl, rfl⟩) (r_call c__law_web (Nat.le_refl _) (by rfl) (a_cons (v 0) (a_cons (r_bl) (a_nil))))) (l_nil)) (l_nil)) (l_nil))) (l_cons (s_ret (r_tup (a_cons (r_ix (vb 2) (EvR.b (r_int))) (a_cons (r_slice (EvR.b (r_ix (vb 2) (EvR.b (r_int)))) (o_none) (o_some (r_ix (EvR.b (EvF.r (r_lst (a_cons (r_int) (a_cons (r_int) (a_cons (r_int) (a_cons (v 1) (a_nil)))))))) (EvR.b (r_call c__law_draw (Nat.le_refl _) (by rfl) (a_cons (v 0) (a_cons (r_int) (a_nil)))))))) (a_nil))))) (l_nil)))
abbrev S__law_ten : Stmt := topS 95
abbrev N__law_ten : List Str := ["_law_found", "_law_k", "_law_pair"]
theorem nd__law_ten : (N__law_ten).Nodup := by decide +kernel
theorem b__law_ten {K : PySem.W.Frag} {f : Addr} {fd : FuncData} (F : Fun K "_law_ten" "_law_ten" S__law_ten f fd) : Binds K fd [] [] := F.binds (ps := []) fun _ _ _ _ _ _ us hl => match us, hl with | [], _ => rfl
theorem sc__law_ten : FnScope N__law_ten [] (defScope S__law_ten) := ⟨rfl, rfl, rfl, nd__law_ten, rfl, by decide +kernel, by decide +kernel⟩
def k__law_ten : KS := kSeq (kSet 0 (kBin addP (kF (kLc (kItR1 (kC (.int 5))) (gkName 1) (tkYes) (kTup (kCons (kVar 1) (kCons (kBin modP (kBin addP (kVarB 1) (kC (.int 1))) (kC (.int 5))) (kNil)))) [1])) (kF (kLc (kItR1 (kC (.int 5))) (gkName 1) (tkYes) (kTup (kCons (kVar 1) (kCons (kBin addP (kVarB 1) (kC (.int 5))) (kNil)))) [1])))) (kSeq (kSet 0 (kBin addP (kVarB 0) (kF (kLc (kItR1 (kC (.int 5))) (gkName 1) (tkYes) (kTup (kCons (kBin addP (kC (.int 5)) (kVarB 1)) (kCons (kBin addP (kC (.int 5)) (kBin modP (kBin addP (kVarB 1) (kC (.int 2))) (kC (.int 5)))) (kNil)))) [1])))) (kSeq (kRet (kTup (kCons (kC (.int 10)) (kCons (kCall tupleP (kCons (kF (kLc (kItS (kVar 0)) (gkName 2) (tkYes) (kTup (kCons (kCall minUP (kCons (kVarB 2) (kNil))) (kCons (kCall maxUP (kCons (kVarB 2) (kNil))) (kNil)))) [2])) (kNil))) (kNil))))) (kNext)))
theorem d__law_ten (T : Tx K mg) : SlR ⟨P, w, K, mg, base, N__law_ten, defScope S__law_ten, fun _ => true, k, tw, fun _ => True⟩ (defBody S__law_ten) (k__law_ten) :=
  l_cons (s_set 0 nd__law_ten (by rfl) (by first | exact Or.inl rfl | exact Or.inr ⟨rfl, rfl⟩) (r_bin od_add (EvR.b (EvF.r (r_lc (own := [("_law_k", 1)]) nd__law_ten (by rfl) (i_range1 (by rfl) T.b_range (r_int)) (gn 1 nd__law_ten) (by decide) (.nil) (r_tup (a_cons (v 1) (a_cons (r_bin od_mod (EvR.b (r_bin od_add (vb 1) (EvR.b (r_int)))) (EvR.b (r_int))) (a_nil))))))) (EvR.b (EvF.r (r_lc (own := [("_law_k", 1)]) nd__law_ten (by rfl) (i_range1 (by rfl) T.b_range (r_int)) (gn 1 nd__law_ten) (by decide) (.nil) (r_tup (a_cons (v 1) (a_cons (r_bin od_add (vb 1) (EvR.b (r_int))) (a_nil))))))))) (l_cons (s_set 0 nd__law_ten (by rfl) (by first | exact Or.inl rfl | exact Or.inr ⟨rfl, rfl⟩) (r_bin od_add (vb 0) (EvR.b (EvF.r (r_lc (own := [("_law_k", 1)]) nd__law_ten (by rfl) (i_range1 (by rfl) T.b_range (r_int)) (gn 1 nd__law_ten) (by decide) (.nil) (r_tup (a_cons (r_bin od_add (EvR.b (r_int)) (vb 1)) (a_cons (r_bin od_add (EvR.b (r_int)) (EvR.b (r_bin od_mod (EvR.b (r_bin od_add (vb 1) (EvR.b (r_int)))) (EvR.b (r_int))))) (a_nil))))))))) (l_cons (s_ret (r_tup (a_cons (r_int) (a_cons (r_callT bd_tuple (by rfl) T.b_tuple (by rfl) (ab_cons (EvR.b (EvF.r (r_lc (own := [("_law_pair", 2)]) nd__law_ten (by rfl) (i_seq (v 0)) (gn 2 nd__law_ten) (by decide) (.nil) (r_tup (a_cons (r_callB bd_minU (by rfl) T.b_min (by rfl) (ab_cons (vb 2) (ab_nil))) (a_cons (r_callB bd_maxU (by rfl) T.b_max (by rfl) (ab_cons (vb 2) (ab_nil))) (a_nil))))))) (ab_nil))) (a_nil))))) (l_nil)))
abbrev S__law_turned : Stmt := topS 96
abbrev N__law_turned : List Str := ["_law_tape_here", "_law_web_here", "_law_names", "_law_place", "_law_ties", "_law_other", "_law_one", "_law_pair"]
theorem nd__law_turned : (N__law_turned).Nodup := by decide +kernel
theorem b__law_turned {K : PySem.W.Frag} {f : Addr} {fd : FuncData} (F : Fun K "_law_turned" "_law_turned" S__law_turned f fd) : Binds K fd ["_law_tape_here", "_law_web_here"] [] := F.binds (ps := ["_law_tape_here", "_law_web_here"]) fun _ _ _ _ _ _ us hl => match us, hl with | [_, _], _ => rfl
theorem sc__law_turned : FnScope N__law_turned ["_law_tape_here", "_law_web_here"] (defScope S__law_turned) := ⟨rfl, rfl, rfl, nd__law_turned, rfl, by decide +kernel, by decide +kernel⟩
def k__law_turned (q__law_draw : PSp) : KS := kSeq (kOwn 2 (kLstR (kBin ixP (kVarB 1) (kC (.int 0))))) (kSeq (ksFor (kItR1 (kBin ixP (kVarB 1) (kC (.int 0)))) (gkName 3) (kSeq (kSet 5 (kCall q__law_draw (kCons (kVar 0) (kCons (kBin ixP (kVarB 1) (kC (.int 0))) (kNil))))) (kSeq (kSwap 2 3 5) (kNext)))) (kSeq (kOwn 4 (kLst (kNil))) (kSeq (ksFor (kItS (kBin ixP (kVarB 1) (kC (.int 1)))) (gkTup 2 (gkCons (gkName 6) (gkCons (gkName 5) (gkNil)))) (kSeq (kSet 7 (kTup (kCons (kCall min2P (kCons (kBin ixP (kVarB 2) (kVarB 6)) (kCons (kBin ixP (kVarB 2) (kVarB 5)) (kNil)))) (kCons (kCall max2P (kCons (kBin ixP (kVarB 2) (kVarB 6)) (kCons (kBin ixP (kVarB 2) (kVarB 5)) (kNil)))) (kNil))))) (kSeq (kIns 4 (kCall q__law_draw (kCons (kVar 0) (kCons (kBin addP (kCall lenP (kCons (kVarB 4) (kNil))) (kC (.int 1))) (kNil)))) (kVar 7)) (kNext)))) (kSeq (kRet (kTup (kCons (kBin ixP (kVarB 1) (kC (.int 0))) (kCons (kCall tupleP (kCons (kVarB 4) (kNil))) (kNil))))) (kNext)))))
theorem d__law_turned {q__law_draw : PSp} (T : Tx K mg) (c__law_draw : Callee P w K mg base k "_law_draw" q__law_draw) : SlR ⟨P, w, K, mg, base, N__law_turned, defScope S__law_turned, fun _ => true, k, tw, fun _ => True⟩ (defBody S__law_turned) (k__law_turned q__law_draw) :=
  l_cons (s_own 2 nd__law_turned (by rfl) (by first | exact Or.inl rfl | exact Or.inr ⟨rfl, rfl⟩) (r_lstR (by rfl) T.b_list (by rfl) T.b_range (r_ix (vb 1) (EvR.b (r_int))))) (l_cons (s_for (i_range1 (by rfl) T.b_range (r_ix (vb 1) (EvR.b (r_int)))) (gn 3 nd__law_turned) (l_cons (s_set 5 nd__law_turned (by rfl) (by first | exact Or.inl rfl | exact Or.inr ⟨rfl, rfl⟩) (r_call c__law_draw (Nat.le_refl _) (by rfl) (a_cons (v 0) (a_cons (r_ix (vb 1) (EvR.b (r_int))) (a_nil))))) (l_cons (s_swap 2 3 5 (rdl 2) (rdl 3) (rdl 5)) (l_nil)))) (l_cons (s_own 4 nd__law_turned (by rfl) (by first | exact Or.inl rfl | exact Or.inr ⟨rfl, rfl⟩) (r_lst (a_nil))) (l_cons (s_for (i_seq (r_ix (vb 1) (EvR.b (r_int)))) (g_tup (gs_cons (gn 6 nd__law_turned) (gs_cons (gn 5 nd__law_turned) (gs_nil)))) (l_cons (s_set 7 nd__law_turned (by rfl) (by first | exact Or.inl rfl | exact Or.inr ⟨rfl, rfl⟩) (r_tup (a_cons (r_callB bd_min2 (by rfl) T.b_min (by rfl) (ab_cons (EvR.b (r_ix (vb 2) (vb 6))) (ab_cons (EvR.b (r_ix (vb 2) (vb 5))) (ab_nil)))) (a_cons (r_callB bd_max2 (by rfl) T.b_max (by rfl) (ab_cons (EvR.b (r_ix (vb 2) (vb 6))) (ab_cons (EvR.b (r_ix (vb 2) (vb 5))) (ab_nil)))) (a_nil))))) (l_cons (s_ins 4 (rdl 4) (r_call c__law_draw (Nat.le_refl _) (by rfl) (a_cons (v 0) (a_cons (r_bin od_add (EvR.b (r_callB bd_len (by rfl) T.b_len (by rfl) (ab_cons (vb 4) (ab_nil)))) (EvR.b (r_int))) (a_nil)))) (v 7) ⟨fun _ => rfl, fun _ => rfl, rfl⟩) (l_nil)))) (l_cons (s_ret (r_tup (a_cons (r_ix (vb 1) (EvR.b (r_int))) (a_cons (r_callT bd_tuple (by rfl) T.b_tuple (by rfl) (ab_cons (vb 4) (ab_nil))) (a_nil))))) (l_nil)))))
abbrev S__law_any : Stmt := topS 97
abbrev N__law_any : List Str := ["_law_tape_here"]
theorem nd__law_any : (N__law_any).Nodup := by decide +kernel
theorem b__law_any {K : PySem.W.Frag} {f : Addr} {fd : FuncData} (F : Fun K "_law_any" "_law_any" S__law_any f fd) : Binds K fd ["_law_tape_here"] [] := F.binds (ps := ["_law_tape_here"]) fun _ _ _ _ _ _ us hl => match us, hl with | [_], _ => rfl
theorem sc__law_any : FnScope N__law_any ["_law_tape_here"] (defScope S__law_any) := ⟨rfl, rfl, rfl, nd__law_any, rfl, by decide +kernel, by decide +kernel⟩
def k__law_any (q__law_draw q__law_turned q__law_ten q__law_small : PSp) : KS := kSeq (ksIf (kCmpT eqP (kCall q__law_draw (kCons (kVar 0) (kCons (kC (.int 9)) (kNil)))) (kC (.int 0))) (kSeq (kRet (kCall q__law_turned (kCons (kVar 0) (kCons (kCall q__law_ten kNil) (kNil))))) (kNext)) (kNext)) (kSeq (kRet (kCall q__law_small (kCons (kVar 0) (kCons (kC (.int 16)) (kNil))))) (kNext))
theorem d__law_any {q__law_draw q__law_turned q__law_ten q__law_small : PSp} (T : Tx K mg) (c__law_draw : Callee P w K mg base k "_law_draw" q__law_draw) (c__law_turned : Callee P w K mg base k "_law_turned" q__law_turned) (c__law_ten : Callee P w K mg base k "_law_ten" q__law_ten) (c__law_small : Callee P w K mg base k "_law_small" q__law_small) : SlR ⟨P, w, K, mg, base, N__law_any, defScope S__law_any, fun _ => true, k, tw, fun _ => True⟩ (defBody S__law_any) (k__law_any q__law_draw q__law_turned q__law_ten q__law_small) :=
  l_cons (s_if (t_cmp cd_eq (EvR.b (r_call c__law_draw (Nat.le_refl _) (by rfl) (a_cons (v 0) (a_cons (r_int) (a_nil))))) (EvR.b (r_int)) (by rfl)) (l_cons (s_ret (r_call c__law_turned (Nat.le_refl _) (by rfl) (a_cons (v 0) (a_cons (r_call0 c__law_ten (Nat.le_refl _) (by rfl)) (a_nil))))) (l_nil)) (l_nil)) (l_cons (s_ret (r_call c__law_small (Nat.le_refl _) (by rfl) (a_cons (v 0) (a_cons (r_int) (a_nil))))) (l_nil))
abbrev S__law_paper_right : Stmt := topS 98
abbrev N__law_paper_right : List Str := ["_law_web_here", "_law_number", "_law_paper", "_law_hues"]
theorem nd__law_paper_right : (N__law_paper_right).Nodup := by decide +kernel
theorem b__law_paper_right {K : PySem.W.Frag} {f : Addr} {fd : FuncData} (F : Fun K "_law_paper_right" "_law_paper_right" S__law_paper_right f fd) : Binds K fd ["_law_web_here", "_law_number", "_law_paper"] [] := F.binds (ps := ["_law_web_here", "_law_number", "_law_paper"]) fun _ _ _ _ _ _ us hl => match us, hl with | [_, _, _], _ => rfl
theorem sc__law_paper_right : FnScope N__law_paper_right ["_law_web_here", "_law_number", "_law_paper"] (defScope S__law_paper_right) := ⟨rfl, rfl, rfl, nd__law_paper_right, rfl, by decide +kernel, by decide +kernel⟩
def k__law_paper_right (q_shows_fewer : PSp) : KS := kSeq (ksIf (kCmpT eqP (kVarB 1) (kC (.int 0))) (kSeq (kRet (kCmp isP (kVarB 2) (kC .non))) (kNext)) (kNext)) (kSeq (ksIf (tkOr (kCmpT nisP (kCall q_shows_fewer (kCons (kVar 0) (kCons (kBin subP (kVarB 1) (kC (.int 1))) (kCons (kVar 2) (kNil))))) (kC (.bl true))) (kCmpT nisP (kCall q_shows_fewer (kCons (kVar 0) (kCons (kVar 1) (kCons (kVar 2) (kNil))))) (kC (.bl false)))) (kSeq (kRet (kC (.bl false))) (kNext)) (kNext)) (kSeq (kRet (kOr (kCmp eqP (kBin ixP (kVarB 2) (kC (.int 0))) (kC (.str "tree"))) (kCall allP (kCons (kF (kLc (kItR1 (kVar 1)) (gkName 3) (tkYes) (kCall q_shows_fewer (kCons (kVar 0) (kCons (kVar 3) (kCons (kVar 2) (kNil))))) [3])) (kNil))))) (kNext)))
theorem d__law_paper_right {q_shows_fewer : PSp} (T : Tx K mg) (c_shows_fewer : Callee P w K mg base k "shows_fewer" q_shows_fewer) : SlR ⟨P, w, K, mg, base, N__law_paper_right, defScope S__law_paper_right, fun _ => true, k, tw, fun _ => True⟩ (defBody S__law_paper_right) (k__law_paper_right q_shows_fewer) :=
  l_cons (s_if (t_cmp cd_eq (vb 1) (EvR.b (r_int)) (by rfl)) (l_cons (s_ret (r_cmp cd_is (vb 2) (EvR.b (r_non)) (by rfl))) (l_nil)) (l_nil)) (l_cons (s_if (TwR.t (t_or (t_cmp cd_nis (EvR.b (r_call c_shows_fewer (Nat.le_refl _) (by rfl) (a_cons (v 0) (a_cons (r_bin od_sub (vb 1) (EvR.b (r_int))) (a_cons (v 2) (a_nil)))))) (EvR.b (r_bl)) (by rfl)) (t_or1 (t_cmp cd_nis (EvR.b (r_call c_shows_fewer (Nat.le_refl _) (by rfl) (a_cons (v 0) (a_cons (v 1) (a_cons (v 2) (a_nil)))))) (EvR.b (r_bl)) (by rfl))))) (l_cons (s_ret (r_bl)) (l_nil)) (l_nil)) (l_cons (s_ret (r_or (r_cmp cd_eq (EvR.b (r_ix (vb 2) (EvR.b (r_int)))) (EvR.b (r_str)) (by rfl)) (r_one (r_callB bd_all (by rfl) T.b_all (by rfl) (ab_cons (EvR.b (EvF.r (r_lc (own := [("_law_hues", 3)]) nd__law_paper_right (by rfl) (i_range1 (by rfl) T.b_range (v 1)) (gn 3 nd__law_paper_right) (by decide) (.nil) (r_call c_shows_fewer (Nat.le_refl _) (by rfl) (a_cons (v 0) (a_cons (v 3) (a_cons (v 2) (a_nil)))))))) (ab_nil)))))) (l_nil)))
abbrev S__law_filled_right : Stmt := topS 99
abbrev N__law_filled_right : List Str := ["_law_web_here", "_law_hues", "_law_word", "_law_bare", "_law_found"]
theorem nd__law_filled_right : (N__law_filled_right).Nodup := by decide +kernel
theorem b__law_filled_right {K : PySem.W.Frag} {f : Addr} {fd : FuncData} (F : Fun K "_law_filled_right" "_law_filled_right" S__law_filled_right f fd) : Binds K fd ["_law_web_here", "_law_hues", "_law_word"] [] := F.binds (ps := ["_law_web_here", "_law_hues", "_law_word"]) fun _ _ _ _ _ _ us hl => match us, hl with | [_, _, _], _ => rfl
theorem sc__law_filled_right : FnScope N__law_filled_right ["_law_web_here", "_law_hues", "_law_word"] (defScope S__law_filled_right) := ⟨rfl, rfl, rfl, nd__law_filled_right, rfl, by decide +kernel, by decide +kernel⟩
def k__law_filled_right (q_filled q_shows_filled : PSp) : KS := kSeq (kSet 3 (kBin mulP (kF (kLst (kCons (kC .non) (kNil)))) (kCall lenP (kCons (kBin ixP (kVarB 0) (kC (.int 1))) (kNil))))) (kSeq (kSet 4 (kCall q_filled (kCons (kVar 0) (kCons (kVar 3) (kCons (kVar 1) (kNil)))))) (kSeq (kRet (kAnd (kCmp eqP (kBin ixP (kVarB 4) (kC (.int 0))) (kVarB 2)) (kCmp isP (kCall q_shows_filled (kCons (kVar 0) (kCons (kVar 3) (kCons (kVar 1) (kCons (kVar 4) (kNil)))))) (kC (.bl true))))) (kNext)))
theorem d__law_filled_right {q_filled q_shows_filled : PSp} (T : Tx K mg) (c_filled : Callee P w K mg base k "filled" q_filled) (c_shows_filled : Callee P w K mg base k "shows_filled" q_shows_filled) : SlR ⟨P, w, K, mg, base, N__law_filled_right, defScope S__law_filled_right, fun _ => true, k, tw, fun _ => True⟩ (defBody S__law_filled_right) (k__law_filled_right q_filled q_shows_filled) :=
  l_cons (s_set 3 nd__law_filled_right (by rfl) (by first | exact Or.inl rfl | exact Or.inr ⟨rfl, rfl⟩) (r_bin od_mul (EvR.b (EvF.r (r_lst (a_cons (r_non) (a_nil))))) (EvR.b (r_callB bd_len (by rfl) T.b_len (by rfl) (ab_cons (EvR.b (r_ix (vb 0) (EvR.b (r_int)))) (ab_nil)))))) (l_cons (s_set 4 nd__law_filled_right (by rfl) (by first | exact Or.inl rfl | exact Or.inr ⟨rfl, rfl⟩) (r_call c_filled (Nat.le_refl _) (by rfl) (a_cons (v 0) (a_cons (v 3) (a_cons (v 1) (a_nil)))))) (l_cons (s_ret (r_and (r_cmp cd_eq (EvR.b (r_ix (vb 4) (EvR.b (r_int)))) (vb 2) (by rfl)) (r_one (r_cmp cd_is (EvR.b (r_call c_shows_filled (Nat.le_refl _) (by rfl) (a_cons (v 0) (a_cons (v 3) (a_cons (v 1) (a_cons (v 4) (a_nil))))))) (EvR.b (r_bl)) (by rfl))))) (l_nil)))
abbrev S__law_some_right : Stmt := topS 100
abbrev N__law_some_right : List Str := ["_law_tape_here", "_law_web_here", "_law_ties", "_law_number", "_law_row", "_law_paper", "_law_tie"]
theorem nd__law_some_right : (N__law_some_right).Nodup := by decide +kernel
theorem b__law_some_right {K : PySem.W.Frag} {f : Addr} {fd : FuncData} (F : Fun K "_law_some_right" "_law_some_right" S__law_some_right f fd) : Binds K fd ["_law_tape_here", "_law_web_here"] [] := F.binds (ps := ["_law_tape_here", "_law_web_here"]) fun _ _ _ _ _ _ us hl => match us, hl with | [_, _], _ => rfl
theorem sc__law_some_right : FnScope N__law_some_right ["_law_tape_here", "_law_web_here"] (defScope S__law_some_right) := ⟨rfl, rfl, rfl, nd__law_some_right, rfl, by decide +kernel, by decide +kernel⟩
def k__law_some_right (q__law_draw q_fewest q_only q_shows_fewer : PSp) : KS := kSeq (kOwn 2 (kLc (kItR1 (kCall lenP (kCons (kBin ixP (kVarB 1) (kC (.int 1))) (kNil)))) (gkName 6) (kCmpT gtP (kCall q__law_draw (kCons (kVar 0) (kCons (kC (.int 3)) (kNil)))) (kC (.int 0))) (kVar 6) [6])) (kRel 2 (kSeq (kTgt (kCall q_fewest (kCons (kCall q_only (kCons (kVar 1) (kCons (kVar 2) (kNil)))) (kNil))) (gkTup 3 (gkCons (gkName 3) (gkCons (gkName 4) (gkCons (gkName 5) (gkNil)))))) (kSeq (ksIf (tkOr (kCmpT eqP (kVarB 3) (kC (.int 0))) (kCmpT eqP (kBin ixP (kVarB 5) (kC (.int 0))) (kC (.str "tree")))) (kSeq (kRet (kC (.bl true))) (kNext)) (kNext)) (kSeq (kRet (kCall q_shows_fewer (kCons (kVar 1) (kCons (kBin subP (kVarB 3) (kC (.int 1))) (kCons (kVar 5) (kNil)))))) (kNext)))))
theorem d__law_some_right {q__law_draw q_fewest q_only q_shows_fewer : PSp} (T : Tx K mg) (c__law_draw : Callee P w K mg base k "_law_draw" q__law_draw) (c_fewest : Callee P w K mg base k "fewest" q_fewest) (c_only : Callee P w K mg base k "only" q_only) (c_shows_fewer : Callee P w K mg base k "shows_fewer" q_shows_fewer) : SlR ⟨P, w, K, mg, base, N__law_some_right, defScope S__law_some_right, fun _ => true, k, tw, fun _ => True⟩ (defBody S__law_some_right) (k__law_some_right q__law_draw q_fewest q_only q_shows_fewer) :=
  l_cons (s_setLcO (own := [("_law_tie", 6)]) 2 nd__law_some_right (by rfl) (by rfl) (by rfl) (by rfl) (i_range1 (by rfl) T.b_range (r_callB bd_len (by rfl) T.b_len (by rfl) (ab_cons (EvR.b (r_ix (vb 1) (EvR.b (r_int)))) (ab_nil)))) (gn 6 nd__law_some_right) (by decide) (.one (t_cmp cd_gt (EvR.b (r_call c__law_draw (Nat.le_refl _) (by rfl) (a_cons (v 0) (a_cons (r_int) (a_nil))))) (EvR.b (r_int)) (by rfl))) (v 6) (by rfl) (by rfl)) (l_rel 2 (l_cons (s_tgt (r_call c_fewest (Nat.le_refl _) (by rfl) (a_cons (r_call c_only (Nat.le_refl _) (by rfl) (a_cons (v 1) (a_cons (v 2) (a_nil)))) (a_nil))) (g_tup (gs_cons (gn 3 nd__law_some_right) (gs_cons (gn 4 nd__law_some_right) (gs_cons (gn 5 nd__law_some_right) (gs_nil)))))) (l_cons (s_if (TwR.t (t_or (t_cmp cd_eq (vb 3) (EvR.b (r_int)) (by rfl)) (t_or1 (t_cmp cd_eq (EvR.b (r_ix (vb 5) (EvR.b (r_int)))) (EvR.b (r_str)) (by rfl))))) (l_cons (s_ret (r_bl)) (l_nil)) (l_nil)) (l_cons (s_ret (r_call c_shows_fewer (Nat.le_refl _) (by rfl) (a_cons (v 1) (a_cons (r_bin od_sub (vb 3) (EvR.b (r_int))) (a_cons (v 5) (a_nil)))))) (l_nil)))))
end
end U
set_option Elab.async false
set_option linter.all false
set_option maxRecDepth 100000
set_option maxHeartbeats 4000000
namespace U
open PySem PySem.Spec PyProof.Rows L2
section
variable {P : Program} {w : World} {K : PySem.W.Frag} {mg : Str → Option Value} {base : Heap} {k : Nat} {tw : AD} {cSearch cLists : Addr}

abbrev S_classes : Stmt := topS 24
abbrev N_classes : List Str := ["hueing", "hues", "found", "tie", "hue"]
theorem nd_classes : (N_classes).Nodup := by decide +kernel
theorem b_classes {K : PySem.W.Frag} {f : Addr} {fd : FuncData} (F : Fun K "classes" "classes" S_classes f fd) : Binds K fd ["hueing", "hues"] [] := F.binds (ps := ["hueing", "hues"]) fun _ _ _ _ _ _ us hl => match us, hl with | [_, _], _ => rfl
theorem sc_classes : FnScope N_classes ["hueing", "hues"] (defScope S_classes) := ⟨rfl, rfl, rfl, nd_classes, rfl, by decide +kernel, by decide +kernel⟩
def k_classes : KS := kSeq (kOoNew 2 (kItR1 (kVar 1))) (kSeq (ksFor (kItE (kVar 0)) (gkTup 2 (gkCons (gkName 3) (gkCons (gkName 4) (gkNil)))) (kSeq (ksIf (tkAnd (kCmpT nisP (kVarB 4) (kC .non)) (kCmpT ltP (kVarB 4) (kVarB 1))) (kSeq (kOoApp 2 (kVar 4) (kVar 3)) (kNext)) (kNext)) (kNext))) (kRel 2 (kSeq (kRet (kVar 2)) (kNext))))
theorem d_classes (T : Tx K mg) : SlR ⟨P, w, K, mg, base, N_classes, defScope S_classes, fun _ => true, k, tw, fun _ => True⟩ (defBody S_classes) (k_classes) :=
  l_cons (s_ooNew (own := [("hue", 4)]) 2 4 nd_classes (by rfl) (by rfl) (by rfl) (by rfl) (i_range1 (by rfl) T.b_range (v 1)) (by rfl) (by first | exact Or.inl rfl | exact Or.inr ⟨rfl, rfl⟩) (by decide) (by rfl) (by rfl)) (l_cons (s_for (i_enum (by rfl) T.b_enumerate (v 0)) (g_tup (gs_cons (gn 3 nd_classes) (gs_cons (gn 4 nd_classes) (gs_nil)))) (l_cons (s_if (TwR.t (t_and (t_cmp cd_nis (vb 4) (EvR.b (r_non)) (by rfl)) (t_and1 (t_cmp cd_lt (vb 4) (vb 1) (by rfl))))) (l_cons (s_ooApp 2 (rdl 2) (v 4) (v 3) ⟨fun _ => rfl, fun _ => rfl, rfl⟩) (l_nil)) (l_nil)) (l_nil))) (l_rel 2 (l_cons (s_ret (v 2)) (l_nil))))
abbrev S_ties_by_place : Stmt := topS 10
abbrev N_ties_by_place : List Str := ["web", "found", "number", "place", "one", "other"]
theorem nd_ties_by_place : (N_ties_by_place).Nodup := by decide +kernel
theorem b_ties_by_place {K : PySem.W.Frag} {f : Addr} {fd : FuncData} (F : Fun K "ties_by_place" "ties_by_place" S_ties_by_place f fd) : Binds K fd ["web"] [] := F.binds (ps := ["web"]) fun _ _ _ _ _ _ us hl => match us, hl with | [_], _ => rfl
theorem sc_ties_by_place : FnScope N_ties_by_place ["web"] (defScope S_ties_by_place) := ⟨rfl, rfl, rfl, nd_ties_by_place, rfl, by decide +kernel, by decide +kernel⟩
def k_ties_by_place : KS := kSeq (kOoNew 1 (kItR1 (kBin ixP (kVarB 0) (kC (.int 0))))) (kSeq (ksFor (kItET (kBin ixP (kVarB 0) (kC (.int 1)))) (gkTup 2 (gkCons (gkName 2) (gkCons (gkTup 2 (gkCons (gkName 4) (gkCons (gkName 5) (gkNil)))) (gkNil)))) (kSeq (kOoApp 1 (kVar 4) (kVar 2)) (kSeq (kOoApp 1 (kVar 5) (kVar 2)) (kNext)))) (kRel 1 (kSeq (kRet (kVar 1)) (kNext))))
theorem d_ties_by_place (T : Tx K mg) : SlR ⟨P, w, K, mg, base, N_ties_by_place, defScope S_ties_by_place, fun _ => true, k, tw, fun _ => True⟩ (defBody S_ties_by_place) (k_ties_by_place) :=
  l_cons (s_ooNew (own := [("place", 3)]) 1 3 nd_ties_by_place (by rfl) (by rfl) (by rfl) (by rfl) (i_range1 (by rfl) T.b_range (r_ix (vb 0) (EvR.b (r_int)))) (by rfl) (by first | exact Or.inl rfl | exact Or.inr ⟨rfl, rfl⟩) (by decide) (by rfl) (by rfl)) (l_cons (s_for (i_enumT (by rfl) T.b_enumerate (r_ix (vb 0) (EvR.b (r_int)))) (g_tup (gs_cons (gn 2 nd_ties_by_place) (gs_cons (g_tup (gs_cons (gn 4 nd_ties_by_place) (gs_cons (gn 5 nd_ties_by_place) (gs_nil)))) (gs_nil)))) (l_cons (s_ooApp 1 (rdl 1) (v 4) (v 2) ⟨fun _ => rfl, fun _ => rfl, rfl⟩) (l_cons (s_ooApp 1 (rdl 1) (v 5) (v 2) ⟨fun _ => rfl, fun _ => rfl, rfl⟩) (l_nil)))) (l_rel 1 (l_cons (s_ret (v 1)) (l_nil))))
abbrev S_row_with : Stmt := topS 44
abbrev N_row_with : List Str := ["web", "hueing", "tie", "hues", "met", "waiting", "other"]
theorem nd_row_with : (N_row_with).Nodup := by decide +kernel
theorem b_row_with {K : PySem.W.Frag} {f : Addr} {fd : FuncData} (F : Fun K "row_with" "row_with" S_row_with f fd) : Binds K fd ["web", "hueing", "tie", "hues"] [] := F.binds (ps := ["web", "hueing", "tie", "hues"]) fun _ _ _ _ _ _ us hl => match us, hl with | [_, _, _, _], _ => rfl
theorem sc_row_with : FnScope N_row_with ["web", "hueing", "tie", "hues"] (defScope S_row_with) := ⟨rfl, rfl, rfl, nd_row_with, rfl, by decide +kernel, by decide +kernel⟩
def k_row_with (q_neighbours : PSp) : KS := kSeq (kDk1 4 (kVar 2) (kC (.bl true))) (kSeq (kOwn 5 (kLst (kCons (kVar 2) (kNil)))) (kSeq (ksWhile (kCmpT gtP (kCall lenP (kCons (kVarB 5) (kNil))) (kC (.int 0))) (kSeq (ksForPop 0 1 5 3 q_neighbours (gkName 6) (kSeq (ksIf (kInDk true 4 (kVar 6)) (kSeq (kDkPut 4 (kC (.bl true)) (kVar 6)) (kSeq (kApp 5 (kVar 6)) (kNext))) (kNext)) (kNext))) (kNext))) (kSeq (kRet (kF (kSorted 4))) (kNext))))
theorem d_row_with {q_neighbours : PSp} (T : Tx K mg) (c_neighbours : Callee P w K mg base k "neighbours" q_neighbours) : SlR ⟨P, w, K, mg, base, N_row_with, defScope S_row_with, fun _ => true, k, tw, fun _ => True⟩ (defBody S_row_with) (k_row_with q_neighbours) :=
  l_cons (s_dk1 4 nd_row_with (by rfl) (by first | exact Or.inl rfl | exact Or.inr ⟨rfl, rfl⟩) (v 2) (r_bl)) (l_cons (s_own 5 nd_row_with (by rfl) (by first | exact Or.inl rfl | exact Or.inr ⟨rfl, rfl⟩) (r_lst (a_cons (v 2) (a_nil)))) (l_cons (s_while (t_cmp cd_gt (EvR.b (r_callB bd_len (by rfl) T.b_len (by rfl) (ab_cons (vb 5) (ab_nil)))) (EvR.b (r_int)) (by rfl)) (l_cons (s_forPop 0 1 5 3 c_neighbours (Nat.le_refl _) (by rfl) (rdl 0) (rdl 1) (rdl 5) (rdl 3) ⟨fun _ => rfl, fun _ => rfl, rfl⟩ (by decide) (by decide) (by decide) (gn 6 nd_row_with) (l_cons (s_if (t_ninDk 4 (rdl 4) (v 6)) (l_cons (s_dkPut 4 (rdl 4) (v 6) (r_bl)) (l_cons (s_app 5 (rdl 5) (v 6) ⟨fun _ => rfl, fun _ => rfl, rfl⟩) (l_nil))) (l_nil)) (l_nil))) (l_nil))) (l_cons (s_ret (EvF.r (r_sorted 4 (rdl 4) (by rfl) T.b_sorted))) (l_nil))))
abbrev S_done_step : Stmt := topS 61
abbrev N_done_step : List Str := ["web", "hueing", "step", "made"]
theorem nd_done_step : (N_done_step).Nodup := by decide +kernel
theorem b_done_step {K : PySem.W.Frag} {f : Addr} {fd : FuncData} (F : Fun K "done_step" "done_step" S_done_step f fd) : Binds K fd ["web", "hueing", "step"] [] := F.binds (ps := ["web", "hueing", "step"]) fun _ _ _ _ _ _ us hl => match us, hl with | [_, _, _], _ => rfl
theorem sc_done_step : FnScope N_done_step ["web", "hueing", "step"] (defScope S_done_step) := ⟨rfl, rfl, rfl, nd_done_step, rfl, by decide +kernel, by decide +kernel⟩
def k_done_step (q_made_by q_look_so q_is_hueing : PSp) : KS := kSeq (kSeq (kSet 3 (kCall q_made_by (kCons (kVar 0) (kCons (kVar 1) (kCons (kVar 2) (kNil)))))) (kNext)) (kSeq (kDrop (kCall q_look_so (kCons (kCall q_is_hueing (kCons (kVar 0) (kCons (kVar 3) (kNil)))) (kNil)))) (kSeq (kRet (kVar 3)) (kNext)))
theorem d_done_step {q_made_by q_look_so q_is_hueing : PSp} (T : Tx K mg) (c_made_by : Callee P w K mg base k "made_by" q_made_by) (c_look_so : Callee P w K mg base k "look_so" q_look_so) (c_is_hueing : Callee P w K mg base k "is_hueing" q_is_hueing) : SlR ⟨P, w, K, mg, base, N_done_step, defScope S_done_step, fun _ => true, k, tw, fun _ => True⟩ (defBody S_done_step) (k_done_step q_made_by q_look_so q_is_hueing) :=
  l_cons (s_try (l_cons (s_set 3 nd_done_step (by rfl) (by first | exact Or.inl rfl | exact Or.inr ⟨rfl, rfl⟩) (r_call c_made_by (Nat.le_refl _) (by rfl) (a_cons (v 0) (a_cons (v 1) (a_cons (v 2) (a_nil)))))) (l_nil))) (l_cons (s_drop (r_call c_look_so (Nat.le_refl _) (by rfl) (a_cons (r_call c_is_hueing (Nat.le_refl _) (by rfl) (a_cons (v 0) (a_cons (v 3) (a_nil)))) (a_nil)))) (l_cons (s_ret (v 3)) (l_nil)))
abbrev S_full_set : Stmt := topS 70
abbrev N_full_set : List Str := ["web", "hues", "longest", "found", "place", "full", "lows", "lack", "more", "some", "lacked", "inside", "one", "other"]
theorem nd_full_set : (N_full_set).Nodup := by decide +kernel
theorem b_full_set {K : PySem.W.Frag} {f : Addr} {fd : FuncData} (F : Fun K "full_set" "full_set" S_full_set f fd) : Binds K fd ["web", "hues"] [] := F.binds (ps := ["web", "hues"]) fun _ _ _ _ _ _ us hl => match us, hl with | [_, _], _ => rfl
theorem sc_full_set : FnScope N_full_set ["web", "hues"] (defScope S_full_set) := ⟨rfl, rfl, rfl, nd_full_set, rfl, by decide +kernel, by decide +kernel⟩
def k_full_set (q_count_at : PSp) : KS := kSeq (kSet 2 (kBin addP (kC (.int 1)) (kBin mulP (kC (.int 2)) (kBin fdivP (kBin subP (kCall lenP (kCons (kBin ixP (kVarB 0) (kC (.int 1))) (kNil))) (kC (.int 1))) (kCall max2P (kCons (kC (.int 1)) (kCons (kVarB 1) (kNil)))))))) (kSeq (kOwn 3 (kLst (kCons (kTup (kCons (kTup (kNil)) (kCons (kC (.int 0)) (kCons (kC (.int 0)) (kNil))))) (kNil)))) (kSeq (ksFor (kItR1 (kBin ixP (kVarB 0) (kC (.int 0)))) (gkName 4) (kSeq (kOwn 6 (kLc (kItS (kBin ixP (kVarB 0) (kC (.int 1)))) (gkTup 2 (gkCons (gkName 12) (gkCons (gkName 13) (gkNil)))) (kCmpT eqP (kVarB 13) (kVarB 4)) (kVar 12) [12, 13])) (kRel 6 (kSeq (kSet 7 (kBin subP (kVarB 1) (kCall q_count_at (kCons (kVar 0) (kCons (kVar 4) (kNil)))))) (kSeq (kOwn 8 (kLst (kNil))) (kSeq (ksForO 3 (gkTup 3 (gkCons (gkName 9) (gkCons (gkName 10) (gkCons (gkName 11) (gkNil))))) (kSeq (ksIf (tkAnd (kCmpT ltP (kCall lenP (kCons (kVarB 9) (kNil))) (kVarB 2)) (kCmpT ltP (kBin addP (kVarB 10) (kVarB 7)) (kBin subP (kVarB 1) (kC (.int 1))))) (kSeq (kApp 8 (kTup (kCons (kBin addP (kVarB 9) (kTup (kCons (kVar 4) (kNil)))) (kCons (kBin addP (kVarB 10) (kVarB 7)) (kCons (kBin addP (kVarB 11) (kCall lenP (kCons (kF (kLc (kItS (kVar 6)) (gkName 12) (kCmpT inP (kVarB 12) (kVarB 9)) (kVar 12) [12])) (kNil)))) (kNil)))))) (kNext)) (kNext)) (kNext))) (kSeq (kExt 3 (kVarB 8)) (kNext)))))))) (kRel 3 (kSeq (kOwn 5 (kLc (kItS (kVar 3)) (gkTup 3 (gkCons (gkName 9) (gkCons (gkName 10) (gkCons (gkName 11) (gkNil))))) (tkAnd (kCmpT eqP (kBin modP (kCall lenP (kCons (kVarB 9) (kNil))) (kC (.int 2))) (kC (.int 1))) (kCmpT gtP (kVarB 11) (kBin mulP (kVarB 1) (kBin fdivP (kCall lenP (kCons (kVarB 9) (kNil))) (kC (.int 2)))))) (kVar 9) [9, 10, 11])) (kRel 5 (kSeq (kRet (kMinKL (kVarB 5))) (kNext)))))))
theorem d_full_set {q_count_at : PSp} (T : Tx K mg) (c_count_at : Callee P w K mg base k "count_at" q_count_at) : SlR ⟨P, w, K, mg, base, N_full_set, defScope S_full_set, fun _ => true, k, tw, fun _ => True⟩ (defBody S_full_set) (k_full_set q_count_at) :=
  l_cons (s_set 2 nd_full_set (by rfl) (by first | exact Or.inl rfl | exact Or.inr ⟨rfl, rfl⟩) (r_bin od_add (EvR.b (r_int)) (EvR.b (r_bin od_mul (EvR.b (r_int)) (EvR.b (r_bin od_fdiv (EvR.b (r_bin od_sub (EvR.b (r_callB bd_len (by rfl) T.b_len (by rfl) (ab_cons (EvR.b (r_ix (vb 0) (EvR.b (r_int)))) (ab_nil)))) (EvR.b (r_int)))) (EvR.b (r_callB bd_max2 (by rfl) T.b_max (by rfl) (ab_cons (EvR.b (r_int)) (ab_cons (vb 1) (ab_nil))))))))))) (l_cons (s_own 3 nd_full_set (by rfl) (by first | exact Or.inl rfl | exact Or.inr ⟨rfl, rfl⟩) (r_lst (a_cons (r_tup (a_cons (r_tup (a_nil)) (a_cons (r_int) (a_cons (r_int) (a_nil))))) (a_nil)))) (l_cons (s_for (i_range1 (by rfl) T.b_range (r_ix (vb 0) (EvR.b (r_int)))) (gn 4 nd_full_set) (l_cons (s_setLcO (own := [("one", 12), ("other", 13)]) 6 nd_full_set (by rfl) (by rfl) (by rfl) (by rfl) (i_seq (r_ix (vb 0) (EvR.b (r_int)))) (g_tup (gs_cons (gn 12 nd_full_set) (gs_cons (gn 13 nd_full_set) (gs_nil)))) (by decide) (.one (t_cmp cd_eq (vb 13) (vb 4) (by rfl))) (v 12) (by rfl) (by rfl)) (l_rel 6 (l_cons (s_set 7 nd_full_set (by rfl) (by first | exact Or.inl rfl | exact Or.inr ⟨rfl, rfl⟩) (r_bin od_sub (vb 1) (EvR.b (r_call c_count_at (Nat.le_refl _) (by rfl) (a_cons (v 0) (a_cons (v 4) (a_nil))))))) (l_cons (s_own 8 nd_full_set (by rfl) (by first | exact Or.inl rfl | exact Or.inr ⟨rfl, rfl⟩) (r_lst (a_nil))) (l_cons (s_forO 3 (rdl 3) (g_tup (gs_cons (gn 9 nd_full_set) (gs_cons (gn 10 nd_full_set) (gs_cons (gn 11 nd_full_set) (gs_nil))))) (l_cons (s_if (TwR.t (t_and (t_cmp cd_lt (EvR.b (r_callB bd_len (by rfl) T.b_len (by rfl) (ab_cons (vb 9) (ab_nil)))) (vb 2) (by rfl)) (t_and1 (t_cmp cd_lt (EvR.b (r_bin od_add (vb 10) (vb 7))) (EvR.b (r_bin od_sub (vb 1) (EvR.b (r_int)))) (by rfl))))) (l_cons (s_app 8 (rdl 8) (r_tup (a_cons (r_bin od_add (vb 9) (EvR.b (r_tup (a_cons (v 4) (a_nil))))) (a_cons (r_bin od_add (vb 10) (vb 7)) (a_cons (r_bin od_add (vb 11) (EvR.b (r_callB bd_len (by rfl) T.b_len (by rfl) (ab_cons (EvR.b (EvF.r (r_lc (own := [("one", 12)]) nd_full_set (by rfl) (i_seq (v 6)) (gn 12 nd_full_set) (by decide) (.one (t_cmp cd_in (vb 12) (vb 9) (by rfl))) (v 12)))) (ab_nil))))) (a_nil))))) ⟨fun _ => rfl, fun _ => rfl, rfl⟩) (l_nil)) (l_nil)) (l_nil))) (l_cons (s_ext 3 (rdl 3) (vb 8) ⟨fun _ => rfl, fun _ => rfl, rfl⟩) (l_nil)))))))) (l_rel 3 (l_cons (s_setLcO (own := [("some", 9), ("lacked", 10), ("inside", 11)]) 5 nd_full_set (by rfl) (by rfl) (by rfl) (by rfl) (i_seq (v 3)) (g_tup (gs_cons (gn 9 nd_full_set) (gs_cons (gn 10 nd_full_set) (gs_cons (gn 11 nd_full_set) (gs_nil))))) (by decide) (.one (TwR.t (t_and (t_cmp cd_eq (EvR.b (r_bin od_mod (EvR.b (r_callB bd_len (by rfl) T.b_len (by rfl) (ab_cons (vb 9) (ab_nil)))) (EvR.b (r_int)))) (EvR.b (r_int)) (by rfl)) (t_and1 (t_cmp cd_gt (vb 11) (EvR.b (r_bin od_mul (vb 1) (EvR.b (r_bin od_fdiv (EvR.b (r_callB bd_len (by rfl) T.b_len (by rfl) (ab_cons (vb 9) (ab_nil)))) (EvR.b (r_int)))))) (by rfl)))))) (v 9) (by rfl) (by rfl)) (l_rel 5 (l_cons (s_ret (r_minKL (by rfl) T.b_min (by rfl) T.b_len (vb 5))) (l_nil)))))))
abbrev S_fewest : Stmt := topS 73
abbrev N_fewest : List Str := ["web", "number", "paper", "whole", "shown", "tree"]
theorem nd_fewest : (N_fewest).Nodup := by decide +kernel
theorem b_fewest {K : PySem.W.Frag} {f : Addr} {fd : FuncData} (F : Fun K "fewest" "fewest" S_fewest f fd) : Binds K fd ["web"] [] := F.binds (ps := ["web"]) fun _ _ _ _ _ _ us hl => match us, hl with | [_], _ => rfl
theorem sc_fewest : FnScope N_fewest ["web"] (defScope S_fewest) := ⟨rfl, rfl, rfl, nd_fewest, rfl, by decide +kernel, by decide +kernel⟩
def k_fewest (cSearch : Addr) (q_most_at q_paper_by_place q_paper_by_set q_Search_goes_on : PSp) (q_mkSearch : List D → (D → D → Prop) → Prop) : KS := kSeq (kSet 1 (kCall q_most_at (kCons (kVar 0) (kNil)))) (kSeq (kSet 2 (kCall q_paper_by_place (kCons (kVar 0) (kNil)))) (kSeq (kSet 3 (kC .non)) (kSeq (ksWhile (kCmpT isP (kVarB 3) (kC .non)) (kSeq (kSet 4 (kCall q_paper_by_set (kCons (kVar 0) (kCons (kVar 1) (kNil))))) (kSeq (ksIf (kCmpT isP (kVarB 4) (kC .non)) (kSeq (kTgt (kMeth cSearch "goes_on" q_Search_goes_on (kMake cSearch "near" "below" q_mkSearch (kCons (kVar 0) (kCons (kVar 1) (kNil)))) (kCons (kBin mulP (kF (kLst (kCons (kC .non) (kNil)))) (kCall lenP (kCons (kBin ixP (kVarB 0) (kC (.int 1))) (kNil)))) (kNil))) (gkTup 2 (gkCons (gkName 3) (gkCons (gkName 5) (gkNil))))) (kSeq (kSet 4 (kTup (kCons (kC (.str "tree")) (kCons (kVar 5) (kNil))))) (kNext))) (kNext)) (kSeq (ksIf (kCmpT isP (kVarB 3) (kC .non)) (kSeq (kSet 2 (kVar 4)) (kSeq (kAugA 1 (kC (.int 1))) (kNext))) (kNext)) (kNext))))) (kSeq (kRet (kTup (kCons (kVar 1) (kCons (kVar 3) (kCons (kVar 2) (kNil)))))) (kNext)))))
theorem d_fewest {q_most_at q_paper_by_place q_paper_by_set q_Search_goes_on : PSp} {q_mkSearch : List D → (D → D → Prop) → Prop} (T : Tx K mg) (c_most_at : Callee P w K mg base k "most_at" q_most_at) (c_paper_by_place : Callee P w K mg base k "paper_by_place" q_paper_by_place) (c_paper_by_set : Callee P w K mg base k "paper_by_set" q_paper_by_set) (TSearch : TcSearch K cSearch) (m_Search_goes_on : CalleeM P w K mg base k cSearch "goes_on" q_Search_goes_on) {kSearch : Nat} (hkSearch : kSearch + 1 ≤ k) (mk_Search : MakeOk P w K mg base kSearch "Search" cSearch "near" "below" q_mkSearch) : SlR ⟨P, w, K, mg, base, N_fewest, defScope S_fewest, fun _ => true, k, tw, fun _ => True⟩ (defBody S_fewest) (k_fewest cSearch q_most_at q_paper_by_place q_paper_by_set q_Search_goes_on q_mkSearch) :=
  l_cons (s_set 1 nd_fewest (by rfl) (by first | exact Or.inl rfl | exact Or.inr ⟨rfl, rfl⟩) (r_call c_most_at (Nat.le_refl _) (by rfl) (a_cons (v 0) (a_nil)))) (l_cons (s_set 2 nd_fewest (by rfl) (by first | exact Or.inl rfl | exact Or.inr ⟨rfl, rfl⟩) (r_call c_paper_by_place (Nat.le_refl _) (by rfl) (a_cons (v 0) (a_nil)))) (l_cons (s_set 3 nd_fewest (by rfl) (by first | exact Or.inl rfl | exact Or.inr ⟨rfl, rfl⟩) (r_non)) (l_cons (s_while (t_cmp cd_is (vb 3) (EvR.b (r_non)) (by rfl)) (l_cons (s_set 4 nd_fewest (by rfl) (by first | exact Or.inl rfl | exact Or.inr ⟨rfl, rfl⟩) (r_call c_paper_by_set (Nat.le_refl _) (by rfl) (a_cons (v 0) (a_cons (v 1) (a_nil))))) (l_cons (s_if (t_cmp cd_is (vb 4) (EvR.b (r_non)) (by rfl)) (l_cons (s_tgt (r_meth TSearch.cls m_Search_goes_on (Nat.le_refl _) (r_make mk_Search hkSearch (by rfl) (a_cons (v 0) (a_cons (v 1) (a_nil)))) (a_cons (r_bin od_mul (EvR.b (EvF.r (r_lst (a_cons (r_non) (a_nil))))) (EvR.b (r_callB bd_len (by rfl) T.b_len (by rfl) (ab_cons (EvR.b (r_ix (vb 0) (EvR.b (r_int)))) (ab_nil))))) (a_nil))) (g_tup (gs_cons (gn 3 nd_fewest) (gs_cons (gn 5 nd_fewest) (gs_nil))))) (l_cons (s_set 4 nd_fewest (by rfl) (by first | exact Or.inl rfl | exact Or.inr ⟨rfl, rfl⟩) (r_tup (a_cons (gs T.t_TREE) (a_cons (v 5) (a_nil))))) (l_nil))) (l_nil)) (l_cons (s_if (t_cmp cd_is (vb 3) (EvR.b (r_non)) (by rfl)) (l_cons (s_set 2 nd_fewest (by rfl) (by first | exact Or.inl rfl | exact Or.inr ⟨rfl, rfl⟩) (v 4)) (l_cons (s_augA 1 nd_fewest (by rfl) (by first | exact Or.inl rfl | exact Or.inr ⟨rfl, rfl⟩) (r_int)) (l_nil))) (l_nil)) (l_nil))))) (l_cons (s_ret (r_tup (a_cons (v 1) (a_cons (v 3) (a_cons (v 2) (a_nil)))))) (l_nil)))))
abbrev S_from_lists : Stmt := topS 79
abbrev N_from_lists : List Str := ["web", "lists", "hunt", "row", "places", "tree"]
theorem nd_from_lists : (N_from_lists).Nodup := by decide +kernel
theorem b_from_lists {K : PySem.W.Frag} {f : Addr} {fd : FuncData} (F : Fun K "from_lists" "from_lists" S_from_lists f fd) : Binds K fd ["web", "lists"] [] := F.binds (ps := ["web", "lists"]) fun _ _ _ _ _ _ us hl => match us, hl with | [_, _], _ => rfl
theorem sc_from_lists : FnScope N_from_lists ["web", "lists"] (defScope S_from_lists) := ⟨rfl, rfl, rfl, nd_from_lists, rfl, by decide +kernel, by decide +kernel⟩
def k_from_lists (cLists : Addr) (q_parts q_within q_Lists_whole_from : PSp) (q_mkLists : List D → (D → D → Prop) → Prop) : KS := kSeq (kSet 2 (kMake cLists "beside" "own_lists" q_mkLists (kCons (kVar 0) (kCons (kVar 1) (kNil))))) (kSeq (kSet 3 (kBin mulP (kF (kLst (kCons (kC .non) (kNil)))) (kCall lenP (kCons (kBin ixP (kVarB 0) (kC (.int 1))) (kNil))))) (kSeq (ksFor (kItS (kCall q_parts (kCons (kVar 0) (kNil)))) (gkName 4) (kSeq (kTgt (kMeth cLists "whole_from" q_Lists_whole_from (kVar 2) (kCons (kVar 3) (kCons (kCall q_within (kCons (kVar 0) (kCons (kVar 4) (kNil)))) (kNil)))) (gkTup 2 (gkCons (gkName 3) (gkCons (gkName 5) (gkNil))))) (kSeq (ksIf (kCmpT isP (kVarB 3) (kC .non)) (kSeq (kRet (kTup (kCons (kC (.str "none")) (kCons (kVar 5) (kNil))))) (kNext)) (kNext)) (kNext)))) (kSeq (kRet (kTup (kCons (kC (.str "hueing")) (kCons (kVar 3) (kNil))))) (kNext))))
theorem d_from_lists {q_parts q_within q_Lists_whole_from : PSp} {q_mkLists : List D → (D → D → Prop) → Prop} (T : Tx K mg) (c_parts : Callee P w K mg base k "parts" q_parts) (c_within : Callee P w K mg base k "within" q_within) (TLists : TcLists K cLists) (m_Lists_whole_from : CalleeM P w K mg base k cLists "whole_from" q_Lists_whole_from) {kLists : Nat} (hkLists : kLists + 1 ≤ k) (mk_Lists : MakeOk P w K mg base kLists "Lists" cLists "beside" "own_lists" q_mkLists) : SlR ⟨P, w, K, mg, base, N_from_lists, defScope S_from_lists, fun _ => true, k, tw, fun _ => True⟩ (defBody S_from_lists) (k_from_lists cLists q_parts q_within q_Lists_whole_from q_mkLists) :=
  l_cons (s_set 2 nd_from_lists (by rfl) (by first | exact Or.inl rfl | exact Or.inr ⟨rfl, rfl⟩) (r_make mk_Lists hkLists (by rfl) (a_cons (v 0) (a_cons (v 1) (a_nil))))) (l_cons (s_set 3 nd_from_lists (by rfl) (by first | exact Or.inl rfl | exact Or.inr ⟨rfl, rfl⟩) (r_bin od_mul (EvR.b (EvF.r (r_lst (a_cons (r_non) (a_nil))))) (EvR.b (r_callB bd_len (by rfl) T.b_len (by rfl) (ab_cons (EvR.b (r_ix (vb 0) (EvR.b (r_int)))) (ab_nil)))))) (l_cons (s_for (i_seq (r_call c_parts (Nat.le_refl _) (by rfl) (a_cons (v 0) (a_nil)))) (gn 4 nd_from_lists) (l_cons (s_tgt (r_meth TLists.cls m_Lists_whole_from (Nat.le_refl _) (v 2) (a_cons (v 3) (a_cons (r_call c_within (Nat.le_refl _) (by rfl) (a_cons (v 0) (a_cons (v 4) (a_nil)))) (a_nil)))) (g_tup (gs_cons (gn 3 nd_from_lists) (gs_cons (gn 5 nd_from_lists) (gs_nil))))) (l_cons (s_if (t_cmp cd_is (vb 3) (EvR.b (r_non)) (by rfl)) (l_cons (s_ret (r_tup (a_cons (gs T.t_NONE) (a_cons (v 5) (a_nil))))) (l_nil)) (l_nil)) (l_nil)))) (l_cons (s_ret (r_tup (a_cons (gs T.t_HUEING) (a_cons (v 3) (a_nil))))) (l_nil))))
end
end U
set_option Elab.async false
set_option linter.all false
set_option maxRecDepth 100000
set_option maxHeartbeats 4000000
namespace U
open PySem PySem.Spec PyProof.Rows L2
/-- the frame of next_tie -/
def EvT (K : PySem.W.Frag) (env : Env) : Prop := env.code = .ref (He.cT K ("Lists", some "next_tie")).1 ∧ env.qual ++ "<lambda>" = TQ
structure LoT (K : PySem.W.Frag) (C : Addr) (st : Stmt) : Prop where
  ex : ∃ f fd, Meth K C "next_tie" f ∧ Fun K "next_tie" "Lists.next_tie" st f fd ∧ f = He.fAd K ("Lists", some "next_tie")
theorem mk_calleeT {P : Program} {w : World} {K : PySem.W.Frag} {mg : Str → Option Value} {base : Heap} {k : Nat} {C : Addr} {st : Stmt} {N ps : List Str} {q : PSp} {kb : KS} (L : LoT K C st) (sc : FnScope N ps (defScope st)) (hb : ∀ {f fd}, Fun K "next_tie" "Lists.next_tie" st f fd → Binds K fd ps [])
    (hd : ∀ tw, SlR ⟨P, w, K, mg, base, N, defScope st, fun _ => true, k, tw, EvT K⟩ (defBody st) kb) (hq : ∀ ds P, q ds P → ds.length = ps.length) (hv : ∀ ds P, q ds P → kb (startP N ds) (fun _ => P .non) P) : CalleeM P w K mg base (k + 1) C "next_tie" q := by
  obtain ⟨f, fd, h1, F, hf⟩ := L.ex
  have B := hb F
  obtain ⟨oc, od, kV, doc, pm, an, cdv, ct, osl, rfl, lk, hcd⟩ := F.ex
  obtain ⟨c, rfl⟩ := He.codeIn_ref hcd
  have hc : (He.cT K ("Lists", some "next_tie")).1 = c := by
    refine He.codeOf_eq (c := c) (by rw [← hf]; exact lk) rfl
  refine ⟨f, _, ps, h1, B, fn_of lk hcd sc (fun vs H Q E h => ?_) fun A outer s H vs Q E hr h => ?_⟩
  · obtain ⟨tw, m, ds, P', _, _, _, r, h, _⟩ := h
    rw [r.1]; exact hq ds P' h
  · obtain ⟨tw, m, ds, P', al, tp, tb, r, h, fin⟩ := h
    refine ⟨_, PSs.nox psl_w, ?_⟩
    have ok : XOk ⟨P, w, K, mg, base, N, defScope st, fun _ => true, k, tw, EvT K⟩ (cxOf CX0 P w K mg base N "Lists.next_tie" (defScope st) f (.ref c) A outer s H E).nox := ⟨rfl, rfl, rfl, rfl, rfl, rfl, rfl, rfl, rfl, hr, rfl, by rw [hc]; rfl, by first | rfl | decide +kernel⟩
    have rs := start_rs (P := P) (w := w) (K := K) (mg := mg) (base := base) (N := N) (sc := defScope st) (k := k) al tp tb r
    have rs' : RS ⟨P, w, K, mg, base, N, defScope st, fun _ => true, k, tw, EvT K⟩ m H H (L2.start N vs) (startP N ds) := ⟨⟨rs.re.len, rs.re.rel, rs.re.al, rs.re.tp, rs.re.tb⟩, rs.sep, rs.fr, rs.ex, rs.t0, rs.a0⟩
    exact wL_mono (hd tw _ ok m H H (L2.start N vs) (startP N ds) _ _ rs' (hv ds P' h)) ⟨fun σ1 H1 ⟨ρ1, n1, r1, s1⟩ => fin _ _ _ n1 r1.ex .non, fun v H1 ⟨d, p, e, q⟩ => fin v H1 d p e q, fun _ _ z => z, fun _ _ z => z⟩
section
variable {P : Program} {w : World} {K : PySem.W.Frag} {mg : Str → Option Value} {base : Heap} {k : Nat} {tw : AD} {cSearch cLists : Addr}
abbrev S_Lists_next_tie : Stmt := clsS 78 2
abbrev N_Lists_next_tie : List Str := ["self", "row", "ties", "bare", "tie"]
theorem nd_Lists_next_tie : (N_Lists_next_tie).Nodup := by decide +kernel
theorem b_Lists_next_tie {K : PySem.W.Frag} {f : Addr} {fd : FuncData} (F : Fun K "next_tie" "Lists.next_tie" S_Lists_next_tie f fd) : Binds K fd ["self", "row", "ties"] [] := F.binds (ps := ["self", "row", "ties"]) fun _ _ _ _ _ _ us hl => match us, hl with | [_, _, _], _ => rfl
theorem sc_Lists_next_tie : FnScope N_Lists_next_tie ["self", "row", "ties"] (defScope S_Lists_next_tie) := ⟨rfl, rfl, rfl, nd_Lists_next_tie, rfl, by decide +kernel, by decide +kernel⟩
def k_lam (cLists : Addr) (q_left : PSp) : KE := kTup (kCons (kCall lenP (kCons (kMeth cLists "left_for" q_left (kVar 1) (kCons (kVar 2) (kCons (kVar 0) (kNil)))) (kNil))) (kCons (kNeg (kCall lenP (kCons (kBin ixP (kFldC cLists "beside" (kVar 1)) (kVarB 0)) (kNil)))) (kNil)))
def k_Lists_next_tie (cLists : Addr) (q_left : PSp) : KS := kSeq (kOwn 3 (kLc (kItS (kVar 2)) (gkName 4) (kCmpT isP (kBin ixP (kVarB 1) (kVarB 4)) (kC .non)) (kVar 4) [4])) (kRel 3 (kSeq (kRet (kIf (kCmpT neP (kVarB 3) (kF (kLst (kNil)))) (kMinLam (kVarB 3) [0, 1] (k_lam cLists q_left)) (kC .non))) (kNext)))
theorem d_Lists_next_tie {q_left : PSp} (T : Tx K mg) (TLists : TcLists K cLists) (TB : LamX.TabB base mg (He.cT K ("Lists", some "next_tie")).1 (TbK K)) (m_left : CalleeM P w K mg base k cLists "left_for" q_left) : SlR ⟨P, w, K, mg, base, N_Lists_next_tie, defScope S_Lists_next_tie, fun _ => true, k + 2, tw, EvT K⟩ (defBody S_Lists_next_tie) (k_Lists_next_tie cLists q_left) :=
  l_cons (s_setLcO (own := [("tie", 4)]) 3 nd_Lists_next_tie (by rfl) (by rfl) (by rfl) (by rfl) (i_seq (v 2)) (gn 4 nd_Lists_next_tie) (by decide) (.one (t_cmp cd_is (EvR.b (r_ix (vb 1) (vb 4))) (EvR.b (r_non)) (by rfl))) (v 4) (by rfl) (by rfl)) (l_rel 3 (l_cons (s_ret (r_if (t_cmp cd_ne (vb 3) (EvR.b (EvF.r (r_lst (a_nil)))) (by rfl)) (r_minLam (N := ["tie", "self", "row"]) (fr := ["self", "row"]) (js := [0, 1]) (by rfl) T.b_min (vb 3) (Nat.le_refl _) (NdefX.nscope_by (by decide +kernel)) (by rfl) (by rfl) (NdefX.ndef_free (sc := defScope S_Lists_next_tie) (fr := ["self", "row"]) (by decide +kernel)) (NdefX.ndef_fr (sc := defScope S_Lists_next_tie) (by decide +kernel)) (fun _ => rfl) (fun _ _ _ _ _ us hl => match us, hl with | [_], _ => rfl) TB (fun env h => h) (r_tup (a_cons (r_callB bd_len (by rfl) T.b_len (by rfl) (ab_cons (EvR.b (r_meth TLists.cls m_left (Nat.le_refl _) (v 1) (a_cons (v 2) (a_cons (v 0) (a_nil))))) (ab_nil))) (a_cons (r_neg (r_callB bd_len (by rfl) T.b_len (by rfl) (ab_cons (EvR.b (r_ix (EvR.b (r_fldC TLists.cls TLists.na_beside (v 1))) (vb 0))) (ab_nil)))) (a_nil))))) (r_non))) (l_nil)))
end
end U
set_option Elab.async false
set_option linter.all false
set_option maxRecDepth 100000
set_option maxHeartbeats 4000000
namespace U
open PySem PySem.Spec PyProof.Rows L2
/-! ### a def that tells a new list -/
def toSpF (K : PySem.W.Frag) (q : FSp) : Sp := fun vs H Q _ => ∃ (w m : AD) (ds : List D) (P : List D → Prop), (∀ a, m a → Al H a) ∧ (∀ a, w a → m a ∧ TapeAt H a) ∧ Tbs K H ∧ Reps K w m H vs ds ∧ q ds P ∧ ∀ p us H' es, P es → Ex w H H' → Fr0 H p → ¬ m p → H' p = some (.lst us) → Reps K w (plus m p) H' us es → Q (.ref p) H'
structure CalleeF (P : Program) (w : World) (K : PySem.W.Frag) (mg : Str → Option Value) (base : Heap) (k : Nat) (x : Str) (q : FSp) : Prop where
  ex : ∃ (f : Addr) (fd : FuncData) (ps : List Str), mg x = some (.ref f) ∧ PySem.W.keepIn K (.ref f) = true ∧ Binds K fd ps [] ∧ FnOk P w K mg base CX0 k f fd ps (toSpF K q)
theorem CalleeF.mono {P : Program} {w : World} {K : PySem.W.Frag} {mg : Str → Option Value} {base : Heap} {j k : Nat} {x : Str} {q : FSp} (c : CalleeF P w K mg base j x q) (h : j ≤ k) : CalleeF P w K mg base k x q := by
  obtain ⟨f, fd, ps, h1, h2, h3, h4⟩ := c.ex
  exact ⟨f, fd, ps, h1, h2, h3, h4.mono h⟩
section
variable {S : Sta} {e : Expr} {es : List Expr} {ts : KA} {x : Str} {p pos : Pos} {st : Stmt} {rest : List Stmt} {t : KS} {te : KF}
theorem r_callF {k : Nat} {q : FSp} (hc : CalleeF S.P S.w S.K S.mg S.base k x q) (hk : k ≤ S.k) (hg : Glo S x) (ha : ArR S (e :: es) ts) (hdb : (x == ("__debug__" : Str)) = false := by decide) (ns : NS e := by intro _ _; rfl) (hpl : Plain es := by intro _ _; rfl) :
    EvF S (.Call (.Name x p) (e :: es) [] pos) (kCallF q ts) := by
  intro X ok m H σ ρ P r h
  obtain ⟨f, fd, ps, h1, h2, h3, h4⟩ := hc.ex
  have F : FnOk X.prog X.w X.K X.mg X.base CX0 k f fd ps (toSpF S.K q) := by rw [ok.prog, ok.w, ok.K, ok.mg, ok.base]; exact h4
  refine (pe_call F (ok.room.mono hk) (hg.gl ok) (by rw [ok.mg]; exact h1) (by rw [ok.K]; exact h2) (by rw [ok.K]; exact h3) .nil (pass0 (X := X)) pa_w hdb (ns _ _) (hpl _ _)).to ?_
  refine wA_mono (ha X ok m H σ ρ _ r h) fun vs H1 _ ⟨ds, p1, e1, q1⟩ => ?_
  have r1 := r.ex e1
  exact ⟨S.tw, m, ds, P, r1.al, r1.tp, r1.tb, by rw [List.append_nil]; exact q1, p1, fun pp us H' es hP e2 f2 n2 hl rs => ⟨es, hP, e1.trans e2, pp, us, rfl, f2.ex e1 fun b hb => (r.tp b hb).2, n2, hl, rs⟩⟩
/-- the ends of a body that tells a new list -/
def endsF (S : Sta) (m0 : AD) (H0 : Hp) (Rt : List D → Prop) : Ends where
  nx := fun _ _ => False
  rt := fun v H' => ∃ ds, Rt ds ∧ Ex S.tw H0 H' ∧ ∃ p vs, v = .ref p ∧ Fr0 H0 p ∧ ¬ m0 p ∧ H' p = some (.lst vs) ∧ Reps S.K S.tw (plus m0 p) H' vs ds
abbrev KSF := PSt → (List D → Prop) → Prop
def SlF (S : Sta) (sts : List Stmt) (t : KSF) : Prop := ∀ X, XOk S X → ∀ m0 H0 H σ ρ Rt, RS S m0 H0 H σ ρ → t ρ Rt → wL X sts (endsF S m0 H0 Rt) σ H
def kSeqF (t : KS) (u : KSF) : KSF := fun ρ Rt => t ρ (fun ρ' => u ρ' Rt) fun _ => False
theorem f_cons {u : KSF} (h1 : StR S st t) (h2 : SlF S rest u) : SlF S (st :: rest) (kSeqF t u) := by
  intro X ok m0 H0 H σ ρ Rt r h
  refine (pss_cons ps_w psl_w).to ?_
  refine wS_mono (h1 X ok m0 H0 H σ ρ _ _ r h) ⟨fun σ1 H1 ⟨ρ1, n1, r1, s1⟩ => ?_, fun _ _ ⟨_, z, _⟩ => z.elim, fun _ _ z => z.elim, fun _ _ z => z.elim⟩
  exact h2 X ok m0 H0 H1 σ1 ρ1 Rt r1 n1
theorem f_ret (he : EvF S e te) : SlF S [.Return (some e) pos] te := by
  intro X ok m0 H0 H σ ρ Rt r h
  refine (pss_one (ps_ret pe_w)).to (wE_mono (he X ok _ H σ ρ _ r.re h) fun v H1 _ ⟨ds, hR, e1, pp, vs, ev, f1, n1, hl, rs⟩ => ?_)
  exact ⟨ds, hR, r.ex.trans e1, pp, vs, ev, f1.ex r.ex fun b hb => (r.t0 b hb).2, fun z => n1 (.inl z), hl, rs.mono (fun b o hb hn _ => ⟨hb, fun z => hn (z.elim (fun z => .inl (.inl z)) .inr)⟩) fun _ h => h⟩
end
theorem mk_calleeF {P : Program} {w : World} {K : PySem.W.Frag} {mg : Str → Option Value} {base : Heap} {k : Nat} {x : Str} {st : Stmt} {N ps : List Str} {q : FSp} {kb : KSF} (L : ∃ f fd, mg x = some (.ref f) ∧ Fun K x x st f fd) (sc : FnScope N ps (defScope st)) (hb : ∀ {f fd}, Fun K x x st f fd → Binds K fd ps [])
    (hd : ∀ tw, SlF ⟨P, w, K, mg, base, N, defScope st, fun _ => true, k, tw, fun _ => True⟩ (defBody st) kb) (hq : ∀ ds P, q ds P → ds.length = ps.length) (hv : ∀ ds P, q ds P → kb (startP N ds) P) : CalleeF P w K mg base (k + 1) x q := by
  obtain ⟨f, fd, h1, F⟩ := L
  refine ⟨f, fd, ps, h1, F.kp, hb F, F.ok sc (fun vs H Q E h => ?_) fun cdv A outer s H vs Q E hr h => ?_⟩
  · obtain ⟨tw, m, ds, P', _, _, _, r, h, _⟩ := h
    rw [r.1]; exact hq ds P' h
  · obtain ⟨tw, m, ds, P', al, tp, tb, r, h, fin⟩ := h
    refine ⟨_, psl_w, ?_⟩
    have ok : XOk ⟨P, w, K, mg, base, N, defScope st, fun _ => true, k, tw, fun _ => True⟩ (cxOf CX0 P w K mg base N x (defScope st) f cdv A outer s H E).nox := ⟨rfl, rfl, rfl, rfl, rfl, rfl, rfl, rfl, rfl, hr, rfl, trivial⟩
    have rs := start_rs (P := P) (w := w) (K := K) (mg := mg) (base := base) (N := N) (sc := defScope st) (k := k) al tp tb r
    exact wL_mono (hd tw _ ok m H H (L2.start N vs) (startP N ds) _ rs (hv ds P' h)) ⟨fun _ _ z => z.elim, fun v H1 ⟨es, hP, e, pp, us, ev, f1, n1, hl, rs'⟩ => by rw [ev]; exact fin pp us H1 es hP e f1 n1 hl rs', fun _ _ z => z.elim, fun _ _ z => z.elim⟩
section
variable {P : Program} {w : World} {K : PySem.W.Frag} {mg : Str → Option Value} {base : Heap} {k : Nat} {tw : AD} {cSearch cLists : Addr}
abbrev S_law : Stmt := topS 101
abbrev N_law : List Str := ["_law_script", "_law_k", "_law_tape_here", "_law_web_here", "_law_other", "_law_number", "_law_row", "_law_paper", "_law_ties"]
theorem nd_law : (N_law).Nodup := by decide +kernel
theorem b_law {K : PySem.W.Frag} {f : Addr} {fd : FuncData} (F : Fun K "law" "law" S_law f fd) : Binds K fd ["_law_script"] [] := F.binds (ps := ["_law_script"]) fun _ _ _ _ _ _ us hl => match us, hl with | [_], _ => rfl
theorem sc_law : FnScope N_law ["_law_script"] (defScope S_law) := ⟨rfl, rfl, rfl, nd_law, rfl, by decide +kernel, by decide +kernel⟩
def k_law (q__law_tape : FSp) (q__law_any q_fewest q__law_paper_right q__law_some_right q_classes q__law_filled_right q_evened q_is_whole q_shows_fewest : PSp) : KS := kSeq (ksFor (kItR1 (kC (.int 2))) (gkName 1) (kSeq (kOwn 2 (kCallF q__law_tape (kCons (kVar 0) (kCons (kVar 1) (kNil))))) (kTape 2 (kSeq (kSet 3 (kCall q__law_any (kCons (kVar 2) (kNil)))) (kSeq (kTgt (kCall q_fewest (kCons (kVar 3) (kNil))) (gkTup 3 (gkCons (gkName 5) (gkCons (gkName 6) (gkCons (gkName 7) (gkNil)))))) (kSeq (ksIf (tkOr (tkNot (tkV (kCall q__law_paper_right (kCons (kVar 3) (kCons (kVar 5) (kCons (kVar 7) (kNil))))))) (tkNot (tkV (kCall q__law_some_right (kCons (kVar 2) (kCons (kVar 3) (kNil))))))) (kSeq (kRet (kC (.bl false))) (kNext)) (kNext)) (kSeq (ksIf (tkV (kCall anyP (kCons (kF (kLc (kItS (kCall q_classes (kCons (kVar 6) (kCons (kVar 5) (kNil))))) (gkName 8) (tkYes) (kCmp gtP (kBin mulP (kC (.int 2)) (kCall lenP (kCons (kVarB 8) (kNil)))) (kBin ixP (kVarB 3) (kC (.int 0)))) [8])) (kNil)))) (kSeq (kRet (kC (.bl false))) (kNext)) (kNext)) (kSeq (ksIf (tkAnd (kChain ltP ltP (kC (.int 0)) (kVarB 5) (kC (.int 6))) (kCmpT ltP (kCall lenP (kCons (kBin ixP (kVarB 3) (kC (.int 1))) (kNil))) (kC (.int 10)))) (kSeq (ksIf (tkOr (tkNot (tkV (kCall q__law_filled_right (kCons (kVar 3) (kCons (kVar 5) (kCons (kC (.str "hueing")) (kNil))))))) (tkNot (tkV (kCall q__law_filled_right (kCons (kVar 3) (kCons (kBin subP (kVarB 5) (kC (.int 1))) (kCons (kC (.str "none")) (kNil)))))))) (kSeq (kRet (kC (.bl false))) (kNext)) (kNext)) (kNext)) (kNext)) (kSeq (kSet 4 (kBin ixP (kCall q_evened (kCons (kVar 3) (kCons (kVar 6) (kCons (kVar 5) (kNil))))) (kC (.int 0)))) (kSeq (ksIf (tkOr (tkNot (tkV (kCall q_is_whole (kCons (kVar 3) (kCons (kVar 4) (kNil)))))) (kCmpT nisP (kCall q_shows_fewest (kCons (kVar 3) (kCons (kTup (kCons (kVar 5) (kCons (kVar 4) (kCons (kVar 7) (kNil))))) (kNil)))) (kC (.bl true)))) (kSeq (kRet (kC (.bl false))) (kNext)) (kNext)) (kNext))))))))))) (kSeq (kRet (kC (.bl true))) (kNext))
theorem d_law {q__law_tape : FSp} {q__law_any q_fewest q__law_paper_right q__law_some_right q_classes q__law_filled_right q_evened q_is_whole q_shows_fewest : PSp} (T : Tx K mg) (c__law_tape : CalleeF P w K mg base k "_law_tape" q__law_tape) (c__law_any : Callee P w K mg base k "_law_any" q__law_any) (c_fewest : Callee P w K mg base k "fewest" q_fewest) (c__law_paper_right : Callee P w K mg base k "_law_paper_right" q__law_paper_right) (c__law_some_right : Callee P w K mg base k "_law_some_right" q__law_some_right) (c_classes : Callee P w K mg base k "classes" q_classes) (c__law_filled_right : Callee P w K mg base k "_law_filled_right" q__law_filled_right) (c_evened : Callee P w K mg base k "evened" q_evened) (c_is_whole : Callee P w K mg base k "is_whole" q_is_whole) (c_shows_fewest : Callee P w K mg base k "shows_fewest" q_shows_fewest) : SlR ⟨P, w, K, mg, base, N_law, defScope S_law, fun _ => true, k, tw, fun _ => True⟩ (defBody S_law) (k_law q__law_tape q__law_any q_fewest q__law_paper_right q__law_some_right q_classes q__law_filled_right q_evened q_is_whole q_shows_fewest) :=
  l_cons (s_for (i_range1 (by rfl) T.b_range (r_int)) (gn 1 nd_law) (l_cons (s_own 2 nd_law (by rfl) (by first | exact Or.inl rfl | exact Or.inr ⟨rfl, rfl⟩) (r_callF c__law_tape (Nat.le_refl _) (by rfl) (a_cons (v 0) (a_cons (v 1) (a_nil))))) (l_tape 2 fun ta => (l_cons (s_set 3 nd_law (by rfl) (by first | exact Or.inl rfl | exact Or.inr ⟨rfl, rfl⟩) (r_call c__law_any (Nat.le_refl _) (by rfl) (a_cons (v 2) (a_nil)))) (l_cons (s_tgt (r_call c_fewest (Nat.le_refl _) (by rfl) (a_cons (v 3) (a_nil))) (g_tup (gs_cons (gn 5 nd_law) (gs_cons (gn 6 nd_law) (gs_cons (gn 7 nd_law) (gs_nil)))))) (l_cons (s_if (TwR.t (t_or (t_not (t_val (r_call c__law_paper_right (Nat.le_refl _) (by rfl) (a_cons (v 3) (a_cons (v 5) (a_cons (v 7) (a_nil))))))) (t_or1 (t_not (t_val (r_call c__law_some_right (Nat.le_refl _) (by rfl) (a_cons (v 2) (a_cons (v 3) (a_nil))))))))) (l_cons (s_ret (r_bl)) (l_nil)) (l_nil)) (l_cons (s_if (t_val (r_callB bd_any (by rfl) T.b_any (by rfl) (ab_cons (EvR.b (EvF.r (r_lc (own := [("_law_ties", 8)]) nd_law (by rfl) (i_seq (r_call c_classes (Nat.le_refl _) (by rfl) (a_cons (v 6) (a_cons (v 5) (a_nil))))) (gn 8 nd_law) (by decide) (.nil) (r_cmp cd_gt (EvR.b (r_bin od_mul (EvR.b (r_int)) (EvR.b (r_callB bd_len (by rfl) T.b_len (by rfl) (ab_cons (vb 8) (ab_nil)))))) (EvR.b (r_ix (vb 3) (EvR.b (r_int)))) (by rfl))))) (ab_nil)))) (l_cons (s_ret (r_bl)) (l_nil)) (l_nil)) (l_cons (s_if (TwR.t (t_and (t_chain cd_lt cd_lt (EvR.b (r_int)) (vb 5) (EvR.b (r_int))) (t_and1 (t_cmp cd_lt (EvR.b (r_callB bd_len (by rfl) T.b_len (by rfl) (ab_cons (EvR.b (r_ix (vb 3) (EvR.b (r_int)))) (ab_nil)))) (EvR.b (r_int)) (by rfl))))) (l_cons (s_if (TwR.t (t_or (t_not (t_val (r_call c__law_filled_right (Nat.le_refl _) (by rfl) (a_cons (v 3) (a_cons (v 5) (a_cons (r_str) (a_nil))))))) (t_or1 (t_not (t_val (r_call c__law_filled_right (Nat.le_refl _) (by rfl) (a_cons (v 3) (a_cons (r_bin od_sub (vb 5) (EvR.b (r_int))) (a_cons (r_str) (a_nil)))))))))) (l_cons (s_ret (r_bl)) (l_nil)) (l_nil)) (l_nil)) (l_nil)) (l_cons (s_set 4 nd_law (by rfl) (by first | exact Or.inl rfl | exact Or.inr ⟨rfl, rfl⟩) (r_ix (EvR.b (r_call c_evened (Nat.le_refl _) (by rfl) (a_cons (v 3) (a_cons (v 6) (a_cons (v 5) (a_nil)))))) (EvR.b (r_int)))) (l_cons (s_if (TwR.t (t_or (t_not (t_val (r_call c_is_whole (Nat.le_refl _) (by rfl) (a_cons (v 3) (a_cons (v 4) (a_nil)))))) (t_or1 (t_cmp cd_nis (EvR.b (r_call c_shows_fewest (Nat.le_refl _) (by rfl) (a_cons (v 3) (a_cons (r_tup (a_cons (v 5) (a_cons (v 4) (a_cons (v 7) (a_nil))))) (a_nil))))) (EvR.b (r_bl)) (by rfl))))) (l_cons (s_ret (r_bl)) (l_nil)) (l_nil)) (l_nil))))))))))) (l_cons (s_ret (r_bl)) (l_nil))
end
end U
set_option Elab.async false
set_option linter.all false
set_option maxRecDepth 100000
set_option maxHeartbeats 4000000
namespace U
open PySem PySem.Spec PyProof.Rows L2
/-! ### an __init__ that lays two fields -/
theorem Rep.off {K : PySem.W.Frag} {w m : AD} {H : Hp} {v : V} {d : D} {a C dx : Addr} {fs : List (Str × V)} (n : NoTp d) (h : H a = some (.ins C dx fs)) (r : Rep K w m H v d) : Rep K w (plus m a) H v d := by
  have ne : ∀ {b : Addr} {o : HO}, H b = some o → (∀ C dx fs, o ≠ .ins C dx fs) → b ≠ a := fun {b o} hb hn z => by
    rw [z, h] at hb
    exact hn _ _ _ (Option.some.inj hb).symm
  induction n generalizing v with
  | non => cases r; exact .non
  | bl b => cases r; exact .bl b
  | int i => cases r; exact .int i
  | str x => cases r; exact .str x
  | scr ns => cases r with
    | scr h2 =>
      rcases h2 with ⟨h2, n2⟩ | h2
      · refine .scr (.inl ⟨h2, fun z => z.elim n2 fun z => ?_⟩)
        rcases h2 with h3 | ⟨o, h3⟩
        · exact ne h3 (fun _ _ _ e => by cases e) z
        · exact ne h3 (fun _ _ _ e => by cases e) z
      · exact .scr (.inr h2)
  | tup h0 ih => cases r with
    | tup h1 h2 h3 h4 => exact .tup h1 (fun z => z.elim h2 (ne h1 fun _ _ _ e => by cases e)) h3 fun i v d a b => ih d (List.mem_of_getElem? b) (h4 i v d a b)
  | lst h0 ih => cases r with
    | lst h1 h2 h3 h4 => exact .lst h1 (fun z => z.elim h2 (ne h1 fun _ _ _ e => by cases e)) h3 fun i v d a b => ih d (List.mem_of_getElem? b) (h4 i v d a b)
/-- the heap with an instance's fields written -/
theorem ex_ins {w : AD} {H0 H1 : Hp} {a C dx : Addr} {fs gs : List (Str × V)} (e : Ex w H0 H1) (n : H0 a = none) (h : H1 a = some (.ins C dx fs)) : Ex w H0 (upd H1 a (.ins C dx gs)) := by
  refine ⟨fun b o hb hn ht => by rw [upd_ne (ne_of_none hb n)]; exact e.keep b o hb hn ht, fun b hb hT => ?_, fun P hT => tab_upd (e.tab P hT) ⟨_, h, fun _ z => (by cases z), fun _ _ z => (by unfold LamX.CodeO at z; cases z)⟩⟩
  obtain ⟨i, j, q⟩ := e.tape b hb hT
  obtain ⟨i0, j0, q0⟩ := hT
  exact ⟨i, j, by rw [upd_ne (ne_of_none q0 n)]; exact q⟩
section
variable {P : Program} {w : World} {K : PySem.W.Frag} {mg : Str → Option Value} {base : Heap} {k : Nat}
/-- what the class's name, its methods, its __init__ give -/
structure LoI (K : PySem.W.Frag) (mg : Str → Option Value) (x : Str) (C : Addr) (qual : Str) (st : Stmt) : Prop where
  ex : ∃ f fd, mg x = some (.ref C) ∧ Mk K C f ∧ Fun K "__init__" qual st f fd
def Sta0 (P : Program) (w : World) (K : PySem.W.Frag) (mg : Str → Option Value) (base : Heap) (N : List Str) (sc : Scope) (k : Nat) (tw : AD) : Sta := ⟨P, w, K, mg, base, N, sc, fun _ => true, k, tw, fun _ => True⟩
theorem mk_make {x qual f1 g1 a1 a2 : Str} {C : Addr} {st : Stmt} {N : List Str} {q : List D → (D → D → Prop) → Prop} {t1 t2 : KE} {e1 e2 : Expr} {p1 p2 p3 q1 q2 q3 : Pos} {more : List Str} (L : LoI K mg x C qual st) (cl : Cls K C) (n1 : NoAttr K C f1) (n2 : NoAttr K C g1) (hN : N = ("self" : Str) :: a1 :: a2 :: more) (sc : FnScope N ["self", a1, a2] (defScope st)) (hb : ∀ {f fd}, Fun K "__init__" qual st f fd → Binds K fd ["self", a1, a2] [])
    (hst : defBody st = [.Assign [.Attribute (.Name "self" p1) f1 p2] e1 p3, .Assign [.Attribute (.Name "self" q1) g1 q2] e2 q3]) (hv : Vis (defScope st) "self") (d1 : ∀ tw, EvR (Sta0 P w K mg base N (defScope st) k tw) e1 t1) (d2 : ∀ tw, EvR (Sta0 P w K mg base N (defScope st) k tw) e2 t2)
    (hs1 : ∀ env, swapsWith e1 (some (.Attribute (.Name "self" p1) f1 p2)) p3.line env = pure false) (hs2 : ∀ env, swapsWith e2 (some (.Attribute (.Name "self" q1) g1 q2)) q3.line env = pure false) (hp1 : ∀ v, putF f1 v [] = [(f1, v)]) (hp2 : ∀ v u, putF g1 u [(f1, v)] = [(f1, v), (g1, u)])
    (hl : ∀ ds R, q ds R → ∃ x y, ds = [x, y]) (hq : ∀ x y R, q [x, y] R → t1 (.any :: .p x :: .p y :: more.map fun _ => .any) fun d1 => NoTp d1 ∧ t2 (.any :: .p x :: .p y :: more.map fun _ => .any) fun d2 => NoTp d2 ∧ R d1 d2) : MakeOk P w K mg base (k + 1) x C f1 g1 q := by
  obtain ⟨f, fd, hmg, hM, F⟩ := L.ex
  refine ⟨f, fd, ["self", a1, a2], fun vs H Q _ => ∃ (tw m : AD) (H0 : Hp) (us : List V) (ds : List D) (R : D → D → Prop) (a dx : Addr), vs = .ref a :: us ∧ H = upd (upd H0 dx (.own a)) a (.ins C dx []) ∧ (∀ a, m a → Al H0 a) ∧ (∀ a, tw a → m a ∧ TapeAt H0 a) ∧ Tbs K H0 ∧ Reps K tw m H0 us ds ∧ q ds R ∧ H0 a = none ∧ H0 dx = none ∧ dx ≠ a ∧
    (∀ u1 u2 d1 d2 H', R d1 d2 → Ex tw H0 H' → H' a = some (.ins C dx [(f1, u1), (g1, u2)]) → Rep K tw (plus m a) H' u1 d1 → Rep K tw (plus m a) H' u2 d2 → Q .non H'), hmg, hM, hb F, ?_, fun tw m H vs ds R Q a dx al tp tb rs hq0 ha hdx hne hc => ⟨tw, m, H, vs, ds, R, a, dx, rfl, rfl, al, tp, tb, rs, hq0, ha, hdx, hne, hc⟩⟩
  refine F.ok sc (fun vs H Q E h => ?_) fun cdv A outer s H vs Q E hr h => ?_
  · obtain ⟨tw, m, H0, us, ds, R, a, dx, rfl, _, _, _, _, r, hq0, _⟩ := h
    obtain ⟨x, y, rfl⟩ := hl ds R hq0
    rw [List.length_cons, r.1]; rfl
  · obtain ⟨tw, m, H0, us, ds, R, a, dx, rfl, rfl, al, tp, tb, rs, hq0, ha, hdx, hne, hc⟩ := h
    obtain ⟨x', y', rfl⟩ := hl ds R hq0
    obtain ⟨v1, us, rfl, r1, rs⟩ := rs.uncons
    obtain ⟨v2, us, rfl, r2, rs⟩ := rs.uncons
    have eu := rs.eq_nil
    subst eu
    refine ⟨_, psl_w, ?_⟩
    have ok : XOk (Sta0 P w K mg base N (defScope st) k tw) (cxOf CX0 P w K mg base N qual (defScope st) f cdv A outer s (upd (upd H0 dx (.own a)) a (.ins C dx [])) E).nox := ⟨rfl, rfl, rfl, rfl, rfl, rfl, rfl, rfl, rfl, hr, rfl, trivial⟩
    generalize hX : (cxOf CX0 P w K mg base N qual (defScope st) f cdv A outer s (upd (upd H0 dx (.own a)) a (.ins C dx [])) E).nox = X at ok ⊢
    -- the state: self in slot 0
    have hσ : L2.start N [.ref a, v1, v2] = some (.ref a) :: some v1 :: some v2 :: more.map fun _ => none := by
      unfold L2.start
      rw [hN]
      show [some (V.ref a), some v1, some v2] ++ List.replicate (more.length + 3 - 3) none = _
      rw [Nat.add_sub_cancel, List.map_const']
      rfl
    rw [hσ, hst]
    have re0 : RE (Sta0 P w K mg base N (defScope st) k tw) m H0 (some (.ref a) :: some v1 :: some v2 :: more.map fun _ => none) (.any :: .p x' :: .p y' :: more.map fun _ => .any) := by
      refine ⟨by simp, fun i z sl g1 g2 => ?_, al, tp, tb⟩
      rcases i with _ | _ | _ | i
      · cases g2; trivial
      · cases g1; cases g2; exact ⟨_, rfl, r1⟩
      · cases g1; cases g2; exact ⟨_, rfl, r2⟩
      · have : sl ∈ (more.map fun _ => Slot.any) := List.mem_of_getElem? (i := i) g2
        obtain ⟨_, _, rfl⟩ := List.mem_map.mp this
        trivial
    have hna : upd H0 dx (.own a) a = none := by rw [upd_ne (Ne.symm hne)]; exact ha
    have ex0 : Ex tw H0 (upd (upd H0 dx (.own a)) a (.ins C dx [])) := (Ex.new hdx).more hna
    have nwa : ¬ tw a := fun z => by
      obtain ⟨i, j, q⟩ := (tp a z).2
      rw [ha] at q; cases q
    have nti : ∀ fs, NTbl (.ins C dx fs) := fun fs ps z => by cases z
    have hself : X.N[0]? = some ("self" : Str) := by
      rw [ok.N]
      show N[0]? = _
      rw [hN]; rfl
    have hvis : Vis X.env.scope "self" := by rw [ok.sc]; exact hv
    refine (pss_cons ps_w psl_w).to ?_
    refine (ps_fld (pe_var (i := 0) hself hvis (by decide) (by decide)) pe_w (hs1 _)).to ?_
    refine wE_mono (d1 tw X ok m _ _ _ _ (re0.ex ex0) (hq x' y' R hq0)) fun v H1 _ ⟨dd1, ⟨nt1, ht2⟩, e1', gr1⟩ => ?_
    have i1 : H1 a = some (.ins C dx []) := e1'.keep a _ upd_same nwa (nti _)
    refine ⟨.ref a, rfl, a, C, dx, [], rfl, i1, by rw [ok.K]; exact cl, by rw [ok.K]; exact n1, by simp, ?_⟩
    rw [hp1]
    have exA : Ex tw H0 H1 := ex0.trans e1'
    have exB : Ex tw H0 (upd H1 a (.ins C dx [(f1, v)])) := ex_ins exA ha i1
    have o1 : Rep K tw (plus m a) (upd H1 a (.ins C dx [(f1, v)])) v dd1 := (gr1.off nt1 i1).mono (fun b o hb hn _ => ⟨by rw [upd_ne (fun z => hn (.inr z))]; exact hb, hn⟩) fun _ h => h
    refine (pss_one (ps_fld (pe_var (i := 0) hself hvis (by decide) (by decide)) pe_w (hs2 _))).to ?_
    refine wE_mono (d2 tw X ok m _ _ _ _ (re0.ex exB) ht2) fun u H3 _ ⟨dd2, ⟨nt2, hR⟩, e3, gr2⟩ => ?_
    have i3 : H3 a = some (.ins C dx [(f1, v)]) := e3.keep a _ upd_same nwa (nti _)
    refine ⟨.ref a, rfl, a, C, dx, [(f1, v)], rfl, i3, by rw [ok.K]; exact cl, by rw [ok.K]; exact n2, by simp, ?_⟩
    rw [hp2]
    have up : ∀ {z : V} {d : D}, Rep K tw (plus m a) H3 z d → Rep K tw (plus m a) (upd H3 a (.ins C dx [(f1, v), (g1, u)])) z d := fun q => q.mono (fun b o hb hn _ => ⟨by rw [upd_ne (fun z => hn (.inr z))]; exact hb, hn⟩) fun _ h => h
    have o2 : Rep K tw (plus m a) H3 v dd1 := o1.mono (fun b o hb hn ht => ⟨e3.keep b o hb (fun z => hn (.inl (tp b z).1)) ht, hn⟩) fun _ h => h
    exact hc v u dd1 dd2 _ hR (ex_ins (exB.trans e3) ha i3) upd_same (up o2) (up (gr2.off nt2 i3))
end
end U
set_option Elab.async false
set_option linter.all false
set_option maxRecDepth 100000
set_option maxHeartbeats 1000000
/-! webs as data; loops and comprehensions in short; a def as a callee -/
namespace U
open PySem PySem.Spec PyProof.Rows L2

/-! ### encodings -/
abbrev Tie := Nat × Nat
def nat (i : Nat) : D := .int (i : Nat)
def tieD (t : Tie) : D := .tup [nat t.1, nat t.2]
def webD (n : Nat) (ts : List Tie) : D := .tup [nat n, .tup (ts.map tieD)]
def hueD : Option Nat → D
  | none => .non
  | some h => nat h
def rowD (r : List (Option Nat)) : D := .lst (r.map hueD)
def natsD (l : List Nat) : D := .lst (l.map nat)
def natsT (l : List Nat) : D := .tup (l.map nat)
abbrev tie (ts : List Tie) (i : Nat) : Tie := ts.getD i (0, 0)
structure Web (n : Nat) (ts : List Tie) : Prop where
  lt : ∀ t ∈ ts, t.1 < t.2 ∧ t.2 < n
  n12 : n ≤ 12
  t16 : ts.length ≤ 16
theorem Web.at {n : Nat} {ts : List Tie} (W : Web n ts) {i : Nat} (h : i < ts.length) : (tie ts i).1 < (tie ts i).2 ∧ (tie ts i).2 < n := by
  have e : tie ts i = ts[i] := by simp [tie, h]
  rw [e]
  exact W.lt _ (List.getElem_mem h)

/-! ### isinstance -/
theorem kb_1 : kitB "NoneType" "int" = some false := by decide +kernel
theorem kb_2 : kitB "bool" "int" = some true := by decide +kernel
theorem kb_3 : kitB "int" "int" = some true := by decide +kernel
theorem kb_4 : kitB "str" "int" = some false := by decide +kernel
theorem kb_5 : kitB "tuple" "int" = some false := by decide +kernel
theorem kb_6 : kitB "list" "int" = some false := by decide +kernel
theorem kb_7 : kitB "NoneType" "bool" = some false := by decide +kernel
theorem kb_8 : kitB "bool" "bool" = some true := by decide +kernel
theorem kb_9 : kitB "int" "bool" = some false := by decide +kernel
theorem kb_10 : kitB "str" "bool" = some false := by decide +kernel
theorem kb_11 : kitB "tuple" "bool" = some false := by decide +kernel
theorem kb_12 : kitB "list" "bool" = some false := by decide +kernel
theorem kb_13 : kitB "tuple" "tuple" = some true := by decide +kernel
theorem kb_14 : kitB "list" "tuple" = some false := by decide +kernel
theorem kb_15 : kitB "list" "list" = some true := by decide +kernel
theorem kb_16 : kitB "tuple" "list" = some false := by decide +kernel
theorem kb_17 : kitB "int" "tuple" = some false := by decide +kernel
/-- plain data -/
def pl (d : D) : Bool := (tyD d).isSome
def isNum : D → Bool
  | .int _ => true
  | _ => false
def isIntB : D → Bool
  | .int _ => true
  | .bl _ => true
  | _ => false
def isBlB : D → Bool
  | .bl _ => true
  | _ => false
theorem isi_int {d : D} (h : pl d = true) : isiD "int" d = some (isIntB d) := by
  cases d <;> first | exact kb_1 | exact kb_2 | exact kb_3 | exact kb_4 | exact kb_5 | exact kb_6 | cases h
theorem isi_bool {d : D} (h : pl d = true) : isiD "bool" d = some (isBlB d) := by
  cases d <;> first | exact kb_7 | exact kb_8 | exact kb_9 | exact kb_10 | exact kb_11 | exact kb_12 | cases h
theorem isi_tup {ds : List D} : isiD "tuple" (.tup ds) = some true := kb_13
theorem isi_tupI {i : Int} : isiD "tuple" (.int i) = some false := kb_17
theorem isi2_lst {ds : List D} : isiD2 (.lst ds) = some true := by
  show ((kitB "list" "list").bind fun b => (kitB "list" "tuple").map fun c => b || c) = some true
  rw [kb_15, kb_14]; rfl

/-! ### comprehensions -/
theorem lc_inv {it : KF} {g : KG} {tt : KT} {te : KE} {vs : List Nat} {ρ : PSt} {P : List D → Prop} (ds : List D) (hit : ∀ Q : List D → Prop, Q ds → it ρ Q) (I : Nat → List D → Prop) (h0 : I 0 [])
    (hs : ∀ i d acc, ds[i]? = some d → I i acc → g d (wipeP ρ vs) fun ρ' => tt ρ' fun b => if b = true then te ρ' fun y => I (i + 1) (acc ++ [y]) else I (i + 1) acc) (hP : ∀ acc, I ds.length acc → P acc) : kLc it g tt te vs ρ P := hit _ ⟨I, h0, hs, hP⟩
theorem filter_snoc {α : Type} (p : α → Bool) (xs : List α) (x : α) : (xs ++ [x]).filter p = if p x = true then xs.filter p ++ [x] else xs.filter p := by
  rw [List.filter_append]
  by_cases h : p x = true
  · rw [if_pos h, List.filter_cons_of_pos h]; rfl
  · rw [if_neg h, List.filter_cons_of_neg h, List.filter_nil, List.append_nil]
/-- over a list of things that are written as data -/
theorem lc_map {α : Type} {it : KF} {g : KG} {tt : KT} {te : KE} {vs : List Nat} {ρ : PSt} {P : List D → Prop} (xs : List α) (enc : α → D) (hit : ∀ Q : List D → Prop, Q (xs.map enc) → it ρ Q) (p : α → Bool) (f : α → D)
    (hs : ∀ x ∈ xs, ∀ (Q : D → Prop) (A : Prop), (p x = true → Q (f x)) → (p x = false → A) → g (enc x) (wipeP ρ vs) fun ρ' => tt ρ' fun b => if b = true then te ρ' Q else A) (hP : P ((xs.filter p).map f)) : kLc it g tt te vs ρ P := by
  refine lc_inv (xs.map enc) hit (fun i acc => acc = ((xs.take i).filter p).map f) rfl (fun i d acc hd hI => ?_) fun acc hI => ?_
  · rw [List.getElem?_map] at hd
    cases hx : xs[i]? with
    | none => rw [hx] at hd; cases hd
    | some x =>
      rw [hx] at hd
      cases hd
      subst hI
      have e : xs.take (i + 1) = xs.take i ++ [x] := by rw [List.take_add_one, hx]; rfl
      refine hs x (List.mem_of_getElem? hx) _ _ (fun h => ?_) fun h => ?_
      · rw [e, filter_snoc, if_pos h, List.map_append]; rfl
      · rw [e, filter_snoc, if_neg (by rw [h]; decide)]
  · rw [hI, List.length_map, List.take_length]
    exact hP
theorem lc_rng {it : KF} {g : KG} {tt : KT} {te : KE} {vs : List Nat} {ρ : PSt} {P : List D → Prop} (n : Nat) (at_ : Nat → D) (hit : ∀ Q : List D → Prop, Q ((List.range n).map at_) → it ρ Q) (p : Nat → Bool) (f : Nat → D)
    (hs : ∀ i, i < n → ∀ (Q : D → Prop) (A : Prop), (p i = true → Q (f i)) → (p i = false → A) → g (at_ i) (wipeP ρ vs) fun ρ' => tt ρ' fun b => if b = true then te ρ' Q else A) (hP : P (((List.range n).filter p).map f)) : kLc it g tt te vs ρ P :=
  lc_map (List.range n) at_ hit p f (fun i hi => hs i (List.mem_range.mp hi)) hP
/-! ### loops -/
theorem for_map {α : Type} {it : KF} {g : KG} {body : KS} {ρ : PSt} {N : PSt → Prop} {Rt : D → Prop} (xs : List α) (enc : α → D) (hit : ∀ Q : List D → Prop, Q (xs.map enc) → it ρ Q) (I : Nat → PSt → Prop) (h0 : I 0 ρ)
    (hs : ∀ i x ρ', xs[i]? = some x → I i ρ' → g (enc x) ρ' fun ρ2 => body ρ2 (I (i + 1)) Rt) (hN : ∀ ρ', I xs.length ρ' → N ρ') : ksFor it g body ρ N Rt := by
  refine hit _ ⟨I, h0, fun i d ρ' hd hI => ?_, fun ρ' h => hN ρ' (by rw [List.length_map] at h; exact h)⟩
  rw [List.getElem?_map] at hd
  cases hx : xs[i]? with
  | none => rw [hx] at hd; cases hd
  | some x =>
    rw [hx] at hd
    cases hd
    exact hs i x ρ' hx hI
theorem for_rng {it : KF} {g : KG} {body : KS} {ρ : PSt} {N : PSt → Prop} {Rt : D → Prop} (n : Nat) (at_ : Nat → D) (hit : ∀ Q : List D → Prop, Q ((List.range n).map at_) → it ρ Q) (I : Nat → PSt → Prop) (h0 : I 0 ρ)
    (hs : ∀ i ρ', i < n → I i ρ' → g (at_ i) ρ' fun ρ2 => body ρ2 (I (i + 1)) Rt) (hN : ∀ ρ', I n ρ' → N ρ') : ksFor it g body ρ N Rt :=
  for_map (List.range n) at_ hit I h0 (fun i x ρ' hx hI => by
    have hi : i < n := by have := (List.getElem?_eq_some_iff.mp hx).1; simpa using this
    rw [List.getElem?_range hi] at hx
    cases hx
    exact hs i ρ' hi hI) (by rw [List.length_range]; exact hN)
/-! ### what comes of the iterables -/
theorem enum_map {α : Type} (xs : List α) (enc : α → D) (dflt : α) : enumD (xs.map enc) = (List.range xs.length).map fun (i : Nat) => .tup [nat i, enc (xs.getD i dflt)] := by
  unfold enumD
  rw [List.length_map]
  refine List.map_congr_left fun i hi => ?_
  have h := List.mem_range.mp hi
  rw [show (xs.map enc).getD i .non = enc (xs.getD i dflt) by simp [h]]
  rfl
theorem rng_nat (n : Nat) : rngD 0 (n : Int) = (List.range n).map nat := by
  unfold rngD
  rw [show ((n : Int) - 0).toNat = n by omega]
  refine List.map_congr_left fun i _ => ?_
  rw [show (0 : Int) + (i : Nat) = (i : Nat) by omega]
  rfl
theorem at_nat {α : Type} {xs : List α} {i : Nat} {x : α} (h : xs[i]? = some x) : atI xs (i : Int) = some x := atI_nat h
theorem at0 {α : Type} {x : α} {xs : List α} : atI (x :: xs) (0 : Int) = some x := atI_nat (j := 0) rfl
theorem at1 {α : Type} {x y : α} {xs : List α} : atI (x :: y :: xs) (1 : Int) = some y := atI_nat (j := 1) rfl
theorem at2 {α : Type} {x y z : α} {xs : List α} : atI (x :: y :: z :: xs) (2 : Int) = some z := atI_nat (j := 2) rfl
theorem at3 {α : Type} {x y z u : α} {xs : List α} : atI (x :: y :: z :: u :: xs) (3 : Int) = some u := atI_nat (j := 3) rfl
theorem at_map {α : Type} {xs : List α} {enc : α → D} {i : Nat} {x : α} (h : xs[i]? = some x) : atI (xs.map enc) (i : Int) = some (enc x) := atI_nat (by rw [List.getElem?_map, h]; rfl)
theorem at_tie {ts : List Tie} {i : Nat} (h : i < ts.length) : atI (ts.map tieD) (i : Int) = some (tieD (tie ts i)) := at_map (by simp [tie, h])
theorem le0 {i : Nat} : decide ((0 : Int) ≤ (i : Int)) = true := decide_eq_true (by omega)
theorem lt_nat {i j : Nat} : decide ((i : Int) < (j : Int)) = decide (i < j) := decide_eq_decide.mpr Int.ofNat_lt
theorem le_nat {i j : Nat} : decide ((i : Int) ≤ (j : Int)) = decide (i ≤ j) := decide_eq_decide.mpr Int.ofNat_le
theorem eq_nat {i j : Nat} : decide ((i : Int) = (j : Int)) = decide (i = j) := decide_eq_decide.mpr Int.ofNat_inj
theorem beq_nat {i j : Nat} : ((i : Int) == (j : Int)) = (i == j) := by rw [Bool.beq_eq_decide_eq, Bool.beq_eq_decide_eq]; exact eq_nat
theorem any_nats {xs : List Nat} {i : Nat} : ((xs.map nat).any fun d => eqN d (nat i)) = xs.contains i := by
  induction xs with
  | nil => rfl
  | cons x xs ih =>
    rw [List.map_cons, List.any_cons, ih, List.contains_cons]
    show (((x : Int) == (i : Int)) || _) = ((i == x) || _)
    rw [beq_nat, show (x == i) = (i == x) from by rw [Bool.beq_comm]]
theorem all_ni {xs : List Nat} : (xs.map nat).all ni = true := by
  rw [List.all_map]; exact List.all_eq_true.mpr fun _ _ => rfl
theorem any_hues {r : List (Option Nat)} {x : Option Nat} : ((r.map hueD).any fun d => eqN d (hueD x)) = r.contains x := by
  induction r with
  | nil => rfl
  | cons y r ih =>
    rw [List.map_cons, List.any_cons, ih, List.contains_cons]
    have e : eqN (hueD y) (hueD x) = (x == y) := by
      cases x <;> cases y <;> first | rfl | skip
      rename_i a b
      show ((b : Int) == (a : Int)) = (some a == some b)
      rw [beq_nat, show (b == a) = (a == b) from by rw [Bool.beq_comm]]; rfl
    rw [e]
theorem all_niH {r : List (Option Nat)} : (r.map hueD).all ni = true := by
  rw [List.all_map]
  refine List.all_eq_true.mpr fun x _ => ?_
  cases x <;> rfl
theorem seq_l {ds : List D} : seqP (.lst ds) = some ds := rfl
theorem seq_t {ds : List D} : seqP (.tup ds) = some ds := rfl
theorem seq_s {ns : List Int} : seqP (.scr ns) = some (ns.map D.int) := rfl
theorem rdB_p {d : D} : rdB (some (.p d)) = some d := rfl
theorem rdB_o {a : Addr} {ds : List D} : rdB (some (.o a ds)) = some (.lst ds) := rfl
theorem num_nat {i : Int} : isNum (.int i) = true := rfl
theorem eqN_ii {i j : Int} : eqN (.int i) (.int j) = (i == j) := rfl
theorem eqN_nn : eqN .non .non = true := rfl
theorem eqN_ni {j : Int} : eqN .non (.int j) = false := rfl
theorem eqN_in {i : Int} : eqN (.int i) .non = false := rfl
theorem any_nats' {xs : List Nat} {i : Nat} : ((xs.map nat).any fun d => eqN d (.int (i : Int))) = xs.contains i := any_nats
theorem any_hues_n {r : List (Option Nat)} : ((r.map hueD).any fun d => eqN d .non) = r.contains none := any_hues (x := none)
theorem any_hues_i {r : List (Option Nat)} {h : Nat} : ((r.map hueD).any fun d => eqN d (.int (h : Int))) = r.contains (some h) := any_hues (x := some h)
theorem c_0 : ((0 : Nat) : Int) = 0 := rfl
theorem c_1 : ((1 : Nat) : Int) = 1 := rfl
theorem c_2 : ((2 : Nat) : Int) = 2 := rfl
theorem c_3 : ((3 : Nat) : Int) = 3 := rfl
section
variable {i j : Int} {xs ys : List D} {ns : List Int} {x : D} {a b : Bool} {u v : Str} {P : D → Prop} {Q : Bool → Prop} {f : Int → Int → Bool} {t : Addr}
theorem q_add_ii : addP (.int i) (.int j) P = P (.int (i + j)) := rfl
theorem q_add_ll : addP (.lst xs) (.lst ys) P = (xs.length + ys.length ≤ sizeLine ∧ P (.lst (xs ++ ys))) := rfl
theorem q_add_tt : addP (.tup xs) (.tup ys) P = (xs.length + ys.length ≤ sizeLine ∧ P (.tup (xs ++ ys))) := rfl
theorem q_sub_ii : subP (.int i) (.int j) P = P (.int (i - j)) := rfl
theorem q_mul_ii : mulP (.int i) (.int j) P = (CMul i j ∧ P (.int (i * j))) := rfl
theorem q_mul_li : mulP (.lst xs) (.int j) P = (-(2 ^ 63) ≤ j ∧ j < 2 ^ 63 ∧ xs.length * j.toNat ≤ sizeLine ∧ P (.lst (List.replicate j.toNat xs).flatten)) := rfl
theorem q_mod_ii : modP (.int i) (.int j) P = (0 < j ∧ P (.int (i % j))) := rfl
theorem q_fdiv_ii : fdivP (.int i) (.int j) P = (CDiv i j ∧ P (.int (i / j))) := rfl
theorem q_pow_ii : powP (.int i) (.int j) P = (CPow i j ∧ P (.int (i ^ j.toNat))) := rfl
theorem q_ix_l : ixP (.lst xs) (.int i) P = ∃ d, atI xs i = some d ∧ P d := rfl
theorem q_ix_t : ixP (.tup xs) (.int i) P = ∃ d, atI xs i = some d ∧ P d := rfl
theorem q_ix_s : ixP (.scr ns) (.int i) P = ∃ n, atI ns i = some n ∧ P (.int n) := rfl
theorem q_ix_tp : ixP (.tp t) (.int i) P = ((i = 0 ∨ i = 1) ∧ ∀ n, P (.int n)) := rfl
theorem q_ii : iiP f (.int i) (.int j) Q = Q (f i j) := rfl
theorem q_is_bb : isP (.bl a) (.bl b) Q = Q (decide (a = b)) := rfl
theorem q_is_n : isP x .non Q = Q (isN x) := by cases x <;> rfl
theorem q_nis_bb : nisP (.bl a) (.bl b) Q = Q (!decide (a = b)) := rfl
theorem q_nis_n : nisP x .non Q = Q (!isN x) := by cases x <;> rfl
theorem q_eq_ii : eqP (.int i) (.int j) Q = Q (decide (i = j)) := rfl
theorem q_eq_ni : eqP .non (.int j) Q = Q false := rfl
theorem q_eq_in : eqP (.int i) .non Q = Q false := rfl
theorem q_eq_nn : eqP .non .non Q = Q true := rfl
theorem q_eq_ss : eqP (.str u) (.str v) Q = Q (decide (u = v)) := rfl
theorem q_eq_tt : eqP (.tup xs) (.tup []) Q = (xs.all dat1 = true ∧ Q xs.isEmpty) := by cases xs <;> rfl
theorem q_eq_ll : eqP (.lst xs) (.lst []) Q = (xs.all dat1 = true ∧ Q xs.isEmpty) := by cases xs <;> rfl
theorem q_isN_n : isN .non = true := rfl
theorem q_isN_i : isN (.int i) = false := rfl
theorem q_isN_t : isN (.tup xs) = false := rfl
theorem q_isN_l : isN (.lst xs) = false := rfl
theorem q_isN_b : isN (.bl a) = false := rfl
end
theorem hueD_n : hueD none = .non := rfl
theorem hueD_s {c : Nat} : hueD (some c) = .int (c : Int) := rfl
theorem ni_i {i : Int} : ni (.int i) = true := rfl
theorem ni_n : ni .non = true := rfl
theorem ni_hue {x : Option Nat} : ni (hueD x) = true := by cases x <;> rfl
theorem eqN_ih {a : Nat} {x : Option Nat} : eqN (.int (a : Int)) (hueD x) = (x == some a) := by
  cases x with
  | none => rfl
  | some c =>
    show ((a : Int) == (c : Int)) = (c == a)
    rw [beq_nat, show (a == c) = (c == a) from by rw [Bool.beq_comm]]
/-! ### a def as a callee -/
structure Lo (K : PySem.W.Frag) (mg : Str → Option Value) (x : Str) (st : Stmt) : Prop where
  ex : ∃ f fd, mg x = some (.ref f) ∧ Fun K x x st f fd
theorem mk_callee {P : Program} {w : World} {K : PySem.W.Frag} {mg : Str → Option Value} {base : Heap} {k : Nat} {x : Str} {st : Stmt} {N ps : List Str} {q : PSp} {kb : KS} (L : Lo K mg x st) (sc : FnScope N ps (defScope st)) (hb : ∀ {f fd}, Fun K x x st f fd → Binds K fd ps [])
    (hd : ∀ tw, SlR ⟨P, w, K, mg, base, N, defScope st, fun _ => true, k, tw, fun _ => True⟩ (defBody st) kb) (hq : ∀ ds P, q ds P → ds.length = ps.length) (hv : ∀ ds P, q ds P → kb (startP N ds) (fun _ => P .non) P) : Callee P w K mg base (k + 1) x q := by
  obtain ⟨f, fd, h1, F⟩ := L.ex
  exact ⟨f, fd, ps, h1, F.kp, hb F, def_ok F sc hq hd hv⟩
end U
set_option Elab.async false
set_option linter.all false
set_option maxRecDepth 100000
set_option maxHeartbeats 1000000
namespace U
open PySem PySem.Spec PyProof.Rows L2
local macro_rules | `(tactic| walk_at "vc") => `(tactic| (first | simp only [hueD_n, hueD_s, kOoNew, kOoApp, Slot.oo.injEq, c_0, c_1, c_2, c_3, eq_self, kLenSet, kFldC, kMeth, kOwn, kApp, kExt, kIns, kPop, kPut, kAugA, kPar, kDk0, kDk1, kDkPut, kDt0, kDtPut, kUpd, kInDk, kInDt, kSorted, kTapeSet, kSwap, kCount, kIndex, kLstR, kCallF, kBinF, catP, listP, max2P, min2P, intBP, absP, tupleP, Slot.dk.injEq, Slot.dt.injEq, reduceCtorEq, false_and, exists_false, and_assoc, lenP, seq_l, seq_t, seq_s, natsD, natsT, rowD, num_nat, Nat.reduceLeDiff, inP, ninP, ni_i, ni_n, ni_hue, eqN_ih, eqN_ii, eqN_nn, eqN_ni, eqN_in, any_nats', any_hues_n, any_hues_i, all_ni, all_niH, beq_nat, List.all_cons, List.all_nil, List.any_cons, List.any_nil, Bool.or_false, Bool.and_true, Bool.true_and, at0, at1, at2, at3, kSl, koN, koS, slP, kItET, kItE, kItS, kItR1, kItR2, kItZ, kItZM, webD, nat, tieD, le0, lt_nat, le_nat, eq_nat, decide_true, decide_false, decide_eq_true_eq, kSeq, kNext, kRet, kSet, kDrop, kTgt, ksIf, kVar, kVarB, rdB_p, rdB_o, kC, kBin, kF, q_add_ii, q_add_ll, q_add_tt, q_sub_ii, q_mul_ii, q_mul_li, q_mod_ii, q_fdiv_ii, q_pow_ii, q_ix_l, q_ix_t, q_ix_s, q_ix_tp, q_ii, q_is_bb, q_is_n, q_nis_bb, q_nis_n, q_eq_ii, q_eq_ni, q_eq_in, q_eq_nn, q_eq_ss, q_eq_tt, q_eq_ll, q_isN_n, q_isN_i, q_isN_t, q_isN_l, q_isN_b, kNeg, kCmp, kCmpT, kChain, kBo, neP, kAnd, kOr, kNot, tkAnd, tkOr, tkNot, tkV, kIf, kNil, kCons, kTup, kLst, kCall, kIsi, gkName, gkTup, gkCons, gkNil, tkYes, relP, kRel, wipeP, startP, List.map_cons, List.map_nil, List.length_cons, List.length_nil, List.replicate_succ, List.replicate_zero, List.cons_append, List.nil_append, List.append_nil, Nat.reduceSub, Nat.reduceAdd, Nat.sub_self, List.getElem?_cons_zero, List.getElem?_cons_succ, List.getElem?_nil, List.set_cons_zero, List.set_cons_succ, List.set_nil, Option.some.injEq, Slot.p.injEq, Slot.o.injEq, D.tup.injEq, D.lst.injEq, D.int.injEq, D.bl.injEq, D.str.injEq, exists_eq_left', exists_eq_left, exists_eq_right, exists_eq_right', exists_and_left, exists_eq', exists_eq, and_true, true_and, Bool.not_true, Bool.not_false, if_true, if_false, Bool.false_eq_true, ite_true, ite_false, reduceIte, List.cons.injEq, List.length_map] | skip))
section
variable {P : Program} {w : World} {K : PySem.W.Frag} {mg : Str → Option Value} {base : Heap} {k : Nat}
theorem pl_int {i : Int} : pl (.int i) = true := rfl
def q_is_number : PSp := fun ds P => ∃ d, ds = [d] ∧ pl d = true ∧ P (.bl (isNum d))
theorem ok_is_number (T : Tx K mg) (L : Lo K mg "is_number" S_is_number) : Callee P w K mg base (k + 1) "is_number" q_is_number := by
  refine mk_callee L sc_is_number b_is_number (fun tw => d_is_number T) (fun ds P ⟨d, e, _⟩ => by rw [e]; rfl) fun ds P ⟨d, e, hd, h⟩ => ?_
  subst e
  unfold k_is_number
  walk_at "vc"
  rw [isi_int hd]
  refine ⟨_, rfl, ?_⟩
  rw [isi_bool hd]
  cases d <;> first | exact h | exact ⟨_, rfl, h⟩ | cases hd
/-- a place of the web, a tie of it -/
def q_look_place : PSp := fun ds P => ∃ n ts p, ds = [webD n ts, nat p] ∧ p < n ∧ P .non
theorem ok_look_place (T : Tx K mg) (L : Lo K mg "look_place" S_look_place) (c_is_number : Callee P w K mg base k "is_number" q_is_number) : Callee P w K mg base (k + 1) "look_place" q_look_place := by
  refine mk_callee L sc_look_place b_look_place (fun tw => d_look_place T c_is_number) (fun ds P ⟨n, ts, p, e, _⟩ => by rw [e]; rfl) fun ds P ⟨n, ts, p, e, hp, h⟩ => ?_
  subst e
  unfold k_look_place
  walk_at "vc"
  refine ⟨_, rfl, pl_int, _, rfl, ?_⟩
  simp only [isNum, hp, decide_true, Bool.not_true, if_true, Bool.false_eq_true, if_false]
  exact h
def q_look_tie : PSp := fun ds P => ∃ n ts i, ds = [webD n ts, nat i] ∧ i < ts.length ∧ P .non
theorem ok_look_tie (T : Tx K mg) (L : Lo K mg "look_tie" S_look_tie) (c_is_number : Callee P w K mg base k "is_number" q_is_number) : Callee P w K mg base (k + 1) "look_tie" q_look_tie := by
  refine mk_callee L sc_look_tie b_look_tie (fun tw => d_look_tie T c_is_number) (fun ds P ⟨n, ts, p, e, _⟩ => by rw [e]; rfl) fun ds P ⟨n, ts, p, e, hp, h⟩ => ?_
  subst e
  unfold k_look_tie
  walk_at "vc"
  refine ⟨_, rfl, pl_int, _, rfl, ?_⟩
  simp only [isNum, hp, decide_true, Bool.not_true, if_true, Bool.false_eq_true, if_false]
  exact h
def tiesAt (ts : List Tie) (p : Nat) : List Nat := (List.range ts.length).filter fun i => (tie ts i).1 == p || (tie ts i).2 == p
def q_ties_at : PSp := fun ds P => ∃ n ts p, ds = [webD n ts, nat p] ∧ p < n ∧ P (natsD (tiesAt ts p))
theorem fin_if {b : Bool} {A : Prop} {B : Prop} (h1 : b = true → A) (h2 : b = false → B) : if b = true then A else B := by
  cases b with
  | true => exact h1 rfl
  | false => exact h2 rfl
theorem ok_ties_at (T : Tx K mg) (L : Lo K mg "ties_at" S_ties_at) (c_look_place : Callee P w K mg base k "look_place" q_look_place) : Callee P w K mg base (k + 1) "ties_at" q_ties_at := by
  refine mk_callee L sc_ties_at b_ties_at (fun tw => d_ties_at T c_look_place) (fun ds P ⟨n, ts, p, e, _⟩ => by rw [e]; rfl) fun ds P ⟨n, ts, p, e, hp, h⟩ => ?_
  subst e
  unfold k_ties_at
  walk_at "vc"
  refine ⟨n, ts, p, rfl, hp, ?_⟩
  refine lc_rng ts.length (fun i => .tup [nat i, tieD (tie ts i)]) (fun Q hQ => ?_) (fun i => (tie ts i).1 == p || (tie ts i).2 == p) nat (fun i hi Q A h1 h2 => ?_) h
  · walk_at "vc"
    rw [enum_map ts tieD (0, 0)]
    exact hQ
  · walk_at "vc"
    exact fin_if h1 h2
def q_count_at : PSp := fun ds P => ∃ n ts p, ds = [webD n ts, nat p] ∧ p < n ∧ P (nat (tiesAt ts p).length)
theorem ok_count_at (T : Tx K mg) (L : Lo K mg "count_at" S_count_at) (c_ties_at : Callee P w K mg base k "ties_at" q_ties_at) : Callee P w K mg base (k + 1) "count_at" q_count_at := by
  refine mk_callee L sc_count_at b_count_at (fun tw => d_count_at T c_ties_at) (fun ds P ⟨n, ts, p, e, _⟩ => by rw [e]; rfl) fun ds P ⟨n, ts, p, e, hp, h⟩ => ?_
  subst e
  unfold k_count_at
  walk_at "vc"
  refine ⟨n, ts, p, rfl, hp, ?_⟩
  walk_at "vc"
  exact h
/-- the ties at each place -/
def byPlace (n : Nat) (ts : List Tie) : List (List Nat) := (List.range n).map (tiesAt ts)
def q_ties_by_place : PSp := fun ds P => ∃ n ts, ds = [webD n ts] ∧ Web n ts ∧ P (.lst ((byPlace n ts).map natsD))
def IsMost (n : Nat) (ts : List Tie) (m : Nat) : Prop := (n = 0 ∧ m = 0 ∨ ∃ p, p < n ∧ (tiesAt ts p).length = m) ∧ ∀ p, p < n → (tiesAt ts p).length ≤ m
def q_most_at : PSp := fun ds P => ∃ n ts, ds = [webD n ts] ∧ Web n ts ∧ ∀ m, IsMost n ts m → P (nat m)
theorem ok_most_at (T : Tx K mg) (L : Lo K mg "most_at" S_most_at) (c_ties_by_place : Callee P w K mg base k "ties_by_place" q_ties_by_place) : Callee P w K mg base (k + 1) "most_at" q_most_at := by
  refine mk_callee L sc_most_at b_most_at (fun tw => d_most_at T c_ties_by_place) (fun ds P ⟨n, ts, e, _⟩ => by rw [e]; rfl) fun ds P ⟨n, ts, e, W, h⟩ => ?_
  subst e
  unfold k_most_at
  walk_at "vc"
  refine lc_map (byPlace n ts) natsD (fun Q hQ => ?_) (fun _ => true) (fun l => nat l.length) (fun l hl Q A h1 _ => ?_) ?_
  · walk_at "vc"
    exact ⟨n, ts, rfl, W, hQ⟩
  · walk_at "vc"
    exact h1 rfl
  · refine ⟨((byPlace n ts).map fun l => ((l.length : Nat) : Int)), .int 0, ?_, fun e => ?_, fun m hm hle => ?_⟩
    · rw [List.filter_eq_self.mpr fun _ _ => rfl, List.map_map]; rfl
    · have e0 : n = 0 := by
        have := congrArg List.length e
        simpa [byPlace] using this
      subst e0
      exact h 0 ⟨.inl ⟨rfl, rfl⟩, fun p hp => absurd hp (Nat.not_lt_zero p)⟩
    · obtain ⟨l, hl, rfl⟩ := List.mem_map.mp hm
      obtain ⟨p, hp, rfl⟩ := List.mem_map.mp hl
      refine h _ ⟨.inr ⟨p, List.mem_range.mp hp, rfl⟩, fun p2 hp2 => ?_⟩
      have := hle _ (List.mem_map.mpr ⟨tiesAt ts p2, List.mem_map.mpr ⟨p2, List.mem_range.mpr hp2, rfl⟩, rfl⟩)
      omega
/-- the other end -/
def other (t : Tie) (p : Nat) : Nat := if p = t.1 then t.2 else t.1
def q_far_end : PSp := fun ds P => ∃ n ts i p, ds = [webD n ts, nat i, nat p] ∧ i < ts.length ∧ ((tie ts i).1 = p ∨ (tie ts i).2 = p) ∧ P (nat (other (tie ts i) p))
theorem ok_far_end (T : Tx K mg) (L : Lo K mg "far_end" S_far_end) (c_look_tie : Callee P w K mg base k "look_tie" q_look_tie) (c_is_number : Callee P w K mg base k "is_number" q_is_number) : Callee P w K mg base (k + 1) "far_end" q_far_end := by
  refine mk_callee L sc_far_end b_far_end (fun tw => d_far_end T c_look_tie c_is_number) (fun ds P ⟨n, ts, i, p, e, _⟩ => by rw [e]; rfl) fun ds P ⟨n, ts, i, p, e, hi, hp, h⟩ => ?_
  subst e
  unfold k_far_end
  walk_at "vc"
  refine ⟨n, ts, i, rfl, hi, ?_⟩
  rw [at_tie hi]
  walk_at "vc"
  have hc : ((tie ts i).1 == p || (tie ts i).2 == p) = true := by
    rcases hp with e | e
    · rw [e, beq_self_eq_true]; rfl
    · rw [e, beq_self_eq_true, Bool.or_true]
  rw [hc]
  walk_at "vc"
  refine ⟨_, rfl, pl_int, _, rfl, ?_⟩
  walk_at "vc"
  unfold other at h
  split
  · rename_i e; rw [if_pos e] at h; exact h
  · rename_i e; rw [if_neg e] at h; exact h
/-- some of the ties -/
def q_only : PSp := fun ds P => ∃ n ts is, ds = [webD n ts, natsD is] ∧ (∀ i ∈ is, i < ts.length) ∧ P (webD n (is.map (tie ts)))
theorem ok_only (T : Tx K mg) (L : Lo K mg "only" S_only) (c_look_tie : Callee P w K mg base k "look_tie" q_look_tie) : Callee P w K mg base (k + 1) "only" q_only := by
  refine mk_callee L sc_only b_only (fun tw => d_only T c_look_tie) (fun ds P ⟨n, ts, is, e, _⟩ => by rw [e]; rfl) fun ds P ⟨n, ts, is, e, hi, h⟩ => ?_
  subst e
  unfold k_only
  walk_at "vc"
  refine for_map is nat (fun Q hQ => ?_) (fun _ ρ => ∃ s1, ρ = [.p (webD n ts), .p (natsD is), s1]) ⟨_, rfl⟩ (fun i x ρ' hx ⟨s1, e⟩ => ?_) fun ρ' ⟨s1, e⟩ => ?_
  · walk_at "vc"
    exact hQ
  · subst e
    walk_at "vc"
    exact ⟨n, ts, x, rfl, hi x (List.mem_of_getElem? hx), trivial⟩
  · subst e
    walk_at "vc"
    refine lc_map is nat (fun Q hQ => ?_) (fun _ => true) (fun i => tieD (tie ts i)) (fun i hi' Q A h1 _ => ?_) ?_
    · walk_at "vc"
      exact hQ
    · walk_at "vc"
      rw [at_tie (hi i hi')]
      exact ⟨_, rfl, h1 rfl⟩
    · rw [List.filter_eq_self.mpr fun _ _ => rfl]
      have e : webD n (is.map (tie ts)) = .tup [nat n, .tup (is.map fun i => tieD (tie ts i))] := by
        unfold webD; rw [List.map_map]; rfl
      rw [e] at h
      exact h
/-- the ties within some places -/
def withinL (ts : List Tie) (S : List Nat) : List Nat := (List.range ts.length).filter fun i => S.contains (tie ts i).1 && S.contains (tie ts i).2
def q_within : PSp := fun ds P => ∃ n ts d S, ds = [webD n ts, d] ∧ seqP d = some (S.map nat) ∧ P (natsD (withinL ts S))
theorem ok_within (T : Tx K mg) (L : Lo K mg "within" S_within) : Callee P w K mg base (k + 1) "within" q_within := by
  refine mk_callee L sc_within b_within (fun tw => d_within T) (fun ds P ⟨n, ts, d, S, e, _⟩ => by rw [e]; rfl) fun ds P ⟨n, ts, d, S, e, hS, h⟩ => ?_
  subst e
  unfold k_within
  walk_at "vc"
  refine lc_rng ts.length (fun i => .tup [nat i, tieD (tie ts i)]) (fun Q hQ => ?_) (fun i => S.contains (tie ts i).1 && S.contains (tie ts i).2) nat (fun i hi Q A h1 h2 => ?_) h
  · walk_at "vc"
    rw [enum_map ts tieD (0, 0)]
    exact hQ
  · walk_at "vc"
    refine ⟨_, hS, ?_⟩
    rw [hS]
    walk_at "vc"
    refine fin_if (fun e1 => ?_) fun e1 => h2 (by rw [e1]; rfl)
    refine fin_if (fun e2 => h1 (by rw [e1, e2]; rfl)) fun e2 => h2 (by rw [e2, Bool.and_false])
end
end U
set_option Elab.async false
set_option linter.all false
set_option maxRecDepth 100000
set_option maxHeartbeats 1000000
namespace U
open PySem PySem.Spec PyProof.Rows L2
local macro_rules | `(tactic| walk_at "vc") => `(tactic| (first | simp only [hueD_n, hueD_s, kOoNew, kOoApp, Slot.oo.injEq, c_0, c_1, c_2, c_3, eq_self, kLenSet, kFldC, kMeth, kOwn, kApp, kExt, kIns, kPop, kPut, kAugA, kPar, kDk0, kDk1, kDkPut, kDt0, kDtPut, kUpd, kInDk, kInDt, kSorted, kTapeSet, kSwap, kCount, kIndex, kLstR, kCallF, kBinF, catP, listP, max2P, min2P, intBP, absP, tupleP, Slot.dk.injEq, Slot.dt.injEq, reduceCtorEq, false_and, exists_false, and_assoc, lenP, seq_l, seq_t, seq_s, natsD, natsT, rowD, num_nat, Nat.reduceLeDiff, inP, ninP, ni_i, ni_n, ni_hue, eqN_ih, eqN_ii, eqN_nn, eqN_ni, eqN_in, any_nats', any_hues_n, any_hues_i, all_ni, all_niH, beq_nat, List.all_cons, List.all_nil, List.any_cons, List.any_nil, Bool.or_false, Bool.and_true, Bool.true_and, at0, at1, at2, at3, kSl, koN, koS, slP, kItET, kItE, kItS, kItR1, kItR2, kItZ, kItZM, webD, nat, tieD, le0, lt_nat, le_nat, eq_nat, decide_true, decide_false, decide_eq_true_eq, kSeq, kNext, kRet, kSet, kDrop, kTgt, ksIf, kVar, kVarB, rdB_p, rdB_o, kC, kBin, kF, q_add_ii, q_add_ll, q_add_tt, q_sub_ii, q_mul_ii, q_mul_li, q_mod_ii, q_fdiv_ii, q_pow_ii, q_ix_l, q_ix_t, q_ix_s, q_ix_tp, q_ii, q_is_bb, q_is_n, q_nis_bb, q_nis_n, q_eq_ii, q_eq_ni, q_eq_in, q_eq_nn, q_eq_ss, q_eq_tt, q_eq_ll, q_isN_n, q_isN_i, q_isN_t, q_isN_l, q_isN_b, kNeg, kCmp, kCmpT, kChain, kBo, neP, kAnd, kOr, kNot, tkAnd, tkOr, tkNot, tkV, kIf, kNil, kCons, kTup, kLst, kCall, kIsi, gkName, gkTup, gkCons, gkNil, tkYes, relP, kRel, wipeP, startP, List.map_cons, List.map_nil, List.length_cons, List.length_nil, List.replicate_succ, List.replicate_zero, List.cons_append, List.nil_append, List.append_nil, Nat.reduceSub, Nat.reduceAdd, Nat.sub_self, List.getElem?_cons_zero, List.getElem?_cons_succ, List.getElem?_nil, List.set_cons_zero, List.set_cons_succ, List.set_nil, Option.some.injEq, Slot.p.injEq, Slot.o.injEq, D.tup.injEq, D.lst.injEq, D.int.injEq, D.bl.injEq, D.str.injEq, exists_eq_left', exists_eq_left, exists_eq_right, exists_eq_right', exists_and_left, exists_eq', exists_eq, and_true, true_and, Bool.not_true, Bool.not_false, if_true, if_false, Bool.false_eq_true, ite_true, ite_false, reduceIte, List.cons.injEq, List.length_map] | skip))
section
variable {P : Program} {w : World} {K : PySem.W.Frag} {mg : Str → Option Value} {base : Heap} {k : Nat}
def isHue : D → Bool
  | .non => true
  | .int i => decide (0 ≤ i)
  | _ => false
def q_is_hue : PSp := fun ds P => ∃ d, ds = [d] ∧ pl d = true ∧ P (.bl (isHue d))
theorem ok_is_hue (T : Tx K mg) (L : Lo K mg "is_hue" S_is_hue) (c_is_number : Callee P w K mg base k "is_number" q_is_number) : Callee P w K mg base (k + 1) "is_hue" q_is_hue := by
  refine mk_callee L sc_is_hue b_is_hue (fun tw => d_is_hue T c_is_number) (fun ds P ⟨d, e, _⟩ => by rw [e]; rfl) fun ds P ⟨d, e, hd, h⟩ => ?_
  subst e
  unfold k_is_hue
  walk_at "vc"
  refine fin_if (fun e => ?_) fun e => ⟨_, rfl, hd, ?_⟩
  · cases d <;> first | exact h | exact absurd e (fun z => nomatch z)
  · walk_at "vc"
    cases d <;> first | exact h | exact absurd e (fun z => nomatch z) | (simp only [isNum, if_true, Bool.false_eq_true, if_false]; exact h)
/-- no two ties of one hue meet -/
def meet (t u : Tie) : Bool := (t.1 == u.1 || t.2 == u.1) || (t.1 == u.2 || t.2 == u.2)
abbrev hue (r : List (Option Nat)) (i : Nat) : Option Nat := r.getD i none
def Proper (ts : List Tie) (r : List (Option Nat)) : Prop := r.length = ts.length ∧ ∀ i j h, i < j → j < ts.length → hue r i = some h → hue r j = some h → meet (tie ts i) (tie ts j) = false
def q_clash_of : PSp := fun ds P => ∃ n ts r, ds = [webD n ts, rowD r] ∧ Web n ts ∧ Proper ts r ∧ P .non
def q_is_hueing : PSp := fun ds P => ∃ n ts r, ds = [webD n ts, rowD r] ∧ Web n ts ∧ Proper ts r ∧ P (.bl true)
theorem pl_hue (x : Option Nat) : pl (hueD x) = true := by cases x <;> rfl
theorem isHue_hue (x : Option Nat) : isHue (hueD x) = true := by
  cases x
  · rfl
  · rename_i h; exact decide_eq_true (Int.natCast_nonneg h)
theorem isN_hue (x : Option Nat) : isN (hueD x) = x.isNone := by cases x <;> rfl
theorem ok_is_hueing (T : Tx K mg) (L : Lo K mg "is_hueing" S_is_hueing) (c_is_hue : Callee P w K mg base k "is_hue" q_is_hue) (c_clash_of : Callee P w K mg base k "clash_of" q_clash_of) : Callee P w K mg base (k + 1) "is_hueing" q_is_hueing := by
  refine mk_callee L sc_is_hueing b_is_hueing (fun tw => d_is_hueing T c_is_hue c_clash_of) (fun ds P ⟨n, ts, r, e, _⟩ => by rw [e]; rfl) fun ds P ⟨n, ts, r, e, W, hp, h⟩ => ?_
  subst e
  unfold k_is_hueing
  walk_at "vc"
  refine ⟨_, isi2_lst, ?_⟩
  walk_at "vc"
  rw [if_neg (by rw [decide_eq_true hp.1]; decide)]
  refine lc_map r hueD (fun Q hQ => ?_) (fun _ => true) (fun _ => .bl true) (fun x hx Q A h1 _ => ?_) ?_
  · walk_at "vc"
    exact hQ
  · walk_at "vc"
    exact ⟨_, rfl, pl_hue x, by rw [isHue_hue]; exact h1 rfl⟩
  · refine ⟨(r.filter fun _ => true).map fun _ => true, by rw [List.map_map]; rfl, _, rfl, ?_⟩
    rw [show ((r.filter fun _ => true).map fun _ => true).all id = true from by rw [List.all_map]; exact List.all_eq_true.mpr fun _ _ => rfl]
    walk_at "vc"
    exact ⟨n, ts, r, rfl, W, hp, h⟩
def q_is_whole : PSp := fun ds P => ∃ n ts r, ds = [webD n ts, rowD r] ∧ Web n ts ∧ Proper ts r ∧ P (.bl (!r.contains none))
theorem ok_is_whole (T : Tx K mg) (L : Lo K mg "is_whole" S_is_whole) (c_is_hueing : Callee P w K mg base k "is_hueing" q_is_hueing) : Callee P w K mg base (k + 1) "is_whole" q_is_whole := by
  refine mk_callee L sc_is_whole b_is_whole (fun tw => d_is_whole T c_is_hueing) (fun ds P ⟨n, ts, r, e, _⟩ => by rw [e]; rfl) fun ds P ⟨n, ts, r, e, W, hp, h⟩ => ?_
  subst e
  unfold k_is_whole
  walk_at "vc"
  refine ⟨n, ts, r, rfl, W, hp, ?_⟩
  walk_at "vc"
  exact h
/-! ### papers -/
def isPlace (n : Nat) : D → Bool
  | .int i => decide (0 ≤ i) && decide (i < n)
  | _ => false
def q_is_place_of : PSp := fun ds P => ∃ n ts d, ds = [webD n ts, d] ∧ pl d = true ∧ P (.bl (isPlace n d))
theorem ok_is_place_of (T : Tx K mg) (L : Lo K mg "is_place_of" S_is_place_of) (c_is_number : Callee P w K mg base k "is_number" q_is_number) : Callee P w K mg base (k + 1) "is_place_of" q_is_place_of := by
  refine mk_callee L sc_is_place_of b_is_place_of (fun tw => d_is_place_of T c_is_number) (fun ds P ⟨n, ts, d, e, _⟩ => by rw [e]; rfl) fun ds P ⟨n, ts, d, e, hd, h⟩ => ?_
  subst e
  unfold k_is_place_of
  walk_at "vc"
  refine ⟨_, rfl, hd, _, rfl, ?_⟩
  cases d <;> first | exact h | skip
  walk_at "vc"
  rename_i i _
  by_cases h0 : 0 ≤ i
  · have h : P (.bl (decide (0 ≤ i) && decide (i < n))) := h
    rw [decide_eq_true h0, Bool.true_and] at h
    rw [if_pos h0]
    exact h
  · have h : P (.bl (decide (0 ≤ i) && decide (i < n))) := h
    rw [decide_eq_false h0, Bool.false_and] at h
    rw [if_neg h0]
    exact h
def rising : List Nat → Bool
  | a :: b :: r => decide (a < b) && rising (b :: r)
  | _ => true
def oddSet (n : Nat) (S : List Nat) : Bool := decide (3 ≤ S.length) && decide (S.length % 2 = 1) && S.all (fun p => decide (p < n)) && rising S
theorem cut_last (xs : List D) : cutD xs none (some (-1)) = xs.dropLast := by
  unfold cutD
  show (xs.drop 0).take (HT.sIx xs.length xs.length (some (-1)) - 0) = xs.dropLast
  have e : HT.sIx xs.length xs.length (some (-1)) = xs.length - 1 := by
    show (if (-1 : Int) < 0 then (-1 + (xs.length : Int)).toNat else min (-1 : Int).toNat xs.length) = _
    rw [if_pos (by decide)]
    omega
  rw [e, List.drop_zero, Nat.sub_zero, List.dropLast_eq_take]
theorem rising_all : ∀ S : List Nat, ((List.range (S.length - 1)).map fun k => decide (S.getD k 0 < S.getD (k + 1) 0)).all id = rising S
  | [] => rfl
  | [_] => rfl
  | a :: b :: r => by
    have ih := rising_all (b :: r)
    rw [show (a :: b :: r).length - 1 = (b :: r).length - 1 + 1 by simp, List.range_succ_eq_map, List.map_cons, List.all_cons, List.map_map]
    show (decide (a < b) && _) = (decide (a < b) && rising (b :: r))
    rw [← ih]
    rfl
theorem all_map_lt (n : Nat) (S : List Nat) : ((S.map fun p => isPlace n (nat p)).all id) = S.all fun p => decide (p < n) := by
  rw [List.all_map]
  congr 1
  funext p
  show (decide ((0 : Int) ≤ (p : Int)) && decide ((p : Int) < (n : Int))) = _
  rw [le0, lt_nat, Bool.true_and]
def q_is_odd_set : PSp := fun ds P => ∃ n ts S, ds = [webD n ts, natsT S] ∧ S.length ≤ 1000 ∧ P (.bl (oddSet n S))
theorem ok_is_odd_set (T : Tx K mg) (L : Lo K mg "is_odd_set" S_is_odd_set) (c_is_place_of : Callee P w K mg base k "is_place_of" q_is_place_of) : Callee P w K mg base (k + 1) "is_odd_set" q_is_odd_set := by
  refine mk_callee L sc_is_odd_set b_is_odd_set (fun tw => d_is_odd_set T c_is_place_of) (fun ds P ⟨n, ts, S, e, _⟩ => by rw [e]; rfl) fun ds P ⟨n, ts, S, e, hz, h⟩ => ?_
  subst e
  unfold k_is_odd_set
  walk_at "vc"
  refine ⟨_, isi_tup, ?_⟩
  walk_at "vc"
  unfold oddSet at h
  split
  · rename_i e
    rw [decide_eq_false (by omega), Bool.false_and, Bool.false_and, Bool.false_and] at h
    exact h
  rename_i e3
  rw [decide_eq_true (by omega), Bool.true_and] at h
  refine ⟨by decide, ?_⟩
  split
  · rename_i e
    rw [decide_eq_false (by omega), Bool.false_and, Bool.false_and] at h
    exact h
  rename_i e4
  rw [decide_eq_true (by omega), Bool.true_and] at h
  refine lc_map S nat (fun Q hQ => ?_) (fun _ => true) (fun p => .bl (isPlace n (nat p))) (fun p hp Q A h1 _ => ?_) ?_
  · walk_at "vc"
    exact hQ
  · walk_at "vc"
    exact ⟨n, ts, _, rfl, rfl, h1 rfl⟩
  refine ⟨S.map fun p => isPlace n (nat p), by rw [List.filter_eq_self.mpr fun _ _ => rfl, List.map_map]; rfl, _, rfl, ?_⟩
  rw [all_map_lt]
  cases hb : S.all fun p => decide (p < n) with
  | false =>
    rw [hb, Bool.false_and] at h
    exact h
  | true =>
    rw [hb, Bool.true_and] at h
    walk_at "vc"
    refine lc_rng (S.length - 1) (fun i => .tup [nat i, nat (S.getD i 0)]) (fun Q hQ => ?_) (fun _ => true) (fun i => .bl (decide (S.getD i 0 < S.getD (i + 1) 0))) (fun i hi Q A h1 _ => ?_) ?_
    · walk_at "vc"
      rw [cut_last, ← List.map_dropLast, enum_map _ nat 0, List.length_dropLast]
      have e : (List.range (S.length - 1)).map (fun i => D.tup [nat i, nat (S.dropLast.getD i 0)]) = (List.range (S.length - 1)).map fun i => D.tup [nat i, nat (S.getD i 0)] := by
        refine List.map_congr_left fun i hi => ?_
        have hi := List.mem_range.mp hi
        rw [show S.dropLast.getD i 0 = S.getD i 0 by simp [List.getElem?_dropLast, hi, show i < S.length by omega]]
      rw [e]
      exact hQ
    · walk_at "vc"
      have e : atI (S.map nat) ((i : Int) + 1) = some (nat (S.getD (i + 1) 0)) := by
        have := at_map (enc := nat) (xs := S) (i := i + 1) (x := S.getD (i + 1) 0) (by simp [show i + 1 < S.length by omega])
        exact this
      rw [e]
      refine ⟨_, rfl, ?_⟩
      walk_at "vc"
      exact h1 rfl
    · refine ⟨(List.range (S.length - 1)).map fun i => decide (S.getD i 0 < S.getD (i + 1) 0), by rw [List.filter_eq_self.mpr fun _ _ => rfl, List.map_map]; rfl, ?_⟩
      rw [rising_all]
      exact h
def fullSet (n : Nat) (ts : List Tie) (h : Nat) (S : List Nat) : Bool := oddSet n S && decide (h * (S.length / 2) < (withinL ts S).length)
def q_is_full_set : PSp := fun ds P => ∃ n ts h S, ds = [webD n ts, nat h, natsT S] ∧ S.length ≤ 1000 ∧ h ≤ 1000 ∧ P (.bl (fullSet n ts h S))
theorem ok_is_full_set (T : Tx K mg) (L : Lo K mg "is_full_set" S_is_full_set) (c_is_odd_set : Callee P w K mg base k "is_odd_set" q_is_odd_set) (c_within : Callee P w K mg base k "within" q_within) : Callee P w K mg base (k + 1) "is_full_set" q_is_full_set := by
  refine mk_callee L sc_is_full_set b_is_full_set (fun tw => d_is_full_set T c_is_odd_set c_within) (fun ds P ⟨n, ts, hh, S, e, _⟩ => by rw [e]; rfl) fun ds P ⟨n, ts, hh, S, e, hz, hz2, h⟩ => ?_
  subst e
  unfold k_is_full_set
  walk_at "vc"
  refine ⟨n, ts, S, rfl, hz, _, rfl, ?_⟩
  unfold fullSet at h
  cases ho : oddSet n S with
  | false => rw [ho, Bool.false_and] at h; exact h
  | true =>
    rw [ho, Bool.true_and] at h
    walk_at "vc"
    refine ⟨n, ts, _, S, rfl, rfl, ?_⟩
    walk_at "vc"
    refine ⟨⟨by decide, by decide⟩, ?_⟩
    walk_at "vc"
    refine ⟨.inl ⟨by omega, by omega⟩, ?_⟩
    have e : decide ((hh : Int) * ((S.length : Int) / 2) < ((withinL ts S).length : Int)) = decide (hh * (S.length / 2) < (withinL ts S).length) := by
      rw [show ((hh : Int) * ((S.length : Int) / 2)) = ((hh * (S.length / 2) : Nat) : Int) by simp]
      exact lt_nat
    rw [e]
    exact h
end
end U
set_option Elab.async false
set_option linter.all false
set_option maxRecDepth 100000
set_option maxHeartbeats 1000000
namespace U
open PySem PySem.Spec PyProof.Rows L2
local macro_rules | `(tactic| walk_at "vc") => `(tactic| (first | simp only [hueD_n, hueD_s, kOoNew, kOoApp, Slot.oo.injEq, c_0, c_1, c_2, c_3, eq_self, kLenSet, kFldC, kMeth, kOwn, kApp, kExt, kIns, kPop, kPut, kAugA, kPar, kDk0, kDk1, kDkPut, kDt0, kDtPut, kUpd, kInDk, kInDt, kSorted, kTapeSet, kSwap, kCount, kIndex, kLstR, kCallF, kBinF, catP, listP, max2P, min2P, intBP, absP, tupleP, Slot.dk.injEq, Slot.dt.injEq, reduceCtorEq, false_and, exists_false, and_assoc, lenP, seq_l, seq_t, seq_s, natsD, natsT, rowD, num_nat, Nat.reduceLeDiff, inP, ninP, ni_i, ni_n, ni_hue, eqN_ih, eqN_ii, eqN_nn, eqN_ni, eqN_in, any_nats', any_hues_n, any_hues_i, all_ni, all_niH, beq_nat, List.all_cons, List.all_nil, List.any_cons, List.any_nil, Bool.or_false, Bool.and_true, Bool.true_and, at0, at1, at2, at3, kSl, koN, koS, slP, kItET, kItE, kItS, kItR1, kItR2, kItZ, kItZM, webD, nat, tieD, le0, lt_nat, le_nat, eq_nat, decide_true, decide_false, decide_eq_true_eq, kSeq, kNext, kRet, kSet, kDrop, kTgt, ksIf, kVar, kVarB, rdB_p, rdB_o, kC, kBin, kF, q_add_ii, q_add_ll, q_add_tt, q_sub_ii, q_mul_ii, q_mul_li, q_mod_ii, q_fdiv_ii, q_pow_ii, q_ix_l, q_ix_t, q_ix_s, q_ix_tp, q_ii, q_is_bb, q_is_n, q_nis_bb, q_nis_n, q_eq_ii, q_eq_ni, q_eq_in, q_eq_nn, q_eq_ss, q_eq_tt, q_eq_ll, q_isN_n, q_isN_i, q_isN_t, q_isN_l, q_isN_b, kNeg, kCmp, kCmpT, kChain, kBo, neP, kAnd, kOr, kNot, tkAnd, tkOr, tkNot, tkV, kIf, kNil, kCons, kTup, kLst, kCall, kIsi, gkName, gkTup, gkCons, gkNil, tkYes, relP, kRel, wipeP, startP, List.map_cons, List.map_nil, List.length_cons, List.length_nil, List.replicate_succ, List.replicate_zero, List.cons_append, List.nil_append, List.append_nil, Nat.reduceSub, Nat.reduceAdd, Nat.sub_self, List.getElem?_cons_zero, List.getElem?_cons_succ, List.getElem?_nil, List.set_cons_zero, List.set_cons_succ, List.set_nil, Option.some.injEq, Slot.p.injEq, Slot.o.injEq, D.tup.injEq, D.lst.injEq, D.int.injEq, D.bl.injEq, D.str.injEq, exists_eq_left', exists_eq_left, exists_eq_right, exists_eq_right', exists_and_left, exists_eq', exists_eq, and_true, true_and, Bool.not_true, Bool.not_false, if_true, if_false, Bool.false_eq_true, ite_true, ite_false, reduceIte, List.cons.injEq, List.length_map] | skip))
section
variable {P : Program} {w : World} {K : PySem.W.Frag} {mg : Str → Option Value} {base : Heap} {k : Nat}
/-! ### trees of hues to try -/
abbrev Way := List (Nat × Nat)
def wayD (way : Way) : D := .lst (way.map tieD)
def taken (ts : List Tie) (way : Way) (i : Nat) : List Nat := (way.filter fun kh => meet (tie ts kh.1) (tie ts i)).map (·.2)
def dedup : List Nat → List Nat
  | [] => []
  | x :: xs => if x ∈ dedup xs then dedup xs else x :: dedup xs
theorem mem_dedup {x : Nat} : ∀ {xs : List Nat}, x ∈ dedup xs ↔ x ∈ xs
  | [] => Iff.rfl
  | y :: ys => by
    unfold dedup
    split
    · rename_i h
      rw [mem_dedup, List.mem_cons]
      exact ⟨.inr, fun z => z.elim (fun e => by rw [e]; exact mem_dedup.mp h) id⟩
    · rw [List.mem_cons, List.mem_cons, mem_dedup]
theorem nd_dedup : ∀ xs : List Nat, (dedup xs).Nodup
  | [] => List.nodup_nil
  | y :: ys => by
    unfold dedup
    split
    · exact nd_dedup ys
    · exact List.nodup_cons.mpr ⟨by assumption, nd_dedup ys⟩
def met (way : Way) : Nat := (dedup (way.map (·.2))).length
def huesToTry (ts : List Tie) (h : Nat) (way : Way) (i : Nat) : List Nat := (List.range (min h (met way + 1))).filter fun x => !(taken ts way i).contains x
def WayOk (ts : List Tie) (way : Way) : Prop := way.length ≤ 100 ∧ ∀ kh ∈ way, kh.1 < ts.length
def q_hues_to_try : PSp := fun ds P => ∃ n ts h way i, ds = [webD n ts, nat h, wayD way, nat i] ∧ WayOk ts way ∧ i < ts.length ∧ h ≤ 1000 ∧ P (natsD (huesToTry ts h way i))
theorem len_dedup (xs : List Nat) : (dedup xs).length ≤ xs.length := by
  induction xs with
  | nil => exact Nat.le_refl _
  | cons x xs ih =>
    unfold dedup
    split
    · exact Nat.le_succ_of_le ih
    · exact Nat.succ_le_succ ih
theorem nd_ints {xs : List Nat} (h : xs.Nodup) : (xs.map fun (x : Nat) => (x : Int)).Nodup := by
  unfold List.Nodup at h ⊢
  rw [List.pairwise_map]
  exact h.imp fun h e => h (Int.ofNat.inj e)
theorem fin_or {a b : Bool} {X A : Prop} (h1 : (a || b) = true → X) (h2 : (a || b) = false → A) : if a = true then X else if b = true then X else A := by
  cases a with
  | false => exact fin_if (b := b) (fun e => h1 (by rw [e]; rfl)) fun e => h2 (by rw [e]; rfl)
  | true => exact h1 rfl
theorem ok_hues_to_try (T : Tx K mg) (L : Lo K mg "hues_to_try" S_hues_to_try) : Callee P w K mg base (k + 1) "hues_to_try" q_hues_to_try := by
  refine mk_callee L sc_hues_to_try b_hues_to_try (fun tw => d_hues_to_try T) (fun ds P ⟨n, ts, hh, way, i, e, _⟩ => by rw [e]; rfl) fun ds P ⟨n, ts, hh, way, i, e, hw, hi, hh0, h⟩ => ?_
  subst e
  unfold k_hues_to_try wayD
  walk_at "vc"
  rw [at_tie hi]
  refine ⟨_, rfl, ?_⟩
  walk_at "vc"
  refine lc_map way tieD (fun Q hQ => ?_) (fun kh => meet (tie ts kh.1) (tie ts i)) (fun kh => nat kh.2) (fun kh hkh Q A h1 h2 => ?_) ?_
  · walk_at "vc"
    exact hQ
  · have hk := hw.2 kh hkh
    walk_at "vc"
    rw [at_tie hk]
    refine ⟨_, rfl, ?_⟩
    walk_at "vc"
    exact fin_or h1 h2
  · rw [show (way.filter fun kh => meet (tie ts kh.1) (tie ts i)).map (fun kh => nat kh.2) = (taken ts way i).map nat from by unfold taken; rw [List.map_map]; rfl]
    walk_at "vc"
    refine lc_map way tieD (fun Q hQ => ?_) (fun _ => true) (fun kh => nat kh.2) (fun kh hkh Q A h1 h2 => ?_) ?_
    · walk_at "vc"
      exact hQ
    · walk_at "vc"
      exact h1 rfl
    · refine ⟨way.map fun kh => ((kh.2 : Nat) : Int), ?_, by rw [List.length_map]; have := hw.1; omega, fun ds nd hds => ?_⟩
      · rw [List.filter_eq_self.mpr fun _ _ => rfl, List.map_map]; rfl
      have em : ds.length = met way := by
        have h1 : (dedup (way.map (·.2))).map (fun (x : Nat) => (x : Int)) ⊆ ds := fun x hx => by
          obtain ⟨y, hy, rfl⟩ := List.mem_map.mp hx
          obtain ⟨kh, hk, rfl⟩ := List.mem_map.mp (mem_dedup.mp hy)
          exact (hds _).mpr (List.mem_map.mpr ⟨kh, hk, rfl⟩)
        have h2 : ds ⊆ (dedup (way.map (·.2))).map (fun (x : Nat) => (x : Int)) := fun x hx => by
          obtain ⟨kh, hk, rfl⟩ := List.mem_map.mp ((hds x).mp hx)
          exact List.mem_map.mpr ⟨kh.2, mem_dedup.mpr (List.mem_map.mpr ⟨kh, hk, rfl⟩), rfl⟩
        have l1 := List.Nodup.length_le_of_subset (nd_ints (nd_dedup _)) h1
        have l2 := List.Nodup.length_le_of_subset nd h2
        rw [List.length_map] at l1 l2
        exact Nat.le_antisymm l2 l1
      rw [em]
      walk_at "vc"
      refine lc_rng (min hh (met way + 1)) nat (fun Q hQ => ?_) (fun x => !(taken ts way i).contains x) nat (fun x hx Q A h1 h2 => ?_) h
      · walk_at "vc"
        rw [show min (hh : Int) ((met way : Int) + 1) = ((min hh (met way + 1) : Nat) : Int) by omega]
        exact ⟨by omega, by omega, by rw [rng_nat]; exact hQ⟩
      · walk_at "vc"
        exact fin_if h1 h2
/-! ### is_new_tie -/
def q_is_new_tie : PSp := fun ds P => ∃ n ts way i, ds = [webD n ts, wayD way, nat i] ∧ P (.bl (decide (i < ts.length) && !(way.map (·.1)).contains i))
theorem ok_is_new_tie (T : Tx K mg) (L : Lo K mg "is_new_tie" S_is_new_tie) (c_is_number : Callee P w K mg base k "is_number" q_is_number) : Callee P w K mg base (k + 1) "is_new_tie" q_is_new_tie := by
  refine mk_callee L sc_is_new_tie b_is_new_tie (fun tw => d_is_new_tie T c_is_number) (fun ds P ⟨n, ts, way, i, e, _⟩ => by rw [e]; rfl) fun ds P ⟨n, ts, way, i, e, h⟩ => ?_
  subst e
  unfold k_is_new_tie wayD
  walk_at "vc"
  refine ⟨_, rfl, pl_int, ?_⟩
  walk_at "vc"
  split
  · rename_i hi
    rw [decide_eq_true hi, Bool.true_and] at h
    refine lc_map way tieD (fun Q hQ => ?_) (fun _ => true) (fun kh => nat kh.1) (fun kh hkh Q A h1 h2 => ?_) ?_
    · walk_at "vc"
      exact hQ
    · walk_at "vc"
      exact h1 rfl
    · rw [List.filter_eq_self.mpr fun _ _ => rfl, show way.map (fun kh => nat kh.1) = (way.map (·.1)).map nat from by rw [List.map_map]; rfl]
      walk_at "vc"
      exact h
  · rename_i hi
    rw [decide_eq_false hi, Bool.false_and] at h
    exact h
/-! ### trees -/
/-- a tree of depth below f -/
def TreeD : Nat → D → Prop
  | 0, _ => False
  | f + 1, d => ∃ i ds, d = .tup [nat i, .tup ds] ∧ ds.length ≤ 1000 ∧ ∀ x ∈ ds, TreeD f x
def isT (ts : List Tie) (h : Nat) : Nat → Way → D → Bool
  | 0, _, _ => false
  | f + 1, way, .tup [.int i, .tup ds] => decide (i.toNat < ts.length) && !(way.map (·.1)).contains i.toNat && decide (ds.length = (huesToTry ts h way i.toNat).length) &&
      ((List.range ds.length).all fun j => isT ts h f (way ++ [(i.toNat, (huesToTry ts h way i.toNat).getD j 0)]) (ds.getD j .non))
  | _, _, _ => false
theorem isT_at (ts : List Tie) (h f : Nat) (way : Way) (i : Nat) (ds : List D) : isT ts h (f + 1) way (.tup [nat i, .tup ds]) = (decide (i < ts.length) && !(way.map (·.1)).contains i && decide (ds.length = (huesToTry ts h way i).length) &&
      ((List.range ds.length).all fun j => isT ts h f (way ++ [(i, (huesToTry ts h way i).getD j 0)]) (ds.getD j .non))) := rfl
theorem treeD_pl {f : Nat} {d : D} (h : TreeD f d) : pl d = true := by
  cases f with
  | zero => exact h.elim
  | succ f => obtain ⟨i, ds, rfl, _⟩ := h; rfl
def q_is_tree_behind (f : Nat) : PSp := fun ds P => ∃ n ts h way d, ds = [webD n ts, nat h, wayD way, d] ∧ WayOk ts way ∧ way.length + f ≤ 40 ∧ h ≤ 1000 ∧ TreeD f d ∧ P (.bl (isT ts h f way d))
theorem ok_is_tree_behind (T : Tx K mg) (L : Lo K mg "is_tree_behind" S_is_tree_behind) (f : Nat) (c_is_new_tie : Callee P w K mg base (k + f) "is_new_tie" q_is_new_tie) (c_hues_to_try : Callee P w K mg base (k + f) "hues_to_try" q_hues_to_try) (ih : Callee P w K mg base (k + f) "is_tree_behind" (q_is_tree_behind f)) : Callee P w K mg base (k + f + 1) "is_tree_behind" (q_is_tree_behind (f + 1)) := by
  refine mk_callee L sc_is_tree_behind b_is_tree_behind (fun tw => d_is_tree_behind T c_is_new_tie c_hues_to_try ih) (fun ds P ⟨n, ts, hh, way, d, e, _⟩ => by rw [e]; rfl) fun ds P ⟨n, ts, hh, way, d, e, hw, hl, hh0, ht, h⟩ => ?_
  subst e
  obtain ⟨i, ks, rfl, hz, hk⟩ := ht
  rw [isT_at] at h
  unfold k_is_tree_behind wayD
  walk_at "vc"
  refine ⟨_, isi_tup, ?_⟩
  walk_at "vc"
  refine ⟨n, ts, way, i, rfl, ?_⟩
  walk_at "vc"
  have hmem : ∀ kh ∈ way, kh.1 < ts.length := hw.2
  cases hb : (decide (i < ts.length) && !(way.map (·.1)).contains i) with
  | false =>
    rw [hb, Bool.false_and, Bool.false_and] at h
    walk_at "vc"
    exact h
  | true =>
    rw [hb, Bool.true_and] at h
    have hi : i < ts.length := of_decide_eq_true (Bool.and_eq_true_iff.mp hb).1
    walk_at "vc"
    refine ⟨n, ts, hh, way, i, rfl, hw, hi, hh0, ?_⟩
    walk_at "vc"
    refine ⟨_, isi_tup, ?_⟩
    walk_at "vc"
    by_cases hle : ks.length = (huesToTry ts hh way i).length
    · rw [decide_eq_true hle, Bool.true_and] at h
      rw [if_neg (by rw [decide_eq_true hle]; decide)]
      refine lc_rng ks.length (fun j => .tup [nat ((huesToTry ts hh way i).getD j 0), ks.getD j .non]) (fun Q hQ => ?_) (fun _ => true) (fun j => .bl (isT ts hh f (way ++ [(i, (huesToTry ts hh way i).getD j 0)]) (ks.getD j .non))) (fun j hj Q A h1 _ => ?_) ?_
      · walk_at "vc"
        refine ⟨by rw [hle], ?_⟩
        have e : zipD ((huesToTry ts hh way i).map nat) ks = (List.range ks.length).map fun j => .tup [nat ((huesToTry ts hh way i).getD j 0), ks.getD j .non] := by
          unfold zipD
          rw [List.length_map, ← hle, Nat.min_self]
          refine List.map_congr_left fun j hj => ?_
          have hj := List.mem_range.mp hj
          rw [show ((huesToTry ts hh way i).map nat).getD j .non = nat ((huesToTry ts hh way i).getD j 0) by simp [hle ▸ hj]]
        rw [e]
        exact hQ
      · walk_at "vc"
        refine ⟨?_, ?_⟩
        · have := hw.1
          exact Nat.le_of_lt (small1000 (by omega))
        · refine ⟨n, ts, hh, way ++ [(i, (huesToTry ts hh way i).getD j 0)], ks.getD j .non, ?_, ⟨?_, fun kh hkh => ?_⟩, ?_, hh0, ?_, h1 rfl⟩
          · unfold wayD
            rw [List.map_append]; rfl
          · rw [List.length_append]; simp; omega
          · rcases List.mem_append.mp hkh with z | z
            · exact hmem kh z
            · rw [List.mem_singleton.mp z]; exact hi
          · rw [List.length_append]; simp; omega
          · refine hk _ ?_
            rw [show ks.getD j .non = ks[j] by simp [hj]]
            exact List.getElem_mem hj
      · refine ⟨(List.range ks.length).map fun j => isT ts hh f (way ++ [(i, (huesToTry ts hh way i).getD j 0)]) (ks.getD j .non), by rw [List.filter_eq_self.mpr fun _ _ => rfl, List.map_map]; rfl, ?_⟩
        rw [List.all_map]
        exact h
    · rw [decide_eq_false hle, Bool.false_and] at h
      rw [if_pos (by rw [decide_eq_false hle]; rfl)]
      exact h
/-- trees of every depth: the def at its own level -/
theorem ok_tree_all (T : Tx K mg) (L : Lo K mg "is_tree_behind" S_is_tree_behind) (c_is_new_tie : Callee P w K mg base k "is_new_tie" q_is_new_tie) (c_hues_to_try : Callee P w K mg base k "hues_to_try" q_hues_to_try) : ∀ f, Callee P w K mg base (k + f) "is_tree_behind" (q_is_tree_behind f)
  | 0 => by
    obtain ⟨f, fd, h1, F⟩ := L.ex
    exact ⟨f, fd, ["web", "hues", "way", "thing"], h1, F.kp, b_is_tree_behind F, ⟨fun vs H Q E ⟨_, _, ds, _, _, _, _, _, ⟨_, _, _, _, _, _, _, _, _, z, _⟩, _⟩ => z.elim, fun A outer s H args us vs Q E _ _ _ _ ⟨_, _, ds, _, _, _, _, _, ⟨_, _, _, _, _, _, _, _, _, z, _⟩, _⟩ => z.elim⟩⟩
  | f + 1 => ok_is_tree_behind T L f (c_is_new_tie.mono (by omega)) (c_hues_to_try.mono (by omega)) (ok_tree_all T L c_is_new_tie c_hues_to_try f)
/-! ### papers -/
inductive Pap where
  | place (p : Nat) | set (S : List Nat) | tree (d : D)
def papD : Pap → D
  | .place p => .tup [.str "place", nat p]
  | .set S => .tup [.str "set", natsT S]
  | .tree d => .tup [.str "tree", d]
def PapOk : Pap → Prop
  | .place _ => True
  | .set S => S.length ≤ 1000
  | .tree d => TreeD 20 d
def showsFewer (n : Nat) (ts : List Tie) (h : Nat) : Pap → Bool
  | .place p => decide (p < n) && decide (h < (tiesAt ts p).length)
  | .set S => fullSet n ts h S
  | .tree d => isT ts h 20 [] d
def q_shows_fewer : PSp := fun ds P => ∃ n ts h pa, ds = [webD n ts, nat h, papD pa] ∧ h ≤ 1000 ∧ PapOk pa ∧ P (.bl (showsFewer n ts h pa))
theorem ok_shows_fewer (T : Tx K mg) (L : Lo K mg "shows_fewer" S_shows_fewer) (c_is_place_of : Callee P w K mg base k "is_place_of" q_is_place_of) (c_count_at : Callee P w K mg base k "count_at" q_count_at) (c_is_full_set : Callee P w K mg base k "is_full_set" q_is_full_set) (c_is_tree_behind : Callee P w K mg base k "is_tree_behind" (q_is_tree_behind 20)) : Callee P w K mg base (k + 1) "shows_fewer" q_shows_fewer := by
  refine mk_callee L sc_shows_fewer b_shows_fewer (fun tw => d_shows_fewer T c_is_place_of c_count_at c_is_full_set c_is_tree_behind) (fun ds P ⟨n, ts, hh, pa, e, _⟩ => by rw [e]; rfl) fun ds P ⟨n, ts, hh, pa, e, hh0, ho, h⟩ => ?_
  subst e
  unfold k_shows_fewer
  cases pa with
  | place p =>
    unfold papD
    walk_at "vc"
    refine ⟨_, isi_tup, ?_⟩
    walk_at "vc"
    refine ⟨n, ts, _, rfl, rfl, ?_⟩
    have h : P (.bl (decide (p < n) && decide (hh < (tiesAt ts p).length))) := h
    by_cases hp : p < n
    · rw [decide_eq_true hp, Bool.true_and] at h
      have e : isPlace n (nat p) = true := by
        show (decide ((0 : Int) ≤ (p : Int)) && decide ((p : Int) < (n : Int))) = true
        rw [le0, lt_nat, decide_eq_true hp]; rfl
      refine ⟨_, rfl, ?_⟩
      rw [show isPlace n (D.int (p : Int)) = true from e]
      walk_at "vc"
      refine ⟨n, ts, p, rfl, hp, ?_⟩
      walk_at "vc"
      exact h
    · rw [decide_eq_false hp, Bool.false_and] at h
      have e : isPlace n (nat p) = false := by
        show (decide ((0 : Int) ≤ (p : Int)) && decide ((p : Int) < (n : Int))) = false
        rw [le0, lt_nat, decide_eq_false hp]; rfl
      refine ⟨_, rfl, ?_⟩
      rw [show isPlace n (D.int (p : Int)) = false from e]
      walk_at "vc"
      exact h
  | set S =>
    unfold papD
    walk_at "vc"
    refine ⟨_, isi_tup, ?_⟩
    walk_at "vc"
    rw [if_neg (by decide)]
    exact ⟨n, ts, hh, S, rfl, ho, hh0, h⟩
  | tree d =>
    unfold papD
    walk_at "vc"
    refine ⟨_, isi_tup, ?_⟩
    walk_at "vc"
    rw [if_neg (by decide), if_neg (by decide)]
    walk_at "vc"
    exact ⟨n, ts, hh, [], d, rfl, ⟨by decide, fun kh z => absurd z (by simp)⟩, by decide, hh0, ho, h⟩
/-- the whole answer: the number, the row, the paper (none for no tie) -/
def papO : Option Pap → D
  | none => .non
  | some pa => papD pa
def fewest3 (n : Nat) (ts : List Tie) (num : Nat) (r : List (Option Nat)) (pa : Option Pap) : Bool :=
  !r.contains none && r.all (fun x => match x with | some h => decide (h < num) | none => false) && (match pa with | none => decide (num = 0) | some pa => decide (0 < num) && showsFewer n ts (num - 1) pa)
def q_shows_fewest : PSp := fun ds P => ∃ n ts num r pa, ds = [webD n ts, .tup [nat num, rowD r, papO pa]] ∧ Web n ts ∧ Proper ts r ∧ num ≤ 1000 ∧ (∀ p, pa = some p → PapOk p) ∧ r.contains none = false ∧ (∀ x ∈ r, ∀ h, x = some h → h < num) ∧ (num = 0 ↔ pa = none) ∧ P (.bl (match pa with | none => true | some p => showsFewer n ts (num - 1) p))
theorem ok_shows_fewest (T : Tx K mg) (L : Lo K mg "shows_fewest" S_shows_fewest) (c_is_number : Callee P w K mg base k "is_number" q_is_number) (c_is_whole : Callee P w K mg base k "is_whole" q_is_whole) (c_shows_fewer : Callee P w K mg base k "shows_fewer" q_shows_fewer) : Callee P w K mg base (k + 1) "shows_fewest" q_shows_fewest := by
  refine mk_callee L sc_shows_fewest b_shows_fewest (fun tw => d_shows_fewest T c_is_number c_is_whole c_shows_fewer) (fun ds P ⟨n, ts, num, r, pa, e, _⟩ => by rw [e]; rfl) fun ds P ⟨n, ts, num, r, pa, e, W, hp, hn, ho, h0, h1, h2, h⟩ => ?_
  subst e
  unfold k_shows_fewest
  walk_at "vc"
  refine ⟨_, isi_tup, ?_⟩
  walk_at "vc"
  refine ⟨_, rfl, rfl, ?_⟩
  walk_at "vc"
  refine ⟨n, ts, r, rfl, W, hp, ?_⟩
  rw [h0]
  walk_at "vc"
  refine lc_map r hueD (fun Q hQ => ?_) (fun _ => true) (fun _ => .bl true) (fun x hx Q A g1 _ => ?_) ?_
  · walk_at "vc"
    exact hQ
  · obtain ⟨hx', e⟩ : ∃ y, x = some y := by
      cases x with
      | some y => exact ⟨y, rfl⟩
      | none =>
        have : r.contains none = true := List.contains_iff_mem.mpr hx
        rw [h0] at this; cases this
    subst e
    have lt := h1 _ hx _ rfl
    unfold hueD
    walk_at "vc"
    rw [decide_eq_true lt]
    exact g1 rfl
  · refine ⟨(r.filter fun _ => true).map fun _ => true, by rw [List.map_map]; rfl, _, rfl, ?_⟩
    rw [show ((r.filter fun _ => true).map fun _ => true).all id = true from by rw [List.all_map]; exact List.all_eq_true.mpr fun _ _ => rfl]
    walk_at "vc"
    cases pa with
    | none =>
      have e := h2.mpr rfl
      subst e
      exact h
    | some p =>
      have hn0 : num ≠ 0 := fun e => by have := h2.mp e; cases this
      rw [if_neg (by omega)]
      exact ⟨n, ts, num - 1, p, by rw [show ((num : Int) - 1) = ((num - 1 : Nat) : Int) by omega]; rfl, by omega, ho p rfl, h⟩
end
end U
set_option Elab.async false
set_option linter.all false
set_option maxRecDepth 100000
set_option maxHeartbeats 1000000
namespace U
open PySem PySem.Spec PyProof.Rows L2
local macro_rules | `(tactic| walk_at "vc") => `(tactic| (first | simp only [hueD_n, hueD_s, kOoNew, kOoApp, Slot.oo.injEq, c_0, c_1, c_2, c_3, eq_self, kLenSet, kFldC, kMeth, kOwn, kApp, kExt, kIns, kPop, kPut, kAugA, kPar, kDk0, kDk1, kDkPut, kDt0, kDtPut, kUpd, kInDk, kInDt, kSorted, kTapeSet, kSwap, kCount, kIndex, kLstR, kCallF, kBinF, catP, listP, max2P, min2P, intBP, absP, tupleP, Slot.dk.injEq, Slot.dt.injEq, reduceCtorEq, false_and, exists_false, and_assoc, lenP, seq_l, seq_t, seq_s, natsD, natsT, rowD, num_nat, Nat.reduceLeDiff, inP, ninP, ni_i, ni_n, ni_hue, eqN_ih, eqN_ii, eqN_nn, eqN_ni, eqN_in, any_nats', any_hues_n, any_hues_i, all_ni, all_niH, beq_nat, List.all_cons, List.all_nil, List.any_cons, List.any_nil, Bool.or_false, Bool.and_true, Bool.true_and, at0, at1, at2, at3, kSl, koN, koS, slP, kItET, kItE, kItS, kItR1, kItR2, kItZ, kItZM, webD, nat, tieD, le0, lt_nat, le_nat, eq_nat, decide_true, decide_false, decide_eq_true_eq, kSeq, kNext, kRet, kSet, kDrop, kTgt, ksIf, kVar, kVarB, rdB_p, rdB_o, kC, kBin, kF, q_add_ii, q_add_ll, q_add_tt, q_sub_ii, q_mul_ii, q_mul_li, q_mod_ii, q_fdiv_ii, q_pow_ii, q_ix_l, q_ix_t, q_ix_s, q_ix_tp, q_ii, q_is_bb, q_is_n, q_nis_bb, q_nis_n, q_eq_ii, q_eq_ni, q_eq_in, q_eq_nn, q_eq_ss, q_eq_tt, q_eq_ll, q_isN_n, q_isN_i, q_isN_t, q_isN_l, q_isN_b, kNeg, kCmp, kCmpT, kChain, kBo, neP, kAnd, kOr, kNot, tkAnd, tkOr, tkNot, tkV, kIf, kNil, kCons, kTup, kLst, kCall, kIsi, gkName, gkTup, gkCons, gkNil, tkYes, relP, kRel, wipeP, startP, List.map_cons, List.map_nil, List.length_cons, List.length_nil, List.replicate_succ, List.replicate_zero, List.cons_append, List.nil_append, List.append_nil, Nat.reduceSub, Nat.reduceAdd, Nat.sub_self, List.getElem?_cons_zero, List.getElem?_cons_succ, List.getElem?_nil, List.set_cons_zero, List.set_cons_succ, List.set_nil, Option.some.injEq, Slot.p.injEq, Slot.o.injEq, D.tup.injEq, D.lst.injEq, D.int.injEq, D.bl.injEq, D.str.injEq, exists_eq_left', exists_eq_left, exists_eq_right, exists_eq_right', exists_and_left, exists_eq', exists_eq, and_true, true_and, Bool.not_true, Bool.not_false, if_true, if_false, Bool.false_eq_true, ite_true, ite_false, reduceIte, List.cons.injEq, List.length_map] | skip))
section
variable {P : Program} {w : World} {K : PySem.W.Frag} {mg : Str → Option Value} {base : Heap} {k : Nat}
theorem range_set {α : Type} {n c : Nat} {f g : Nat → α} (h : ∀ i, i < n → i ≠ c → f i = g i) : ((List.range n).map f).set c (g c) = (List.range n).map g := by
  refine List.ext_getElem? fun i => ?_
  rw [List.getElem?_set, List.getElem?_map, List.getElem?_map]
  by_cases hi : i < n
  · rw [List.getElem?_range hi]
    by_cases e : c = i
    · subst e
      rw [if_pos rfl, if_pos (by simpa using hi)]; rfl
    · rw [if_neg e]
      show some (f i) = some (g i)
      rw [h i hi (fun z => e z.symm)]
  · rw [List.getElem?_eq_none (by simpa using hi)]
    split
    · rw [if_neg (by simpa using (by omega : ¬ c < n))]; rfl
    · rfl
def classTo (r : List (Option Nat)) (c n : Nat) : List Nat := (List.range n).filter fun i => hue r i == some c
def classOf (r : List (Option Nat)) (c : Nat) : List Nat := classTo r c r.length
theorem classTo_len (r : List (Option Nat)) (c n : Nat) : (classTo r c n).length ≤ n := by
  have := List.length_filter_le (fun i => hue r i == some c) (List.range n)
  rw [List.length_range] at this
  exact this
theorem filter_range_succ (p : Nat → Bool) (n : Nat) : (List.range (n + 1)).filter p = if p n = true then (List.range n).filter p ++ [n] else (List.range n).filter p := by
  rw [List.range_succ, filter_snoc]
def q_classes : PSp := fun ds P => ∃ r h, ds = [rowD r, nat h] ∧ r.length ≤ 1000 ∧ h ≤ 1000 ∧ P (.lst ((List.range h).map fun c => natsD (classOf r c)))
theorem ok_classes (T : Tx K mg) (L : Lo K mg "classes" S_classes) : Callee P w K mg base (k + 1) "classes" q_classes := by
  refine mk_callee L sc_classes b_classes (fun tw => d_classes T) (fun ds P ⟨r, h, e, _⟩ => by rw [e]; rfl) fun ds P ⟨r, hh, e, hr, hz, h⟩ => ?_
  subst e
  unfold k_classes
  walk_at "vc"
  refine ⟨by omega, by omega, fun a bs hb => ?_⟩
  rw [rng_nat, List.length_map, List.length_range]
  refine for_rng r.length (fun i => .tup [nat i, hueD (hue r i)]) (fun Q hQ => ?_) (fun i ρ => ∃ s3 s4, ρ = [.p (rowD r), .p (nat hh), .oo a bs ((List.range hh).map fun c => (classTo r c i).map nat), s3, s4]) ⟨.any, .any, ?_⟩ (fun i ρ' hi ⟨s3, s4, e⟩ => ?_) fun ρ' ⟨s3, s4, e⟩ => ?_
  · walk_at "vc"
    rw [enum_map r hueD none]
    exact hQ
  · rw [show (List.range hh).map (fun c => (classTo r c 0).map nat) = List.replicate hh [] from List.eq_replicate_iff.mpr ⟨by simp, fun b hb => by
      obtain ⟨c, _, rfl⟩ := List.mem_map.mp hb
      rfl⟩]
    rfl
  · subst e
    walk_at "vc"
    have other : ∀ c, hue r i ≠ some c → classTo r c (i + 1) = classTo r c i := fun c hc => by
      unfold classTo
      rw [filter_range_succ, if_neg (fun z => hc (eq_of_beq z))]
    cases hx : hue r i with
    | none =>
      walk_at "vc"
      exact List.map_congr_left fun c _ => by rw [other c (by rw [hx]; exact fun z => nomatch z)]
    | some c =>
      walk_at "vc"
      by_cases hc : c < hh
      · rw [if_pos hc]
        refine ⟨c, rfl, (classTo r c i).map nat, by simp [hc], ?_, ?_⟩
        · rw [List.length_map]
          have := classTo_len r c i
          omega
        · have e : (classTo r c i).map nat ++ [D.int (i : Int)] = (classTo r c (i + 1)).map nat := by
            have e2 : classTo r c (i + 1) = classTo r c i ++ [i] := by
              unfold classTo
              rw [filter_range_succ, if_pos (by rw [hx]; exact beq_self_eq_true _)]
            rw [e2, List.map_append]; rfl
          rw [e]
          exact range_set (g := fun c => (classTo r c (i + 1)).map nat) fun c' _ hne => by rw [other c' (by rw [hx]; exact fun z => hne (Option.some.inj z).symm)]
      · rw [if_neg hc]
        exact List.map_congr_left fun c' hc' => by rw [other c' (by rw [hx]; exact fun z => hc (by have := Option.some.inj z; have := List.mem_range.mp hc'; omega))]
  · subst e
    walk_at "vc"
    rw [List.map_map]
    exact h
def q_sizes : PSp := fun ds P => ∃ r h, ds = [rowD r, nat h] ∧ r.length ≤ 1000 ∧ h ≤ 1000 ∧ P (natsD ((List.range h).map fun c => (classOf r c).length))
theorem ok_sizes (T : Tx K mg) (L : Lo K mg "sizes" S_sizes) (c_classes : Callee P w K mg base k "classes" q_classes) : Callee P w K mg base (k + 1) "sizes" q_sizes := by
  refine mk_callee L sc_sizes b_sizes (fun tw => d_sizes T c_classes) (fun ds P ⟨r, h, e, _⟩ => by rw [e]; rfl) fun ds P ⟨r, hh, e, hr, hz, h⟩ => ?_
  subst e
  unfold k_sizes
  walk_at "vc"
  refine lc_rng hh (fun c => natsD (classOf r c)) (fun Q hQ => ?_) (fun _ => true) (fun c => nat (classOf r c).length) (fun c hc Q A h1 _ => ?_) ?_
  · walk_at "vc"
    exact ⟨r, hh, rfl, hr, hz, hQ⟩
  · walk_at "vc"
    exact h1 rfl
  · rw [List.filter_eq_self.mpr fun _ _ => rfl]
    unfold natsD at h
    rw [List.map_map] at h
    exact h
/-! ### ties_by_place -/
def tiesTo (ts : List Tie) (p n : Nat) : List Nat := (List.range n).filter fun i => (tie ts i).1 == p || (tie ts i).2 == p
theorem tiesTo_len (ts : List Tie) (p n : Nat) : (tiesTo ts p n).length ≤ n := by
  have := List.length_filter_le (fun i => (tie ts i).1 == p || (tie ts i).2 == p) (List.range n)
  rw [List.length_range] at this
  exact this
theorem ok_ties_by_place (T : Tx K mg) (L : Lo K mg "ties_by_place" S_ties_by_place) : Callee P w K mg base (k + 1) "ties_by_place" q_ties_by_place := by
  refine mk_callee L sc_ties_by_place b_ties_by_place (fun tw => d_ties_by_place T) (fun ds P ⟨n, ts, e, _⟩ => by rw [e]; rfl) fun ds P ⟨n, ts, e, W, h⟩ => ?_
  subst e
  unfold k_ties_by_place
  walk_at "vc"
  have n12 := W.n12
  have t16 := W.t16
  refine ⟨by omega, by omega, fun a bs hb => ?_⟩
  rw [rng_nat, List.length_map, List.length_range]
  refine for_rng ts.length (fun i => .tup [nat i, tieD (tie ts i)]) (fun Q hQ => ?_) (fun i ρ => ∃ s2 s3 s4 s5, ρ = [.p (webD n ts), .oo a bs ((List.range n).map fun p => (tiesTo ts p i).map nat), s2, s3, s4, s5]) ⟨.any, .any, .any, .any, ?_⟩ (fun i ρ' hi ⟨s2, s3, s4, s5, e⟩ => ?_) fun ρ' ⟨s2, s3, s4, s5, e⟩ => ?_
  · walk_at "vc"
    rw [enum_map ts tieD (0, 0)]
    exact hQ
  · rw [show (List.range n).map (fun p => (tiesTo ts p 0).map nat) = List.replicate n [] from List.eq_replicate_iff.mpr ⟨by simp, fun b hb => by
      obtain ⟨c, _, rfl⟩ := List.mem_map.mp hb
      rfl⟩]
    rfl
  · subst e
    walk_at "vc"
    obtain ⟨lt1, lt2⟩ := W.at hi
    have len := tiesTo_len ts
    refine ⟨(tie ts i).1, rfl, (tiesTo ts (tie ts i).1 i).map nat, by rw [List.getElem?_map, List.getElem?_range (by omega)]; rfl, by rw [List.length_map]; have := len (tie ts i).1 i; omega, ?_⟩
    have mid : ((List.range n).map fun p => (tiesTo ts p i).map nat).set (tie ts i).1 ((tiesTo ts (tie ts i).1 i).map nat ++ [D.int (i : Int)]) = (List.range n).map fun p => if p = (tie ts i).1 then (tiesTo ts p i).map nat ++ [D.int (i : Int)] else (tiesTo ts p i).map nat := by
      have := range_set (n := n) (c := (tie ts i).1) (f := fun p => (tiesTo ts p i).map nat) (g := fun p => if p = (tie ts i).1 then (tiesTo ts p i).map nat ++ [D.int (i : Int)] else (tiesTo ts p i).map nat) fun p _ hne => by rw [if_neg hne]
      rw [if_pos rfl] at this
      exact this
    rw [mid]
    walk_at "vc"
    refine ⟨(tie ts i).2, rfl, (tiesTo ts (tie ts i).2 i).map nat, ?_, by rw [List.length_map]; have := len (tie ts i).2 i; omega, ?_⟩
    · rw [List.getElem?_map, List.getElem?_range lt2]
      show some (if (tie ts i).2 = (tie ts i).1 then _ else _) = _
      rw [if_neg (by omega)]
    · have z : ((List.range n).map fun p => if p = (tie ts i).1 then (tiesTo ts p i).map nat ++ [D.int (i : Int)] else (tiesTo ts p i).map nat).set (tie ts i).2 ((tiesTo ts (tie ts i).2 (i + 1)).map nat) = (List.range n).map fun p => (tiesTo ts p (i + 1)).map nat := range_set (n := n) (c := (tie ts i).2) (f := fun p => if p = (tie ts i).1 then (tiesTo ts p i).map nat ++ [D.int (i : Int)] else (tiesTo ts p i).map nat) (g := fun p => (tiesTo ts p (i + 1)).map nat) fun p _ hne => by
        by_cases hp : p = (tie ts i).1
        · rw [if_pos hp]
          have e2 : tiesTo ts p (i + 1) = tiesTo ts p i ++ [i] := by
            unfold tiesTo
            rw [filter_range_succ, if_pos (by rw [hp, beq_self_eq_true]; rfl)]
          rw [e2, List.map_append]; rfl
        · rw [if_neg hp]
          have e2 : tiesTo ts p (i + 1) = tiesTo ts p i := by
            unfold tiesTo
            rw [filter_range_succ, if_neg (by
              rw [Bool.or_eq_true]
              rintro (z | z)
              · exact hp (eq_of_beq z).symm
              · exact hne (eq_of_beq z).symm)]
          rw [e2]
      have e2 : tiesTo ts (tie ts i).2 (i + 1) = tiesTo ts (tie ts i).2 i ++ [i] := by
        unfold tiesTo
        rw [filter_range_succ, if_pos (by rw [beq_self_eq_true, Bool.or_true])]
      rw [e2, List.map_append] at z
      exact z
  · subst e
    walk_at "vc"
    rw [List.map_map]
    unfold byPlace at h
    rw [List.map_map] at h
    exact h
/-! ### clash_of -/
def keysTo (ts : List Tie) (r : List (Option Nat)) (n : Nat) (ks : List (Int × Int)) : Prop := ∀ (p h : Int), (p, h) ∈ ks → ∃ i, i < n ∧ (p = ((tie ts i).1 : Nat) ∨ p = ((tie ts i).2 : Nat)) ∧ ∃ c : Nat, hue r i = some c ∧ h = c
theorem meet_at {t u : Tie} {p : Nat} (h1 : t.1 = p ∨ t.2 = p) (h2 : u.1 = p ∨ u.2 = p) : meet t u = true := by
  unfold meet
  rcases h1 with h1 | h1 <;> rcases h2 with h2 | h2 <;> rw [h1, h2, beq_self_eq_true] <;> simp
theorem ok_clash_of (T : Tx K mg) (L : Lo K mg "clash_of" S_clash_of) : Callee P w K mg base (k + 1) "clash_of" q_clash_of := by
  refine mk_callee L sc_clash_of b_clash_of (fun tw => d_clash_of T) (fun ds P ⟨n, ts, r, e, _⟩ => by rw [e]; rfl) fun ds P ⟨n, ts, r, e, W, hp, h⟩ => ?_
  subst e
  unfold k_clash_of
  walk_at "vc"
  intro a p0
  have t16 := W.t16
  refine for_rng r.length (fun i => .tup [nat i, hueD (hue r i)]) (fun Q hQ => ?_) (fun i ρ => ∃ ks s4 s5 s6, ρ = [.p (webD n ts), .p (rowD r), .dt a ks, .o p0 [], s4, s5, s6] ∧ keysTo ts r i ks ∧ ks.length ≤ 2 * i) ⟨[], .any, .any, .any, rfl, fun p h z => absurd z (by simp), Nat.zero_le _⟩ (fun i ρ' hi ⟨ks, s4, s5, s6, e, hk, hl⟩ => ?_) fun ρ' ⟨ks, s4, s5, s6, e, hk, hl⟩ => ?_
  · walk_at "vc"
    rw [enum_map r hueD none]
    exact hQ
  · subst e
    walk_at "vc"
    have hi' : i < ts.length := by rw [← hp.1]; exact hi
    obtain ⟨lt1, lt2⟩ := W.at hi'
    refine for_map [(tie ts i).1, (tie ts i).2] nat (fun Q hQ => ?_) (fun j ρ => ∃ ks s6, ρ = [.p (webD n ts), .p (rowD r), .dt a ks, .o p0 [], .p (nat i), .p (hueD (hue r i)), s6] ∧
      (∀ (p h : Int), (p, h) ∈ ks → (∃ i', i' < i ∧ (p = ((tie ts i').1 : Nat) ∨ p = ((tie ts i').2 : Nat)) ∧ ∃ c : Nat, hue r i' = some c ∧ h = c) ∨ ((j = 1 ∧ p = ((tie ts i).1 : Nat) ∨ j = 2 ∧ (p = ((tie ts i).1 : Nat) ∨ p = ((tie ts i).2 : Nat))) ∧ ∃ c : Nat, hue r i = some c ∧ h = c)) ∧ ks.length ≤ 2 * i + j)
      ⟨ks, s6, rfl, fun p h z => .inl (hk p h z), hl⟩ (fun j x ρ2 hx ⟨ks2, s6', e2, hk2, hl2⟩ => ?_) fun ρ2 ⟨ks2, s6', e2, hk2, hl2⟩ => ?_
    · walk_at "vc"
      rw [at_tie hi']
      walk_at "vc"
      exact hQ
    · subst e2
      have hj : j = 0 ∧ x = (tie ts i).1 ∨ j = 1 ∧ x = (tie ts i).2 := by
        match j, hx with
        | 0, hx => exact .inl ⟨rfl, (Option.some.inj hx).symm⟩
        | 1, hx => exact .inr ⟨rfl, (Option.some.inj hx).symm⟩
        | j + 2, hx => simp at hx
      walk_at "vc"
      cases hc : hue r i with
      | none =>
        walk_at "vc"
        refine ⟨fun p h z => ?_, by omega⟩
        rcases hk2 p h z with z | ⟨_, c, z, _⟩
        · exact .inl z
        · rw [hc] at z; cases z
      | some c =>
        walk_at "vc"
        have hno : ((x : Int), (c : Int)) ∉ ks2 := fun z => by
          rcases hk2 _ _ z with ⟨i', h1, h2, c', h3, h4⟩ | ⟨h1, _⟩
          · have ec : c' = c := by omega
            subst ec
            have m := hp.2 i' i c' h1 hi' h3 hc
            have m2 : meet (tie ts i') (tie ts i) = true := meet_at (p := x) (by omega) (by omega)
            rw [m2] at m; cases m
          · omega
        rw [if_neg hno]
        refine ⟨by omega, ?_⟩
        refine ⟨fun p h z => ?_, ?_⟩
        · unfold putT at z
          rw [if_neg hno] at z
          rcases List.mem_append.mp z with z | z
          · rcases hk2 p h z with z | ⟨h1, c', z1, z2⟩
            · exact .inl z
            · rw [hc] at z1
              cases z1
              exact .inr ⟨by omega, z2⟩
          · have ez := List.mem_singleton.mp z
            injection ez with e1 e2
            subst e1 e2
            exact .inr ⟨by omega, rfl⟩
        · unfold putT
          rw [if_neg hno, List.length_append]
          simp
          omega
    · subst e2
      refine ⟨ks2, _, _, _, rfl, fun p h z => ?_, ?_⟩
      · rcases hk2 p h z with ⟨i', h1, h2⟩ | ⟨h1, h2⟩
        · exact ⟨i', by omega, h2⟩
        · exact ⟨i, by omega, by simp at h1; exact h1, h2⟩
      · have : ([(tie ts i).1, (tie ts i).2]).length = 2 := rfl
        omega
  · subst e
    walk_at "vc"
    exact ⟨[], .non, rfl, fun _ => h, fun m hm => absurd hm (by simp)⟩
end
end U
set_option Elab.async false
set_option linter.all false
set_option maxRecDepth 100000
set_option maxHeartbeats 1000000
namespace U
open PySem PySem.Spec PyProof.Rows L2
local macro_rules | `(tactic| walk_at "vc") => `(tactic| (first | simp only [hueD_n, hueD_s, kOoNew, kOoApp, Slot.oo.injEq, c_0, c_1, c_2, c_3, eq_self, kLenSet, kFldC, kMeth, kOwn, kApp, kExt, kIns, kPop, kPut, kAugA, kPar, kDk0, kDk1, kDkPut, kDt0, kDtPut, kUpd, kInDk, kInDt, kSorted, kTapeSet, kSwap, kCount, kIndex, kLstR, kCallF, kBinF, catP, listP, max2P, min2P, intBP, absP, tupleP, Slot.dk.injEq, Slot.dt.injEq, reduceCtorEq, false_and, exists_false, and_assoc, lenP, seq_l, seq_t, seq_s, natsD, natsT, rowD, num_nat, Nat.reduceLeDiff, inP, ninP, ni_i, ni_n, ni_hue, eqN_ih, eqN_ii, eqN_nn, eqN_ni, eqN_in, any_nats', any_hues_n, any_hues_i, all_ni, all_niH, beq_nat, List.all_cons, List.all_nil, List.any_cons, List.any_nil, Bool.or_false, Bool.and_true, Bool.true_and, at0, at1, at2, at3, kSl, koN, koS, slP, kItET, kItE, kItS, kItR1, kItR2, kItZ, kItZM, webD, nat, tieD, le0, lt_nat, le_nat, eq_nat, decide_true, decide_false, decide_eq_true_eq, kSeq, kNext, kRet, kSet, kDrop, kTgt, ksIf, kVar, kVarB, rdB_p, rdB_o, kC, kBin, kF, q_add_ii, q_add_ll, q_add_tt, q_sub_ii, q_mul_ii, q_mul_li, q_mod_ii, q_fdiv_ii, q_pow_ii, q_ix_l, q_ix_t, q_ix_s, q_ix_tp, q_ii, q_is_bb, q_is_n, q_nis_bb, q_nis_n, q_eq_ii, q_eq_ni, q_eq_in, q_eq_nn, q_eq_ss, q_eq_tt, q_eq_ll, q_isN_n, q_isN_i, q_isN_t, q_isN_l, q_isN_b, kNeg, kCmp, kCmpT, kChain, kBo, neP, kAnd, kOr, kNot, tkAnd, tkOr, tkNot, tkV, kIf, kNil, kCons, kTup, kLst, kCall, kIsi, gkName, gkTup, gkCons, gkNil, tkYes, relP, kRel, wipeP, startP, List.map_cons, List.map_nil, List.length_cons, List.length_nil, List.replicate_succ, List.replicate_zero, List.cons_append, List.nil_append, List.append_nil, Nat.reduceSub, Nat.reduceAdd, Nat.sub_self, List.getElem?_cons_zero, List.getElem?_cons_succ, List.getElem?_nil, List.set_cons_zero, List.set_cons_succ, List.set_nil, Option.some.injEq, Slot.p.injEq, Slot.o.injEq, D.tup.injEq, D.lst.injEq, D.int.injEq, D.bl.injEq, D.str.injEq, exists_eq_left', exists_eq_left, exists_eq_right, exists_eq_right', exists_and_left, exists_eq', exists_eq, and_true, true_and, Bool.not_true, Bool.not_false, if_true, if_false, Bool.false_eq_true, ite_true, ite_false, reduceIte, List.cons.injEq, List.length_map] | skip))
section
variable {P : Program} {w : World} {K : PySem.W.Frag} {mg : Str → Option Value} {base : Heap} {k : Nat}
def tieOf (ts : List Tie) (r : List (Option Nat)) (p h : Nat) : Option Nat := (tiesAt ts p).find? fun i => hue r i == some h
def q_tie_of : PSp := fun ds P => ∃ n ts r p h, ds = [webD n ts, rowD r, nat p, nat h] ∧ p < n ∧ r.length = ts.length ∧ P (hueD (tieOf ts r p h))
theorem at_hue {r : List (Option Nat)} {i : Nat} (h : i < r.length) : atI (r.map hueD) (i : Int) = some (hueD (hue r i)) := at_map (by simp [hue, h])
theorem mem_tiesAt {ts : List Tie} {p i : Nat} : i ∈ tiesAt ts p ↔ i < ts.length ∧ ((tie ts i).1 = p ∨ (tie ts i).2 = p) := by
  unfold tiesAt
  rw [List.mem_filter, List.mem_range, Bool.or_eq_true, beq_iff_eq, beq_iff_eq]
theorem eq_hue {x : Option Nat} {h : Nat} {Q : Bool → Prop} : eqP (hueD x) (.int (h : Int)) Q = Q (x == some h) := by
  cases x with
  | none => rfl
  | some c =>
    show Q (decide ((c : Int) = (h : Int))) = Q (some c == some h)
    rw [eq_nat, show (some c == some h) = (c == h) from rfl, Bool.beq_eq_decide_eq]
theorem ok_tie_of (T : Tx K mg) (L : Lo K mg "tie_of" S_tie_of) (c_ties_at : Callee P w K mg base k "ties_at" q_ties_at) : Callee P w K mg base (k + 1) "tie_of" q_tie_of := by
  refine mk_callee L sc_tie_of b_tie_of (fun tw => d_tie_of T c_ties_at) (fun ds P ⟨n, ts, r, p, h, e, _⟩ => by rw [e]; rfl) fun ds P ⟨n, ts, r, p, hh, e, hp, hr, h⟩ => ?_
  subst e
  unfold k_tie_of
  walk_at "vc"
  refine for_map (tiesAt ts p) nat (fun Q hQ => ?_) (fun i ρ => (∃ s4, ρ = [.p (webD n ts), .p (rowD r), .p (nat p), .p (nat hh), s4]) ∧ (tiesAt ts p).find? (fun i => hue r i == some hh) = ((tiesAt ts p).drop i).find? fun i => hue r i == some hh) ⟨⟨_, rfl⟩, rfl⟩ (fun i x ρ' hx ⟨⟨s4, e⟩, hf⟩ => ?_) fun ρ' ⟨⟨s4, e⟩, hf⟩ => ?_
  · walk_at "vc"
    exact ⟨n, ts, p, rfl, hp, hQ⟩
  · subst e
    have hxm := mem_tiesAt.mp (List.mem_of_getElem? hx)
    have ed : (tiesAt ts p).drop i = x :: (tiesAt ts p).drop (i + 1) := (List.drop_eq_getElem_cons (List.getElem?_eq_some_iff.mp hx).1).trans (by rw [(List.getElem?_eq_some_iff.mp hx).2])
    rw [ed, List.find?_cons] at hf
    walk_at "vc"
    rw [at_hue (by rw [hr]; exact hxm.1)]
    refine ⟨_, rfl, ?_⟩
    rw [eq_hue]
    cases hb : hue r x == some hh with
    | true =>
      rw [hb] at hf
      walk_at "vc"
      unfold tieOf at h
      rw [hf] at h
      exact h
    | false =>
      rw [hb] at hf
      walk_at "vc"
      exact hf
  · subst e
    walk_at "vc"
    rw [List.drop_length] at hf
    unfold tieOf at h
    rw [hf] at h
    exact h
def q_look_hues : PSp := fun ds P => ∃ a b : Nat, ds = [nat a, nat b] ∧ a ≠ b ∧ P .non
theorem ok_look_hues (T : Tx K mg) (L : Lo K mg "look_hues" S_look_hues) : Callee P w K mg base (k + 1) "look_hues" q_look_hues := by
  refine mk_callee L sc_look_hues b_look_hues (fun tw => d_look_hues T) (fun ds P ⟨a, b, e, _⟩ => by rw [e]; rfl) fun ds P ⟨a, b, e, hne, h⟩ => ?_
  subst e
  unfold k_look_hues
  walk_at "vc"
  rw [if_neg hne]
  exact h
def q_look_so : PSp := fun ds P => ds = [.bl true] ∧ P .non
theorem ok_look_so (T : Tx K mg) (L : Lo K mg "look_so" S_look_so) : Callee P w K mg base (k + 1) "look_so" q_look_so := by
  refine mk_callee L sc_look_so b_look_so (fun tw => d_look_so T) (fun ds P ⟨e, _⟩ => by rw [e]; rfl) fun ds P ⟨e, h⟩ => ?_
  subst e
  unfold k_look_so
  walk_at "vc"
  exact h
def otherOf (h a b : Nat) : Nat := if h = a then b else a
def q_other_of : PSp := fun ds P => ∃ h a b : Nat, ds = [nat h, nat a, nat b] ∧ P (nat (otherOf h a b))
theorem ok_other_of (T : Tx K mg) (L : Lo K mg "other_of" S_other_of) : Callee P w K mg base (k + 1) "other_of" q_other_of := by
  refine mk_callee L sc_other_of b_other_of (fun tw => d_other_of T) (fun ds P ⟨hh, a, b, e, _⟩ => by rw [e]; rfl) fun ds P ⟨hh, a, b, e, h⟩ => ?_
  subst e
  unfold k_other_of
  walk_at "vc"
  unfold otherOf at h
  split
  · rename_i e; rw [if_pos e] at h; exact h
  · rename_i e; rw [if_neg e] at h; exact h
/-! ### neighbours -/
def inAB (r : List (Option Nat)) (a b i : Nat) : Bool := hue r i == some a || hue r i == some b
def neigh (ts : List Tie) (r : List (Option Nat)) (a b i : Nat) : List Nat := ((tiesAt ts (tie ts i).1).filter fun j => inAB r a b j) ++ ((tiesAt ts (tie ts i).2).filter fun j => inAB r a b j)
def q_neighbours : PSp := fun ds P => ∃ n ts r i a b, ds = [webD n ts, rowD r, nat i, .tup [nat a, nat b]] ∧ Web n ts ∧ r.length = ts.length ∧ i < ts.length ∧ P (natsD (neigh ts r a b i))
theorem tiesAt_len (ts : List Tie) (p : Nat) : (tiesAt ts p).length ≤ ts.length := by
  have := List.length_filter_le (fun i => (tie ts i).1 == p || (tie ts i).2 == p) (List.range ts.length)
  rw [List.length_range] at this
  exact this
theorem ok_neighbours (T : Tx K mg) (L : Lo K mg "neighbours" S_neighbours) (c_ties_at : Callee P w K mg base k "ties_at" q_ties_at) : Callee P w K mg base (k + 1) "neighbours" q_neighbours := by
  refine mk_callee L sc_neighbours b_neighbours (fun tw => d_neighbours T c_ties_at) (fun ds P ⟨n, ts, r, i, a, b, e, _⟩ => by rw [e]; rfl) fun ds P ⟨n, ts, r, i, a, b, e, W, hr, hi, h⟩ => ?_
  subst e
  obtain ⟨lt1, lt2⟩ := W.at hi
  have t16 := W.t16
  unfold k_neighbours
  walk_at "vc"
  intro p0
  refine for_map [(tie ts i).1, (tie ts i).2] nat (fun Q hQ => ?_) (fun j ρ => ∃ s5 s6, ρ = [.p (webD n ts), .p (rowD r), .p (nat i), .p (.tup [nat a, nat b]), .o p0 ((([(tie ts i).1, (tie ts i).2].take j).flatMap fun p => (tiesAt ts p).filter fun j => inAB r a b j).map nat), s5, s6]) ⟨_, _, rfl⟩ (fun j x ρ' hx ⟨s5, s6, e⟩ => ?_) fun ρ' ⟨s5, s6, e⟩ => ?_
  · walk_at "vc"
    rw [at_tie hi]
    walk_at "vc"
    exact hQ
  · subst e
    have hxn : x < n := by
      match j, hx with
      | 0, hx => cases hx; omega
      | 1, hx => cases hx; omega
      | j + 2, hx => simp at hx
    walk_at "vc"
    refine lc_map (tiesAt ts x) nat (fun Q hQ => ?_) (fun j => inAB r a b j) nat (fun y hy Q A h1 h2 => ?_) ?_
    · walk_at "vc"
      exact ⟨n, ts, x, rfl, hxn, hQ⟩
    · have hy := (mem_tiesAt.mp hy).1
      walk_at "vc"
      rw [at_hue (by rw [hr]; exact hy)]
      refine ⟨_, rfl, ?_⟩
      walk_at "vc"
      exact fin_if h1 h2
    · have hl : ((((([(tie ts i).1, (tie ts i).2].take j).flatMap fun p => (tiesAt ts p).filter fun j => inAB r a b j)).map nat).length + (((tiesAt ts x).filter fun j => inAB r a b j).map nat).length) ≤ 1000000 := by
        rw [List.length_map, List.length_map]
        have l1 := Nat.le_trans (List.length_filter_le (fun j => inAB r a b j) (tiesAt ts x)) (tiesAt_len ts x)
        have l2 := Nat.le_trans (List.length_filter_le (fun j => inAB r a b j) (tiesAt ts (tie ts i).1)) (tiesAt_len ts (tie ts i).1)
        have l3 : (([(tie ts i).1, (tie ts i).2].take j).flatMap fun p => (tiesAt ts p).filter fun j => inAB r a b j).length ≤ ts.length := by
          match j, hx with
          | 0, _ => exact Nat.zero_le _
          | 1, _ =>
            show (((tiesAt ts (tie ts i).1).filter fun j => inAB r a b j) ++ []).length ≤ _
            rw [List.append_nil]; exact l2
          | j + 2, hx => simp at hx
        omega
      refine ⟨by simpa using hl, ?_⟩
      rw [List.take_add_one, hx, List.flatMap_append, List.map_append]
      simp
  · subst e
    walk_at "vc"
    have e : (([(tie ts i).1, (tie ts i).2].take 2).flatMap fun p => (tiesAt ts p).filter fun j => inAB r a b j) = neigh ts r a b i := by
      unfold neigh
      simp
    rw [e]
    exact h
end
end U
set_option Elab.async false
set_option linter.all false
set_option maxRecDepth 100000
set_option maxHeartbeats 1000000
namespace U
open PySem PySem.Spec PyProof.Rows L2
local macro_rules | `(tactic| walk_at "vc") => `(tactic| (first | simp only [hueD_n, hueD_s, kOoNew, kOoApp, Slot.oo.injEq, c_0, c_1, c_2, c_3, eq_self, kLenSet, kFldC, kMeth, kOwn, kApp, kExt, kIns, kPop, kPut, kAugA, kPar, kDk0, kDk1, kDkPut, kDt0, kDtPut, kUpd, kInDk, kInDt, kSorted, kTapeSet, kSwap, kCount, kIndex, kLstR, kCallF, kBinF, catP, listP, max2P, min2P, intBP, absP, tupleP, Slot.dk.injEq, Slot.dt.injEq, reduceCtorEq, false_and, exists_false, and_assoc, lenP, seq_l, seq_t, seq_s, natsD, natsT, rowD, num_nat, Nat.reduceLeDiff, inP, ninP, ni_i, ni_n, ni_hue, eqN_ih, eqN_ii, eqN_nn, eqN_ni, eqN_in, any_nats', any_hues_n, any_hues_i, all_ni, all_niH, beq_nat, List.all_cons, List.all_nil, List.any_cons, List.any_nil, Bool.or_false, Bool.and_true, Bool.true_and, at0, at1, at2, at3, kSl, koN, koS, slP, kItET, kItE, kItS, kItR1, kItR2, kItZ, kItZM, webD, nat, tieD, le0, lt_nat, le_nat, eq_nat, decide_true, decide_false, decide_eq_true_eq, kSeq, kNext, kRet, kSet, kDrop, kTgt, ksIf, kVar, kVarB, rdB_p, rdB_o, kC, kBin, kF, q_add_ii, q_add_ll, q_add_tt, q_sub_ii, q_mul_ii, q_mul_li, q_mod_ii, q_fdiv_ii, q_pow_ii, q_ix_l, q_ix_t, q_ix_s, q_ix_tp, q_ii, q_is_bb, q_is_n, q_nis_bb, q_nis_n, q_eq_ii, q_eq_ni, q_eq_in, q_eq_nn, q_eq_ss, q_eq_tt, q_eq_ll, q_isN_n, q_isN_i, q_isN_t, q_isN_l, q_isN_b, kNeg, kCmp, kCmpT, kChain, kBo, neP, kAnd, kOr, kNot, tkAnd, tkOr, tkNot, tkV, kIf, kNil, kCons, kTup, kLst, kCall, kIsi, gkName, gkTup, gkCons, gkNil, tkYes, relP, kRel, wipeP, startP, List.map_cons, List.map_nil, List.length_cons, List.length_nil, List.replicate_succ, List.replicate_zero, List.cons_append, List.nil_append, List.append_nil, Nat.reduceSub, Nat.reduceAdd, Nat.sub_self, List.getElem?_cons_zero, List.getElem?_cons_succ, List.getElem?_nil, List.set_cons_zero, List.set_cons_succ, List.set_nil, Option.some.injEq, Slot.p.injEq, Slot.o.injEq, D.tup.injEq, D.lst.injEq, D.int.injEq, D.bl.injEq, D.str.injEq, exists_eq_left', exists_eq_left, exists_eq_right, exists_eq_right', exists_and_left, exists_eq', exists_eq, and_true, true_and, Bool.not_true, Bool.not_false, if_true, if_false, Bool.false_eq_true, ite_true, ite_false, reduceIte, List.cons.injEq, List.length_map] | skip))
section
variable {P : Program} {w : World} {K : PySem.W.Frag} {mg : Str → Option Value} {base : Heap} {k : Nat}
/-! ### word_of -/
def heldOf (ts : List Tie) (l : List Nat) : List Nat := l.flatMap fun i => [(tie ts i).1, (tie ts i).2]
def isRing (ts : List Tie) (l : List Nat) : Bool := (heldOf ts l).all fun p => decide ((heldOf ts l).count p = 2)
def wordOf (ts : List Tie) (l : List Nat) : Str := if isRing ts l then "ring" else "open"
def q_word_of : PSp := fun ds P => ∃ n ts l, ds = [webD n ts, natsD l] ∧ l.length ≤ 100 ∧ (∀ i ∈ l, i < ts.length) ∧ P (.str (wordOf ts l))
theorem held_len (ts : List Tie) (l : List Nat) : (heldOf ts l).length = 2 * l.length := by
  induction l with
  | nil => rfl
  | cons x l ih =>
    show ([(tie ts x).1, (tie ts x).2] ++ heldOf ts l).length = _
    rw [List.length_append, ih, List.length_cons]
    simp
    omega
theorem count_nat (l : List Nat) (p : Nat) : ((l.map fun (x : Nat) => (x : Int)).count (p : Int)) = l.count p := by
  induction l with
  | nil => rfl
  | cons x l ih =>
    rw [List.map_cons, List.count_cons, List.count_cons, ih, beq_nat]
theorem nats_ints (l : List Nat) : l.map nat = (l.map fun (x : Nat) => (x : Int)).map D.int := by rw [List.map_map]; rfl
theorem ok_word_of (T : Tx K mg) (L : Lo K mg "word_of" S_word_of) : Callee P w K mg base (k + 1) "word_of" q_word_of := by
  refine mk_callee L sc_word_of b_word_of (fun tw => d_word_of T) (fun ds P ⟨n, ts, l, e, _⟩ => by rw [e]; rfl) fun ds P ⟨n, ts, l, e, hz, hl, h⟩ => ?_
  subst e
  unfold k_word_of
  walk_at "vc"
  intro p0
  refine for_map l nat (fun Q hQ => ?_) (fun j ρ => ∃ s3 s4, ρ = [.p (webD n ts), .p (natsD l), .o p0 ((heldOf ts (l.take j)).map nat), s3, s4]) ⟨_, _, rfl⟩ (fun j x ρ' hx ⟨s3, s4, e⟩ => ?_) fun ρ' ⟨s3, s4, e⟩ => ?_
  · walk_at "vc"
    exact hQ
  · subst e
    have hi := hl x (List.mem_of_getElem? hx)
    have ln := held_len ts (l.take j)
    have l3 : (l.take j).length ≤ l.length := by rw [List.length_take]; omega
    walk_at "vc"
    rw [at_tie hi]
    walk_at "vc"
    refine ⟨by omega, ?_⟩
    rw [List.take_add_one, hx]
    unfold heldOf
    rw [List.flatMap_append, List.map_append]
    simp [nat]
  · subst e
    walk_at "vc"
    rw [List.take_length]
    refine lc_map (heldOf ts l) nat (fun Q hQ => ?_) (fun _ => true) (fun p => .bl (decide ((heldOf ts l).count p = 2))) (fun p hp Q A h1 _ => ?_) ?_
    · walk_at "vc"
      exact hQ
    · walk_at "vc"
      refine ⟨(heldOf ts l).map fun (x : Nat) => (x : Int), nats_ints _, ?_⟩
      rw [count_nat]
      have e : decide ((((heldOf ts l).count p : Nat) : Int) = 2) = decide ((heldOf ts l).count p = 2) := decide_eq_decide.mpr (by omega)
      rw [e]
      exact h1 rfl
    · refine ⟨(heldOf ts l).map fun p => decide ((heldOf ts l).count p = 2), by rw [List.filter_eq_self.mpr fun _ _ => rfl, List.map_map]; rfl, ?_⟩
      rw [List.all_map]
      unfold wordOf at h
      refine ⟨_, rfl, ?_⟩
      refine fin_if (fun e => ?_) fun e => ?_
      · rw [if_pos (show isRing ts l = true from e)] at h; exact h
      · rw [if_neg (by rw [show isRing ts l = false from e]; decide)] at h; exact h
/-! ### exchanged -/
def exch (r : List (Option Nat)) (l : List Nat) (a b : Nat) : List (Option Nat) := (List.range r.length).map fun i => if i ∈ l then (hue r i).map (fun h => otherOf h a b) else hue r i
theorem exch_len (r : List (Option Nat)) (l : List Nat) (a b : Nat) : (exch r l a b).length = r.length := by simp [exch]
def q_exchanged : PSp := fun ds P => ∃ n ts r l a b, ds = [webD n ts, rowD r, natsD l, nat a, nat b] ∧ Web n ts ∧ a ≠ b ∧ r.length = ts.length ∧ (∀ i ∈ l, i < ts.length ∧ inAB r a b i = true) ∧ Proper ts (exch r l a b) ∧ P (rowD (exch r l a b))
theorem ok_exchanged (T : Tx K mg) (L : Lo K mg "exchanged" S_exchanged) (c_look_hues : Callee P w K mg base k "look_hues" q_look_hues) (c_other_of : Callee P w K mg base k "other_of" q_other_of) (c_is_hueing : Callee P w K mg base k "is_hueing" q_is_hueing) : Callee P w K mg base (k + 1) "exchanged" q_exchanged := by
  refine mk_callee L sc_exchanged b_exchanged (fun tw => d_exchanged T c_look_hues c_other_of c_is_hueing) (fun ds P ⟨n, ts, r, l, a, b, e, _⟩ => by rw [e]; rfl) fun ds P ⟨n, ts, r, l, a, b, e, W, hne, hr, hl, hpr, h⟩ => ?_
  subst e
  unfold k_exchanged
  walk_at "vc"
  refine ⟨a, b, rfl, hne, ?_⟩
  intro p0
  refine for_map l nat (fun Q hQ => ?_) (fun j ρ => ∃ s6, ρ = [.p (webD n ts), .p (rowD r), .p (natsD l), .p (nat a), .p (nat b), .o p0 ((exch r (l.take j) a b).map hueD), s6]) ⟨.any, ?_⟩ (fun j x ρ' hx ⟨s6, e⟩ => ?_) fun ρ' ⟨s6, e⟩ => ?_
  · walk_at "vc"
    exact hQ
  · have e : exch r (l.take 0) a b = r := by
      refine List.ext_getElem? fun i => ?_
      unfold exch
      rw [List.getElem?_map]
      by_cases hi : i < r.length
      · rw [List.getElem?_range hi]
        simp [hue, hi]
      · rw [List.getElem?_eq_none (by simpa using hi), List.getElem?_eq_none (by omega)]; rfl
    rw [e]
    rfl
  · subst e
    have hi := hl x (List.mem_of_getElem? hx)
    walk_at "vc"
    rw [at_hue (by rw [hr]; exact hi.1)]
    walk_at "vc"
    have hin : (hue r x == some a || hue r x == some b) = true := hi.2
    obtain ⟨c, hc⟩ : ∃ c, hue r x = some c := by
      cases hx : hue r x with
      | none => rw [hx] at hin; cases hin
      | some c => exact ⟨c, rfl⟩
    rw [hin]
    walk_at "vc"
    rw [hc]
    refine ⟨c, a, b, rfl, ?_⟩
    rw [exch_len]
    refine ⟨x, ixN_nat (by rw [hr]; exact hi.1), ?_⟩
    have e : ((exch r (l.take j) a b).map hueD).set x (nat (otherOf c a b)) = (exch r (l.take (j + 1)) a b).map hueD := by
      rw [List.take_add_one, hx]
      unfold exch
      rw [List.map_map, List.map_map]
      have := range_set (n := r.length) (c := x) (f := hueD ∘ fun i => if i ∈ l.take j then (hue r i).map (fun h => otherOf h a b) else hue r i) (g := hueD ∘ fun i => if i ∈ l.take j ++ [x] then (hue r i).map (fun h => otherOf h a b) else hue r i) fun i _ hne => by
        show hueD (if i ∈ l.take j then _ else _) = hueD (if i ∈ l.take j ++ [x] then _ else _)
        by_cases hm : i ∈ l.take j
        · rw [if_pos hm, if_pos (List.mem_append_left _ hm)]
        · rw [if_neg hm, if_neg (fun z => (List.mem_append.mp z).elim hm fun z => hne (List.mem_singleton.mp z))]
      have e2 : (hueD ∘ fun i => if i ∈ l.take j ++ [x] then (hue r i).map (fun h => otherOf h a b) else hue r i) x = nat (otherOf c a b) := by
        show hueD (if x ∈ l.take j ++ [x] then _ else _) = _
        rw [if_pos (List.mem_append_right _ (List.mem_cons_self ..)), hc]; rfl
      rw [e2] at this
      exact this
    rw [← e]
  · subst e
    walk_at "vc"
    rw [List.take_length]
    refine ⟨n, ts, _, rfl, W, hpr, ?_⟩
    walk_at "vc"
    exact h
end
end U
set_option Elab.async false
set_option linter.all false
set_option maxRecDepth 100000
set_option maxHeartbeats 1000000
namespace U
open PySem PySem.Spec PyProof.Rows L2
local macro_rules | `(tactic| walk_at "vc") => `(tactic| (first | simp only [hueD_n, hueD_s, kOoNew, kOoApp, Slot.oo.injEq, c_0, c_1, c_2, c_3, eq_self, kLenSet, kFldC, kMeth, kOwn, kApp, kExt, kIns, kPop, kPut, kAugA, kPar, kDk0, kDk1, kDkPut, kDt0, kDtPut, kUpd, kInDk, kInDt, kSorted, kTapeSet, kSwap, kCount, kIndex, kLstR, kCallF, kBinF, catP, listP, max2P, min2P, intBP, absP, tupleP, Slot.dk.injEq, Slot.dt.injEq, reduceCtorEq, false_and, exists_false, and_assoc, lenP, seq_l, seq_t, seq_s, natsD, natsT, rowD, num_nat, Nat.reduceLeDiff, inP, ninP, ni_i, ni_n, ni_hue, eqN_ih, eqN_ii, eqN_nn, eqN_ni, eqN_in, any_nats', any_hues_n, any_hues_i, all_ni, all_niH, beq_nat, List.all_cons, List.all_nil, List.any_cons, List.any_nil, Bool.or_false, Bool.and_true, Bool.true_and, at0, at1, at2, at3, kSl, koN, koS, slP, kItET, kItE, kItS, kItR1, kItR2, kItZ, kItZM, webD, nat, tieD, le0, lt_nat, le_nat, eq_nat, decide_true, decide_false, decide_eq_true_eq, kSeq, kNext, kRet, kSet, kDrop, kTgt, ksIf, kVar, kVarB, rdB_p, rdB_o, kC, kBin, kF, q_add_ii, q_add_ll, q_add_tt, q_sub_ii, q_mul_ii, q_mul_li, q_mod_ii, q_fdiv_ii, q_pow_ii, q_ix_l, q_ix_t, q_ix_s, q_ix_tp, q_ii, q_is_bb, q_is_n, q_nis_bb, q_nis_n, q_eq_ii, q_eq_ni, q_eq_in, q_eq_nn, q_eq_ss, q_eq_tt, q_eq_ll, q_isN_n, q_isN_i, q_isN_t, q_isN_l, q_isN_b, kNeg, kCmp, kCmpT, kChain, kBo, neP, kAnd, kOr, kNot, tkAnd, tkOr, tkNot, tkV, kIf, kNil, kCons, kTup, kLst, kCall, kIsi, gkName, gkTup, gkCons, gkNil, tkYes, relP, kRel, wipeP, startP, List.map_cons, List.map_nil, List.length_cons, List.length_nil, List.replicate_succ, List.replicate_zero, List.cons_append, List.nil_append, List.append_nil, Nat.reduceSub, Nat.reduceAdd, Nat.sub_self, List.getElem?_cons_zero, List.getElem?_cons_succ, List.getElem?_nil, List.set_cons_zero, List.set_cons_succ, List.set_nil, Option.some.injEq, Slot.p.injEq, Slot.o.injEq, D.tup.injEq, D.lst.injEq, D.int.injEq, D.bl.injEq, D.str.injEq, exists_eq_left', exists_eq_left, exists_eq_right, exists_eq_right', exists_and_left, exists_eq', exists_eq, and_true, true_and, Bool.not_true, Bool.not_false, if_true, if_false, Bool.false_eq_true, ite_true, ite_false, reduceIte, List.cons.injEq, List.length_map] | skip))
/-! ### what hangs together with one -/
structure Bfs (nb : Nat → List Nat) (N x : Nat) (at_ : Option (Nat × Nat)) (met wait : List Nat) : Prop where
  nd : met.Nodup
  lt : ∀ u ∈ met, u < N
  x0 : x ∈ met
  sub : ∀ u ∈ wait, u ∈ met
  cl : ∀ u ∈ met, u ∈ wait ∨ (∀ z ∈ nb u, z ∈ met) ∨ ∃ j, at_ = some (u, j) ∧ ∀ z ∈ (nb u).take j, z ∈ met
  least : ∀ C : Nat → Prop, C x → (∀ u, C u → ∀ z ∈ nb u, C z) → ∀ u ∈ met, C u
structure Comp (nb : Nat → List Nat) (N x : Nat) (l : List Nat) : Prop where
  nd : l.Nodup
  lt : ∀ u ∈ l, u < N
  x0 : x ∈ l
  cl : ∀ u ∈ l, ∀ z ∈ nb u, z ∈ l
  least : ∀ C : Nat → Prop, C x → (∀ u, C u → ∀ z ∈ nb u, C z) → ∀ u ∈ l, C u
section
variable {nb : Nat → List Nat} {N x u z j : Nat} {met wait : List Nat}
theorem Bfs.init (h : x < N) : Bfs nb N x none [x] [x] where
  nd := List.nodup_cons.mpr ⟨by simp, List.nodup_nil⟩
  lt := fun u hu => by rw [List.mem_singleton.mp hu]; exact h
  x0 := List.mem_singleton.mpr rfl
  sub := fun u hu => hu
  cl := fun u hu => .inl hu
  least := fun C hx _ u hu => by rw [List.mem_singleton.mp hu]; exact hx
theorem Bfs.pop (b : Bfs nb N x none met wait) (h : wait[wait.length - 1]? = some u) : Bfs nb N x (some (u, 0)) met wait.dropLast ∧ u ∈ met ∧ wait.dropLast.length + 1 = wait.length := by
  have hne : wait ≠ [] := fun e => by rw [e] at h; cases h
  have hl : 0 < wait.length := List.length_pos_iff.mpr hne
  have e : wait = wait.dropLast ++ [u] := by
    have e1 : u = wait.getLast hne := by
      rw [List.getLast_eq_getElem]
      rw [List.getElem?_eq_getElem (by omega)] at h
      exact (Option.some.inj h).symm
    rw [e1]; exact (List.dropLast_concat_getLast hne).symm
  refine ⟨⟨b.nd, b.lt, b.x0, fun y hy => b.sub y ((List.dropLast_sublist wait).subset hy), fun y hy => ?_, b.least⟩, b.sub u (List.mem_of_getElem? h), by rw [List.length_dropLast]; omega⟩
  rcases b.cl y hy with z | z | ⟨j, z, _⟩
  · rw [e] at z
    rcases List.mem_append.mp z with z | z
    · exact .inl z
    · rw [List.mem_singleton.mp z]
      exact .inr (.inr ⟨0, rfl, fun _ z => by simp at z⟩)
  · exact .inr (.inl z)
  · cases z
theorem take_mem {xs : List Nat} {P : Nat → Prop} (h : xs[j]? = some z) (h1 : ∀ y ∈ xs.take j, P y) (h2 : P z) : ∀ y ∈ xs.take (j + 1), P y := fun y hy => by
  rw [List.take_add_one, h] at hy
  rcases List.mem_append.mp hy with z | z
  · exact h1 y z
  · rw [List.mem_singleton.mp z]; exact h2
theorem Bfs.old (b : Bfs nb N x (some (u, j)) met wait) (h : (nb u)[j]? = some z) (hz : z ∈ met) : Bfs nb N x (some (u, j + 1)) met wait where
  nd := b.nd
  lt := b.lt
  x0 := b.x0
  sub := b.sub
  least := b.least
  cl := fun y hy => by
    rcases b.cl y hy with w | w | ⟨i, w, hi⟩
    · exact .inl w
    · exact .inr (.inl w)
    · cases w
      exact .inr (.inr ⟨_, rfl, take_mem h hi hz⟩)
theorem Bfs.new (b : Bfs nb N x (some (u, j)) met wait) (h : (nb u)[j]? = some z) (hz : z ∉ met) (hN : z < N) (hu : u ∈ met) : Bfs nb N x (some (u, j + 1)) (met ++ [z]) (wait ++ [z]) where
  nd := List.nodup_append.mpr ⟨b.nd, List.nodup_cons.mpr ⟨by simp, List.nodup_nil⟩, fun a ha c hc e => hz (by rw [List.mem_singleton.mp hc] at e; rw [← e]; exact ha)⟩
  lt := fun y hy => (List.mem_append.mp hy).elim (b.lt y) fun w => by rw [List.mem_singleton.mp w]; exact hN
  x0 := List.mem_append_left _ b.x0
  sub := fun y hy => (List.mem_append.mp hy).elim (fun w => List.mem_append_left _ (b.sub y w)) fun w => List.mem_append_right _ w
  least := fun C hx hc y hy => (List.mem_append.mp hy).elim (b.least C hx hc y) fun w => by
    rw [List.mem_singleton.mp w]
    exact hc u (b.least C hx hc u hu) z (List.mem_of_getElem? h)
  cl := fun y hy => by
    rcases List.mem_append.mp hy with w | w
    · rcases b.cl y w with w | w | ⟨i, w, hi⟩
      · exact .inl (List.mem_append_left _ w)
      · exact .inr (.inl fun q hq => List.mem_append_left _ (w q hq))
      · cases w
        exact .inr (.inr ⟨_, rfl, take_mem h (fun q hq => List.mem_append_left _ (hi q hq)) (List.mem_append_right _ (List.mem_singleton.mpr rfl))⟩)
    · exact .inl (List.mem_append_right _ w)
theorem Bfs.fin (b : Bfs nb N x (some (u, j)) met wait) (h : (nb u).length ≤ j) : Bfs nb N x none met wait where
  nd := b.nd
  lt := b.lt
  x0 := b.x0
  sub := b.sub
  least := b.least
  cl := fun y hy => by
    rcases b.cl y hy with w | w | ⟨i, w, hi⟩
    · exact .inl w
    · exact .inr (.inl w)
    · cases w
      rw [List.take_of_length_le h] at hi
      exact .inr (.inl hi)
theorem nd_len {l : List Nat} {N : Nat} (h : l.Nodup) (hl : ∀ u ∈ l, u < N) : l.length ≤ N := by
  have := List.Nodup.length_le_of_subset h (l₂ := List.range N) fun u hu => List.mem_range.mpr (hl u hu)
  rw [List.length_range] at this
  exact this
theorem Bfs.len {a : Option (Nat × Nat)} (b : Bfs nb N x a met wait) : met.length ≤ N := nd_len b.nd b.lt
theorem Bfs.done (b : Bfs nb N x none met []) : Comp nb N x met where
  nd := b.nd
  lt := b.lt
  x0 := b.x0
  least := b.least
  cl := fun y hy => by
    rcases b.cl y hy with w | w | ⟨i, w, hi⟩
    · cases w
    · exact w
    · cases w
theorem Comp.sorted {l : List Nat} {ys : List Int} (c : Comp nb N x l) (hp : ys.Perm (l.map fun (i : Nat) => (i : Int))) (hs : ys.Pairwise (· ≤ ·)) : ∃ l2 : List Nat, ys.map D.int = l2.map nat ∧ Comp nb N x l2 ∧ l2.Pairwise (· < ·) ∧ ∀ i, i ∈ l2 ↔ i ∈ l := by
  have hpos : ∀ y ∈ ys, ∃ i ∈ l, y = (i : Int) := fun y hy => by
    obtain ⟨i, hi, e⟩ := List.mem_map.mp (hp.mem_iff.mp hy)
    exact ⟨i, hi, e.symm⟩
  have e : ys = (ys.map Int.toNat).map fun (i : Nat) => (i : Int) := by
    rw [List.map_map]
    conv => lhs; rw [← List.map_id ys]
    refine List.map_congr_left fun y hy => ?_
    obtain ⟨i, _, e⟩ := hpos y hy
    rw [e]; rfl
  have hm : ∀ i, i ∈ ys.map Int.toNat ↔ i ∈ l := fun i => by
    constructor
    · intro h
      obtain ⟨y, hy, rfl⟩ := List.mem_map.mp h
      obtain ⟨i, hi, rfl⟩ := hpos y hy
      exact hi
    · intro h
      exact List.mem_map.mpr ⟨(i : Int), hp.mem_iff.mpr (List.mem_map.mpr ⟨i, h, rfl⟩), rfl⟩
  have hnd : ys.Nodup := hp.nodup_iff.mpr (nd_ints c.nd)
  have hn : (ys.map Int.toNat).Pairwise (· < ·) := by
    rw [List.pairwise_map]
    have h2 : ys.Pairwise fun a b => a ≤ b ∧ a ≠ b := List.pairwise_and_iff.mpr ⟨hs, hnd⟩
    refine List.Pairwise.imp_of_mem (fun {a b} ha hb h => ?_) h2
    obtain ⟨i, _, rfl⟩ := hpos a ha
    obtain ⟨i2, _, rfl⟩ := hpos b hb
    have := h.1; have := h.2
    omega
  refine ⟨ys.map Int.toNat, by conv => lhs; rw [e]
                               rw [List.map_map]; rfl, ⟨hn.imp fun h => by omega, fun u hu => c.lt u ((hm u).mp hu), (hm x).mpr c.x0, fun u hu z hz => (hm z).mpr (c.cl u ((hm u).mp hu) z hz), fun C hx hc u hu => c.least C hx hc u ((hm u).mp hu)⟩, hn, hm⟩
end
section
variable {P : Program} {w : World} {K : PySem.W.Frag} {mg : Str → Option Value} {base : Heap} {k : Nat}
def q_row_with : PSp := fun ds P => ∃ n ts r i a b, ds = [webD n ts, rowD r, nat i, .tup [nat a, nat b]] ∧ Web n ts ∧ r.length = ts.length ∧ i < ts.length ∧ ∀ l, Comp (neigh ts r a b) ts.length i l → l.Pairwise (· < ·) → P (natsD l)
theorem mem_ints {l : List Nat} {z : Nat} : ((z : Int) ∈ l.map fun (i : Nat) => (i : Int)) ↔ z ∈ l := by
  constructor
  · intro h
    obtain ⟨y, hy, e⟩ := List.mem_map.mp h
    rw [← Int.ofNat.inj e]; exact hy
  · intro h
    exact List.mem_map.mpr ⟨z, h, rfl⟩
theorem putI_old {l : List Nat} {z : Nat} (h : z ∈ l) : putI (l.map fun (i : Nat) => (i : Int)) (z : Int) = l.map fun (i : Nat) => (i : Int) := by unfold putI; rw [if_pos (mem_ints.mpr h)]
theorem putI_new {l : List Nat} {z : Nat} (h : z ∉ l) : putI (l.map fun (i : Nat) => (i : Int)) (z : Int) = (l ++ [z]).map fun (i : Nat) => (i : Int) := by
  unfold putI
  rw [if_neg (fun e => h (mem_ints.mp e)), List.map_append]; rfl
theorem neigh_lt {ts : List Tie} {r : List (Option Nat)} {a b i z : Nat} (h : z ∈ neigh ts r a b i) : z < ts.length := by
  unfold neigh at h
  rcases List.mem_append.mp h with h | h
  · exact (mem_tiesAt.mp (List.mem_filter.mp h).1).1
  · exact (mem_tiesAt.mp (List.mem_filter.mp h).1).1
theorem last_nat {l : List Nat} (h : 0 < l.length) : ∃ u, l[l.length - 1]? = some u ∧ (l.map nat)[l.length - 1]? = some (nat u) := by
  refine ⟨l[l.length - 1]'(by omega), List.getElem?_eq_getElem (by omega), ?_⟩
  rw [List.getElem?_map, List.getElem?_eq_getElem (by omega)]; rfl
theorem ok_row_with (T : Tx K mg) (L : Lo K mg "row_with" S_row_with) (c_neighbours : Callee P w K mg base k "neighbours" q_neighbours) : Callee P w K mg base (k + 1) "row_with" q_row_with := by
  refine mk_callee L sc_row_with b_row_with (fun tw => d_row_with T c_neighbours) (fun ds P ⟨n, ts, r, i, a, b, e, _⟩ => by rw [e]; rfl) fun ds P ⟨n, ts, r, i, a, b, e, W, hr, hi, h⟩ => ?_
  subst e
  have t16 := W.t16
  unfold k_row_with
  walk_at "vc"
  intro p0 p1
  refine ⟨fun ρ => ∃ met wait s, Bfs (neigh ts r a b) ts.length i none met wait ∧ wait.length ≤ met.length ∧ ρ = [.p (webD n ts), .p (rowD r), .p (nat i), .p (.tup [nat a, nat b]), .dk p0 (met.map fun (i : Nat) => (i : Int)), .o p1 (wait.map nat), s], fun ρ => match ρ with
    | [_, _, _, _, .dk _ ms, .o _ ws, _] => 2 * (ts.length - ms.length) + ws.length
    | _ => 0, ⟨[i], [i], _, Bfs.init hi, Nat.le_refl _, rfl⟩, ?_⟩
  rintro ρ' ⟨met, wait, s, B, hwm0, rfl⟩
  walk_at "vc"
  by_cases hw : 0 < wait.length
  · rw [if_pos (by omega)]
    obtain ⟨u, hu, hu2⟩ := last_nat hw
    obtain ⟨B0, hum, hwl⟩ := B.pop hu
    have hlen := B.len
    unfold ksForPop
    walk_at "vc"
    refine ⟨nat u, hu2, n, ts, r, u, a, b, rfl, W, hr, B.lt u hum, ?_⟩
    refine ⟨(neigh ts r a b u).map nat, rfl, fun j ρ => ∃ met' wait' s, Bfs (neigh ts r a b) ts.length i (some (u, j)) met' wait' ∧ u ∈ met' ∧ wait'.length ≤ met'.length ∧ wait'.length + (ts.length - met'.length) = wait.dropLast.length + (ts.length - met.length) ∧ met.length ≤ met'.length ∧ ρ = [.p (webD n ts), .p (rowD r), .p (nat i), .p (.tup [nat a, nat b]), .dk p0 (met'.map fun (i : Nat) => (i : Int)), .o p1 (wait'.map nat), s], ⟨met, wait.dropLast, s, B0, hum, by omega, rfl, Nat.le_refl _, by rw [List.map_dropLast]; rfl⟩, ?_, ?_⟩
    · rintro j d ρ' hd ⟨met', wait', s', B', hu', hwm, hm', hle, rfl⟩
      rw [List.getElem?_map] at hd
      cases hz : (neigh ts r a b u)[j]? with
      | none => rw [hz] at hd; cases hd
      | some z =>
        rw [hz] at hd
        cases hd
        have hzl := neigh_lt (List.mem_of_getElem? hz)
        have hl2 := B'.len
        walk_at "vc"
        by_cases hin : z ∈ met'
        · rw [decide_eq_true (mem_ints.mpr hin)]
          walk_at "vc"
          exact ⟨met', wait', B'.old hz hin, hu', hwm, hm', hle, rfl, rfl⟩
        · rw [decide_eq_false (fun e => hin (mem_ints.mp e))]
          have B2 := B'.new hz hin hzl hu'
          have hl3 := B2.len
          rw [List.length_append] at hl3
          walk_at "vc"
          rw [putI_new hin]
          refine ⟨by omega, by omega, met' ++ [z], wait' ++ [z], B2, List.mem_append_left _ hu', ?_, ?_, ?_, ?_⟩
          · rw [List.length_append, List.length_append]; exact Nat.add_le_add_right hwm _
          · rw [List.length_append, List.length_append, List.length_singleton]
            simp only [List.length_singleton] at hl3
            omega
          · rw [List.length_append]; omega
          · rw [List.map_append, List.map_append]; exact ⟨rfl, rfl⟩
    · rintro ρ' ⟨met', wait', s', B', hu', hwm, hm', hle, rfl⟩
      refine ⟨⟨met', wait', B'.fin (by rw [List.length_map]; exact Nat.le_refl _), hwm, _, rfl⟩, ?_⟩
      have hl2 := B'.len
      walk_at "vc"
      omega
  · rw [if_neg (by omega)]
    have e : wait = [] := List.length_eq_zero_iff.mp (by omega)
    subst e
    have hl := B.len
    refine ⟨by omega, fun ys hp hs => ?_⟩
    obtain ⟨l2, e2, c2, p2, _⟩ := B.done.sorted hp hs
    rw [e2]
    exact h l2 c2 p2
end
end U
set_option Elab.async false
set_option linter.all false
set_option maxRecDepth 100000
set_option maxHeartbeats 1000000
namespace U
open PySem PySem.Spec PyProof.Rows L2
local macro_rules | `(tactic| walk_at "vc") => `(tactic| (first | simp only [hueD_n, hueD_s, kOoNew, kOoApp, Slot.oo.injEq, c_0, c_1, c_2, c_3, eq_self, kLenSet, kFldC, kMeth, kOwn, kApp, kExt, kIns, kPop, kPut, kAugA, kPar, kDk0, kDk1, kDkPut, kDt0, kDtPut, kUpd, kInDk, kInDt, kSorted, kTapeSet, kSwap, kCount, kIndex, kLstR, kCallF, kBinF, catP, listP, max2P, min2P, intBP, absP, tupleP, Slot.dk.injEq, Slot.dt.injEq, reduceCtorEq, false_and, exists_false, and_assoc, lenP, seq_l, seq_t, seq_s, natsD, natsT, rowD, num_nat, Nat.reduceLeDiff, inP, ninP, ni_i, ni_n, ni_hue, eqN_ih, eqN_ii, eqN_nn, eqN_ni, eqN_in, any_nats', any_hues_n, any_hues_i, all_ni, all_niH, beq_nat, List.all_cons, List.all_nil, List.any_cons, List.any_nil, Bool.or_false, Bool.and_true, Bool.true_and, at0, at1, at2, at3, kSl, koN, koS, slP, kItET, kItE, kItS, kItR1, kItR2, kItZ, kItZM, webD, nat, tieD, le0, lt_nat, le_nat, eq_nat, decide_true, decide_false, decide_eq_true_eq, kSeq, kNext, kRet, kSet, kDrop, kTgt, ksIf, kVar, kVarB, rdB_p, rdB_o, kC, kBin, kF, q_add_ii, q_add_ll, q_add_tt, q_sub_ii, q_mul_ii, q_mul_li, q_mod_ii, q_fdiv_ii, q_pow_ii, q_ix_l, q_ix_t, q_ix_s, q_ix_tp, q_ii, q_is_bb, q_is_n, q_nis_bb, q_nis_n, q_eq_ii, q_eq_ni, q_eq_in, q_eq_nn, q_eq_ss, q_eq_tt, q_eq_ll, q_isN_n, q_isN_i, q_isN_t, q_isN_l, q_isN_b, kNeg, kCmp, kCmpT, kChain, kBo, neP, kAnd, kOr, kNot, tkAnd, tkOr, tkNot, tkV, kIf, kNil, kCons, kTup, kLst, kCall, kIsi, gkName, gkTup, gkCons, gkNil, tkYes, relP, kRel, wipeP, startP, List.map_cons, List.map_nil, List.length_cons, List.length_nil, List.replicate_succ, List.replicate_zero, List.cons_append, List.nil_append, List.append_nil, Nat.reduceSub, Nat.reduceAdd, Nat.sub_self, List.getElem?_cons_zero, List.getElem?_cons_succ, List.getElem?_nil, List.set_cons_zero, List.set_cons_succ, List.set_nil, Option.some.injEq, Slot.p.injEq, Slot.o.injEq, D.tup.injEq, D.lst.injEq, D.int.injEq, D.bl.injEq, D.str.injEq, exists_eq_left', exists_eq_left, exists_eq_right, exists_eq_right', exists_and_left, exists_eq', exists_eq, and_true, true_and, Bool.not_true, Bool.not_false, if_true, if_false, Bool.false_eq_true, ite_true, ite_false, reduceIte, List.cons.injEq, List.length_map] | skip))
section
variable {P : Program} {w : World} {K : PySem.W.Frag} {mg : Str → Option Value} {base : Heap} {k : Nat}
/-! ### part_from -/
def sideOf (ts : List Tie) (p i : Nat) : Nat := (tie ts i).1 + (tie ts i).2 - p
def nbP (ts : List Tie) (p : Nat) : List Nat := (tiesAt ts p).map (sideOf ts p)
def q_part_from : PSp := fun ds P => ∃ n ts p, ds = [webD n ts, .lst ((byPlace n ts).map natsD), nat p] ∧ Web n ts ∧ p < n ∧ ∀ l, Comp (nbP ts) n p l → l.Pairwise (· < ·) → P (natsD l)
theorem at_byPlace {n : Nat} {ts : List Tie} {p : Nat} (h : p < n) : atI ((byPlace n ts).map natsD) (p : Int) = some (natsD (tiesAt ts p)) := at_map (by unfold byPlace; rw [List.getElem?_map, List.getElem?_range h]; rfl)
theorem ok_part_from (T : Tx K mg) (L : Lo K mg "part_from" S_part_from) : Callee P w K mg base (k + 1) "part_from" q_part_from := by
  refine mk_callee L sc_part_from b_part_from (fun tw => d_part_from T) (fun ds P ⟨n, ts, p, e, _⟩ => by rw [e]; rfl) fun ds P ⟨n, ts, p, e, W, hp, h⟩ => ?_
  subst e
  have n12 := W.n12
  unfold k_part_from
  walk_at "vc"
  intro p0 p1
  refine ⟨fun ρ => ∃ met wait s5 s6 s7, Bfs (nbP ts) n p none met wait ∧ wait.length ≤ met.length ∧ ρ = [.p (webD n ts), .p (.lst ((byPlace n ts).map natsD)), .p (nat p), .dk p0 (met.map fun (i : Nat) => (i : Int)), .o p1 (wait.map nat), s5, s6, s7], fun ρ => match ρ with
    | [_, _, _, .dk _ ms, .o _ ws, _, _, _] => 2 * (n - ms.length) + ws.length
    | _ => 0, ⟨[p], [p], _, _, _, Bfs.init hp, Nat.le_refl _, rfl⟩, ?_⟩
  rintro ρ' ⟨met, wait, s5, s6, s7, B, hwm0, rfl⟩
  walk_at "vc"
  by_cases hw : 0 < wait.length
  · rw [if_pos (by omega)]
    obtain ⟨u, hu, hu2⟩ := last_nat hw
    obtain ⟨B0, hum, hwl⟩ := B.pop hu
    have hlen := B.len
    refine ⟨nat u, hu2, ?_⟩
    walk_at "vc"
    refine for_map (tiesAt ts u) nat (fun Q hQ => ?_) (fun j ρ => ∃ met' wait' s6 s7, Bfs (nbP ts) n p (some (u, j)) met' wait' ∧ u ∈ met' ∧ wait'.length ≤ met'.length ∧ wait'.length + (n - met'.length) = wait.dropLast.length + (n - met.length) ∧ met.length ≤ met'.length ∧ ρ = [.p (webD n ts), .p (.lst ((byPlace n ts).map natsD)), .p (nat p), .dk p0 (met'.map fun (i : Nat) => (i : Int)), .o p1 (wait'.map nat), .p (nat u), s6, s7]) ⟨met, wait.dropLast, s6, s7, B0, hum, by omega, rfl, Nat.le_refl _, by rw [List.map_dropLast]; rfl⟩ ?_ ?_
    · walk_at "vc"
      rw [at_byPlace (B.lt u hum)]
      walk_at "vc"
      exact hQ
    · rintro j x ρ' hx ⟨met', wait', s6', s7', B', hu', hwm, hm', hle, rfl⟩
      have hxm := mem_tiesAt.mp (List.mem_of_getElem? hx)
      obtain ⟨lt1, lt2⟩ := W.at hxm.1
      have hz : (nbP ts u)[j]? = some (sideOf ts u x) := by unfold nbP; rw [List.getElem?_map, hx]; rfl
      have hzl : sideOf ts u x < n := by unfold sideOf; omega
      have hl2 := B'.len
      walk_at "vc"
      rw [at_tie hxm.1]
      refine ⟨_, rfl, [((tie ts x).1 : Int), ((tie ts x).2 : Int)], rfl, ?_⟩
      walk_at "vc"
      have ez : ([((tie ts x).1 : Int), ((tie ts x).2 : Int)]).sum - (u : Int) = ((sideOf ts u x : Nat) : Int) := by
        unfold sideOf
        simp only [List.sum_cons, List.sum_nil]
        omega
      rw [ez]
      by_cases hin : sideOf ts u x ∈ met'
      · rw [decide_eq_true (mem_ints.mpr hin)]
        walk_at "vc"
        exact ⟨met', wait', B'.old hz hin, hu', hwm, hm', hle, rfl, rfl⟩
      · rw [decide_eq_false (fun e => hin (mem_ints.mp e))]
        have B2 := B'.new hz hin hzl hu'
        have hl3 := B2.len
        rw [List.length_append] at hl3
        walk_at "vc"
        rw [putI_new hin]
        refine ⟨by omega, by omega, met' ++ [sideOf ts u x], wait' ++ [sideOf ts u x], B2, List.mem_append_left _ hu', ?_, ?_, ?_, ?_⟩
        · rw [List.length_append, List.length_append]; exact Nat.add_le_add_right hwm _
        · rw [List.length_append, List.length_append, List.length_singleton]
          simp only [List.length_singleton] at hl3
          omega
        · rw [List.length_append]; omega
        · rw [List.map_append, List.map_append]; exact ⟨rfl, rfl⟩
    · rintro ρ' ⟨met', wait', s6', s7', B', hu', hwm, hm', hle, rfl⟩
      have hl2 := B'.len
      walk_at "vc"
      refine ⟨⟨met', wait', B'.fin (by unfold nbP; rw [List.length_map]; exact Nat.le_refl _), hwm, rfl, rfl⟩, ?_⟩
      omega
  · rw [if_neg (by omega)]
    have e : wait = [] := List.length_eq_zero_iff.mp (by omega)
    subst e
    have hl := B.len
    refine ⟨by omega, fun ys hp hs => ?_⟩
    obtain ⟨l2, e2, c2, p2, _⟩ := B.done.sorted hp hs
    rw [e2]
    exact h l2 c2 p2
/-! ### parts -/
structure IsParts (n : Nat) (ts : List Tie) (ps : List (List Nat)) : Prop where
  comp : ∀ l ∈ ps, (∃ p, Comp (nbP ts) n p l) ∧ l.Pairwise (· < ·)
  all : ∀ p, p < n → ∃ l ∈ ps, p ∈ l
  dis : ps.Pairwise fun a b => ∀ z ∈ a, z ∉ b
theorem mem_nbP {n : Nat} {ts : List Tie} (W : Web n ts) {p q : Nat} : q ∈ nbP ts p ↔ ∃ i, i < ts.length ∧ ((tie ts i).1 = p ∧ (tie ts i).2 = q ∨ (tie ts i).2 = p ∧ (tie ts i).1 = q) := by
  unfold nbP
  rw [List.mem_map]
  constructor
  · rintro ⟨i, hi, rfl⟩
    have hi := mem_tiesAt.mp hi
    refine ⟨i, hi.1, ?_⟩
    unfold sideOf
    have := hi.2
    omega
  · rintro ⟨i, hi, h⟩
    refine ⟨i, mem_tiesAt.mpr ⟨hi, h.elim (fun z => .inl z.1) fun z => .inr z.1⟩, ?_⟩
    unfold sideOf
    omega
theorem nbP_symm {n : Nat} {ts : List Tie} (W : Web n ts) {p q : Nat} (h : q ∈ nbP ts p) : p ∈ nbP ts q := by
  obtain ⟨i, hi, h⟩ := (mem_nbP W).mp h
  exact (mem_nbP W).mpr ⟨i, hi, h.elim (fun z => .inr ⟨z.2, z.1⟩) fun z => .inl ⟨z.2, z.1⟩⟩
/-- two that hang together have nothing in common with another -/
theorem comp_dis {nb : Nat → List Nat} {N p q : Nat} {l m : List Nat} (sy : ∀ a b, b ∈ nb a → a ∈ nb b) (c : Comp nb N p l) (d : Comp nb N q m) (h : q ∉ l) : ∀ z ∈ m, z ∉ l :=
  d.least (fun z => z ∉ l) h fun u hu z hz hzl => hu (c.cl z hzl u (sy u z hz))
theorem foldl_putI (l : List Nat) : ∀ met : List Nat, ∃ met2 : List Nat, (l.map fun (i : Nat) => (i : Int)).foldl putI (met.map fun (i : Nat) => (i : Int)) = met2.map (fun (i : Nat) => (i : Int)) ∧ (∀ z, z ∈ met2 ↔ z ∈ met ∨ z ∈ l) ∧ met2.length ≤ met.length + l.length := by
  induction l with
  | nil => exact fun met => ⟨met, rfl, fun z => by simp, Nat.le_refl _⟩
  | cons x l ih =>
    intro met
    by_cases h : x ∈ met
    · obtain ⟨m2, e, hm, hl⟩ := ih met
      refine ⟨m2, by rw [List.map_cons, List.foldl_cons, putI_old h]; exact e, fun z => ?_, by rw [List.length_cons]; omega⟩
      rw [hm, List.mem_cons]
      constructor
      · rintro (z | z)
        · exact .inl z
        · exact .inr (.inr z)
      · rintro (z | rfl | z)
        · exact .inl z
        · exact .inl h
        · exact .inr z
    · obtain ⟨m2, e, hm, hl⟩ := ih (met ++ [x])
      refine ⟨m2, by rw [List.map_cons, List.foldl_cons, putI_new h]; exact e, fun z => ?_, by rw [List.length_append, List.length_singleton] at hl; rw [List.length_cons]; omega⟩
      rw [hm, List.mem_cons, List.mem_append, List.mem_singleton, or_assoc]
theorem at_last {α : Type} {xs : List α} {x : α} : atI (xs ++ [x]) (-1) = some x := by
  have e : atI (xs ++ [x]) (-1) = (xs ++ [x])[xs.length]? := by
    unfold atI ixN
    rw [List.length_append, List.length_singleton, if_neg (by omega), if_pos (by omega)]
    show (xs ++ [x])[(-1 + ((xs.length + 1 : Nat) : Int)).toNat]? = _
    rw [show (-1 + ((xs.length + 1 : Nat) : Int)).toNat = xs.length by omega]
  rw [e, List.getElem?_append_right (Nat.le_refl _), Nat.sub_self]; rfl
def q_parts : PSp := fun ds P => ∃ n ts, ds = [webD n ts] ∧ Web n ts ∧ ∀ ps, IsParts n ts ps → P (.lst (ps.map natsD))
theorem ok_parts (T : Tx K mg) (L : Lo K mg "parts" S_parts) (c_ties_by_place : Callee P w K mg base k "ties_by_place" q_ties_by_place) (c_part_from : Callee P w K mg base k "part_from" q_part_from) : Callee P w K mg base (k + 1) "parts" q_parts := by
  refine mk_callee L sc_parts b_parts (fun tw => d_parts T c_ties_by_place c_part_from) (fun ds P ⟨n, ts, e, _⟩ => by rw [e]; rfl) fun ds P ⟨n, ts, e, W, h⟩ => ?_
  subst e
  have n12 := W.n12
  unfold k_parts
  walk_at "vc"
  refine ⟨n, ts, rfl, W, ?_⟩
  intro p0 p1
  refine for_map (List.range n) nat (fun Q hQ => ?_) (fun j ρ => ∃ (ps : List (List Nat)) (met : List Nat) (s4 s5 : Slot), (∀ l ∈ ps, (∃ p, Comp (nbP ts) n p l) ∧ l.Pairwise (· < ·)) ∧ (∀ p, p < j → ∃ l ∈ ps, p ∈ l) ∧ (ps.Pairwise fun a b => ∀ z ∈ a, z ∉ b) ∧ (∀ z, z ∈ met ↔ ∃ l ∈ ps, z ∈ l) ∧ ps.length ≤ j ∧ met.length ≤ 12 * j ∧ ρ = [.p (webD n ts), .p (.lst ((byPlace n ts).map natsD)), .o p0 (ps.map natsD), .dk p1 (met.map fun (i : Nat) => (i : Int)), s4, s5]) ⟨[], [], _, _, fun _ z => (by cases z), fun _ z => (by omega), List.Pairwise.nil, fun z => ⟨fun z => (by cases z), fun ⟨_, z, _⟩ => (by cases z)⟩, Nat.le_refl _, Nat.zero_le _, rfl⟩ ?_ ?_
  · walk_at "vc"
    refine ⟨by omega, by omega, ?_⟩
    rw [rng_nat]
    exact hQ
  · rintro j x ρ' hx ⟨ps, met, s4, s5, hc, ha, hd, hm, hpl, hml, rfl⟩
    have hxn := List.mem_range.mp (List.mem_of_getElem? hx)
    have hjx : x = j := by
      have hj := (List.getElem?_eq_some_iff.mp hx).1
      rw [List.length_range] at hj
      rw [List.getElem?_range hj] at hx
      exact (Option.some.inj hx).symm
    subst hjx
    walk_at "vc"
    by_cases hin : x ∈ met
    · rw [decide_eq_true (mem_ints.mpr hin)]
      walk_at "vc"
      refine ⟨ps, hc, fun p hp => ?_, hd, met, hm, by omega, by omega, rfl, rfl⟩
      by_cases e : p = x
      · subst e; exact (hm p).mp hin
      · exact ha p (by omega)
    · rw [decide_eq_false (fun e => hin (mem_ints.mp e))]
      walk_at "vc"
      refine ⟨by omega, n, ts, x, rfl, W, hxn, fun l hl hls => ?_⟩
      walk_at "vc"
      have hll := nd_len hl.nd hl.lt
      refine lc_map l nat (fun Q hQ => ?_) (fun _ => true) (fun i => .tup [nat i, .bl true]) (fun i hi Q A h1 _ => ?_) ?_
      · walk_at "vc"
        refine ⟨_, at_last, ?_⟩
        walk_at "vc"
        exact hQ
      · walk_at "vc"
        exact h1 rfl
      · obtain ⟨m2, e2, hm2, hl2⟩ := foldl_putI l met
        refine ⟨l.map fun (i : Nat) => (i : Int), by rw [List.filter_eq_self.mpr fun _ _ => rfl, List.map_map]; rfl, by rw [List.length_map]; omega, ps ++ [l], ?_, ?_, ?_, m2, ?_, by rw [List.length_append, List.length_singleton]; omega, by omega, by rw [List.map_append]; rfl, e2⟩
        · intro m hm'
          rcases List.mem_append.mp hm' with z | z
          · exact hc m z
          · rw [List.mem_singleton.mp z]
            exact ⟨⟨x, hl⟩, hls⟩
        · intro p hp
          by_cases e : p = x
          · subst e
            exact ⟨l, List.mem_append_right _ (List.mem_singleton.mpr rfl), hl.x0⟩
          · obtain ⟨m, h1, h2⟩ := ha p (by omega)
            exact ⟨m, List.mem_append_left _ h1, h2⟩
        · refine List.pairwise_append.mpr ⟨hd, List.pairwise_singleton .., fun a ha' b hb z hz hzb => ?_⟩
          rw [List.mem_singleton.mp hb] at hzb
          obtain ⟨⟨q, cq⟩, _⟩ := hc a ha'
          exact comp_dis (fun u v => nbP_symm W) cq hl (fun e => hin ((hm x).mpr ⟨a, ha', e⟩)) z hzb hz
        · intro z
          rw [hm2, hm]
          constructor
          · rintro (⟨m, h1, h2⟩ | h1)
            · exact ⟨m, List.mem_append_left _ h1, h2⟩
            · exact ⟨l, List.mem_append_right _ (List.mem_singleton.mpr rfl), h1⟩
          · rintro ⟨m, h1, h2⟩
            rcases List.mem_append.mp h1 with h1 | h1
            · exact .inl ⟨m, h1, h2⟩
            · rw [List.mem_singleton.mp h1] at h2
              exact .inr h2
  · rintro ρ' ⟨ps, met, s4, s5, hc, ha, hd, hm, hpl, hml, rfl⟩
    rw [List.length_range] at ha
    walk_at "vc"
    exact h ps ⟨hc, ha, hd⟩
end
end U
set_option Elab.async false
set_option linter.all false
set_option maxRecDepth 100000
set_option maxHeartbeats 1000000
namespace U
open PySem PySem.Spec PyProof.Rows L2
local macro_rules | `(tactic| walk_at "vc") => `(tactic| (first | simp only [hueD_n, hueD_s, kOoNew, kOoApp, Slot.oo.injEq, c_0, c_1, c_2, c_3, eq_self, kLenSet, kFldC, kMeth, kOwn, kApp, kExt, kIns, kPop, kPut, kAugA, kPar, kDk0, kDk1, kDkPut, kDt0, kDtPut, kUpd, kInDk, kInDt, kSorted, kTapeSet, kSwap, kCount, kIndex, kLstR, kCallF, kBinF, catP, listP, max2P, min2P, intBP, absP, tupleP, Slot.dk.injEq, Slot.dt.injEq, reduceCtorEq, false_and, exists_false, and_assoc, lenP, seq_l, seq_t, seq_s, natsD, natsT, rowD, num_nat, Nat.reduceLeDiff, inP, ninP, ni_i, ni_n, ni_hue, eqN_ih, eqN_ii, eqN_nn, eqN_ni, eqN_in, any_nats', any_hues_n, any_hues_i, all_ni, all_niH, beq_nat, List.all_cons, List.all_nil, List.any_cons, List.any_nil, Bool.or_false, Bool.and_true, Bool.true_and, at0, at1, at2, at3, kSl, koN, koS, slP, kItET, kItE, kItS, kItR1, kItR2, kItZ, kItZM, webD, nat, tieD, le0, lt_nat, le_nat, eq_nat, decide_true, decide_false, decide_eq_true_eq, kSeq, kNext, kRet, kSet, kDrop, kTgt, ksIf, kVar, kVarB, rdB_p, rdB_o, kC, kBin, kF, q_add_ii, q_add_ll, q_add_tt, q_sub_ii, q_mul_ii, q_mul_li, q_mod_ii, q_fdiv_ii, q_pow_ii, q_ix_l, q_ix_t, q_ix_s, q_ix_tp, q_ii, q_is_bb, q_is_n, q_nis_bb, q_nis_n, q_eq_ii, q_eq_ni, q_eq_in, q_eq_nn, q_eq_ss, q_eq_tt, q_eq_ll, q_isN_n, q_isN_i, q_isN_t, q_isN_l, q_isN_b, kNeg, kCmp, kCmpT, kChain, kBo, neP, kAnd, kOr, kNot, tkAnd, tkOr, tkNot, tkV, kIf, kNil, kCons, kTup, kLst, kCall, kIsi, gkName, gkTup, gkCons, gkNil, tkYes, relP, kRel, wipeP, startP, List.map_cons, List.map_nil, List.length_cons, List.length_nil, List.replicate_succ, List.replicate_zero, List.cons_append, List.nil_append, List.append_nil, Nat.reduceSub, Nat.reduceAdd, Nat.sub_self, List.getElem?_cons_zero, List.getElem?_cons_succ, List.getElem?_nil, List.set_cons_zero, List.set_cons_succ, List.set_nil, Option.some.injEq, Slot.p.injEq, Slot.o.injEq, D.tup.injEq, D.lst.injEq, D.int.injEq, D.bl.injEq, D.str.injEq, exists_eq_left', exists_eq_left, exists_eq_right, exists_eq_right', exists_and_left, exists_eq', exists_eq, and_true, true_and, Bool.not_true, Bool.not_false, if_true, if_false, Bool.false_eq_true, ite_true, ite_false, reduceIte, List.cons.injEq, List.length_map] | skip))
section
variable {P : Program} {w : World} {K : PySem.W.Frag} {mg : Str → Option Value} {base : Heap} {k : Nat}
/-! ### rows_of -/
structure IsRows (ts : List Tie) (r : List (Option Nat)) (a b : Nat) (rs : List (List Nat)) : Prop where
  comp : ∀ l ∈ rs, (∃ i, inAB r a b i = true ∧ Comp (neigh ts r a b) ts.length i l) ∧ l.Pairwise (· < ·)
  all : ∀ i, i < ts.length → inAB r a b i = true → ∃ l ∈ rs, i ∈ l
  dis : rs.Pairwise fun a b => ∀ z ∈ a, z ∉ b
theorem mem_neigh {ts : List Tie} {r : List (Option Nat)} {a b i z : Nat} : z ∈ neigh ts r a b i ↔ z < ts.length ∧ inAB r a b z = true ∧ meet (tie ts z) (tie ts i) = true := by
  unfold neigh meet
  rw [List.mem_append, List.mem_filter, List.mem_filter, mem_tiesAt, mem_tiesAt]
  simp only [Bool.or_eq_true, beq_iff_eq]
  constructor
  · rintro (⟨⟨h1, h2⟩, h3⟩ | ⟨⟨h1, h2⟩, h3⟩)
    · exact ⟨h1, h3, by omega⟩
    · exact ⟨h1, h3, by omega⟩
  · rintro ⟨h1, h3, h2⟩
    by_cases h : (tie ts z).1 = (tie ts i).1 ∨ (tie ts z).2 = (tie ts i).1
    · exact .inl ⟨⟨h1, h⟩, h3⟩
    · exact .inr ⟨⟨h1, by omega⟩, h3⟩
theorem meet_symm {t u : Tie} : meet t u = meet u t := by
  unfold meet
  rw [Bool.eq_iff_iff]
  simp only [Bool.or_eq_true, beq_iff_eq]
  omega
theorem comp_dis' {nb : Nat → List Nat} {N p q : Nat} {l m : List Nat} {A : Nat → Prop} (sy : ∀ a b, A a → b ∈ nb a → A b ∧ a ∈ nb b) (c : Comp nb N p l) (d : Comp nb N q m) (hA : A q) (h : q ∉ l) : ∀ z ∈ m, z ∉ l := fun z hz =>
  (d.least (fun z => A z ∧ z ∉ l) ⟨hA, h⟩ (fun u hu z hz => ⟨(sy u z hu.1 hz).1, fun hzl => hu.2 (c.cl z hzl u (sy u z hu.1 hz).2)⟩) z hz).2
theorem neigh_symm {ts : List Tie} {r : List (Option Nat)} {a b : Nat} (u v : Nat) (hu : u < ts.length ∧ inAB r a b u = true) (h : v ∈ neigh ts r a b u) : (v < ts.length ∧ inAB r a b v = true) ∧ u ∈ neigh ts r a b v := by
  have h := mem_neigh.mp h
  exact ⟨⟨h.1, h.2.1⟩, mem_neigh.mpr ⟨hu.1, hu.2, by rw [meet_symm]; exact h.2.2⟩⟩
def rowOfD (ts : List Tie) (l : List Nat) : D := .tup [.str (wordOf ts l), natsD l]
def q_rows_of : PSp := fun ds P => ∃ n ts r a b, ds = [webD n ts, rowD r, nat a, nat b] ∧ Web n ts ∧ r.length = ts.length ∧ a ≠ b ∧ ∀ rs, IsRows ts r a b rs → P (.lst (rs.map (rowOfD ts)))
theorem ok_rows_of (T : Tx K mg) (L : Lo K mg "rows_of" S_rows_of) (c_look_hues : Callee P w K mg base k "look_hues" q_look_hues) (c_row_with : Callee P w K mg base k "row_with" q_row_with) (c_word_of : Callee P w K mg base k "word_of" q_word_of) : Callee P w K mg base (k + 1) "rows_of" q_rows_of := by
  refine mk_callee L sc_rows_of b_rows_of (fun tw => d_rows_of T c_look_hues c_row_with c_word_of) (fun ds P ⟨n, ts, r, a, b, e, _⟩ => by rw [e]; rfl) fun ds P ⟨n, ts, r, a, b, e, W, hr, hne, h⟩ => ?_
  subst e
  have t16 := W.t16
  unfold k_rows_of
  walk_at "vc"
  refine ⟨a, b, rfl, hne, ?_⟩
  intro p1 p0
  refine for_rng r.length (fun i => .tup [nat i, hueD (hue r i)]) (fun Q hQ => ?_) (fun j ρ => ∃ (rs : List (List Nat)) (met : List Nat) (s6 s7 s8 s9 : Slot), (∀ l ∈ rs, (∃ i, inAB r a b i = true ∧ Comp (neigh ts r a b) ts.length i l) ∧ l.Pairwise (· < ·)) ∧ (∀ p, p < j → inAB r a b p = true → ∃ l ∈ rs, p ∈ l) ∧ (rs.Pairwise fun a b => ∀ z ∈ a, z ∉ b) ∧ (∀ z, z ∈ met ↔ ∃ l ∈ rs, z ∈ l) ∧ rs.length ≤ j ∧ met.length ≤ 16 * j ∧ ρ = [.p (webD n ts), .p (rowD r), .p (nat a), .p (nat b), .dk p1 (met.map fun (i : Nat) => (i : Int)), .o p0 (rs.map (rowOfD ts)), s6, s7, s8, s9]) ⟨[], [], .any, .any, .any, .any, fun _ z => (by cases z), fun _ z => (by omega), List.Pairwise.nil, fun z => ⟨fun z => (by cases z), fun ⟨_, z, _⟩ => (by cases z)⟩, Nat.le_refl _, Nat.zero_le _, rfl⟩ ?_ ?_
  · walk_at "vc"
    rw [enum_map r hueD none]
    exact hQ
  · rintro x ρ' hx ⟨rs, met, s6, s7, s8, s9, hc, ha, hd, hm, hpl, hml, rfl⟩
    walk_at "vc"
    have keep : (inAB r a b x = true → x ∈ met) → ∀ p, p < x + 1 → inAB r a b p = true → ∃ l, l ∈ rs ∧ p ∈ l := fun hx p hp hi => by
      by_cases e : p = x
      · subst e; exact (hm p).mp (hx hi)
      · exact ha p (by omega) hi
    refine fin_if (fun e1 => ?_) fun e1 => ?_
    · refine fin_if (fun e2 => ?_) fun e2 => ?_
      · have hin : x ∉ met := fun z => by
          rw [decide_eq_true (mem_ints.mpr z)] at e2; cases e2
        refine ⟨n, ts, r, x, a, b, rfl, W, hr, by omega, fun l hl hls => ?_⟩
        have hll := nd_len hl.nd hl.lt
        refine for_map l nat (fun Q hQ => ?_) (fun j ρ => ∃ (m2 : List Nat) (s9 : Slot), (∀ z, z ∈ m2 ↔ z ∈ met ∨ z ∈ l.take j) ∧ m2.length ≤ met.length + j ∧ ρ = [.p (webD n ts), .p (rowD r), .p (nat a), .p (nat b), .dk p1 (m2.map fun (i : Nat) => (i : Int)), .o p0 (rs.map (rowOfD ts)), .p (nat x), .p (hueD (hue r x)), .p (natsD l), s9]) ⟨met, s9, fun z => by simp, Nat.le_refl _, rfl⟩ ?_ ?_
        · walk_at "vc"
          exact hQ
        · rintro j y ρ' hy ⟨m2, s9', hm2, hl2, rfl⟩
          have hjl := (List.getElem?_eq_some_iff.mp hy).1
          walk_at "vc"
          obtain ⟨m3, e3, hm3, hl3⟩ := foldl_putI [y] m2
          refine ⟨by omega, m3, fun z => ?_, by rw [List.length_singleton] at hl3; omega, e3⟩
          rw [hm3, hm2, List.take_add_one, hy, List.mem_append, or_assoc]
          rfl
        · rintro ρ' ⟨m2, s9', hm2, hl2, rfl⟩
          rw [List.take_length] at hm2
          walk_at "vc"
          refine ⟨by omega, n, ts, l, rfl, by omega, hl.lt, rs ++ [l], ?_, ?_, ?_, m2, ?_, by rw [List.length_append, List.length_singleton]; omega, by omega, rfl, ?_⟩
          · intro m hm'
            rcases List.mem_append.mp hm' with z | z
            · exact hc m z
            · rw [List.mem_singleton.mp z]
              exact ⟨⟨x, e1, hl⟩, hls⟩
          · intro p hp hip
            by_cases e : p = x
            · subst e
              exact ⟨l, List.mem_append_right _ (List.mem_singleton.mpr rfl), hl.x0⟩
            · obtain ⟨m, h1, h2⟩ := ha p (by omega) hip
              exact ⟨m, List.mem_append_left _ h1, h2⟩
          · refine List.pairwise_append.mpr ⟨hd, List.pairwise_singleton .., fun a' ha' b' hb z hz hzb => ?_⟩
            rw [List.mem_singleton.mp hb] at hzb
            obtain ⟨⟨q, _, cq⟩, _⟩ := hc a' ha'
            exact comp_dis' neigh_symm cq hl ⟨by omega, e1⟩ (fun e => hin ((hm x).mpr ⟨a', ha', e⟩)) z hzb hz
          · intro z
            rw [hm2, hm]
            constructor
            · rintro (⟨m, h1, h2⟩ | h1)
              · exact ⟨m, List.mem_append_left _ h1, h2⟩
              · exact ⟨l, List.mem_append_right _ (List.mem_singleton.mpr rfl), h1⟩
            · rintro ⟨m, h1, h2⟩
              rcases List.mem_append.mp h1 with h1 | h1
              · exact .inl ⟨m, h1, h2⟩
              · rw [List.mem_singleton.mp h1] at h2
                exact .inr h2
          · rw [List.map_append]; rfl
      · refine ⟨rs, hc, keep fun _ => ?_, hd, met, hm, by omega, by omega, rfl, rfl⟩
        refine Decidable.byContradiction fun z => ?_
        rw [decide_eq_false (fun y => z (mem_ints.mp y))] at e2
        cases e2
    · exact ⟨rs, hc, keep fun e => (by rw [show inAB r a b x = false from e1] at e; cases e), hd, met, hm, by omega, by omega, rfl, rfl⟩
  · rintro ρ' ⟨rs, met, s6, s7, s8, s9, hc, ha, hd, hm, hpl, hml, rfl⟩
    rw [hr] at ha
    walk_at "vc"
    exact h rs ⟨hc, ha, hd⟩
end
end U
set_option Elab.async false
set_option linter.all false
set_option maxRecDepth 100000
set_option maxHeartbeats 1000000
namespace U
open PySem PySem.Spec PyProof.Rows L2
local macro_rules | `(tactic| walk_at "vc") => `(tactic| (first | simp only [hueD_n, hueD_s, kOoNew, kOoApp, Slot.oo.injEq, c_0, c_1, c_2, c_3, eq_self, kLenSet, kFldC, kMeth, kOwn, kApp, kExt, kIns, kPop, kPut, kAugA, kPar, kDk0, kDk1, kDkPut, kDt0, kDtPut, kUpd, kInDk, kInDt, kSorted, kTapeSet, kSwap, kCount, kIndex, kLstR, kCallF, kBinF, catP, listP, max2P, min2P, intBP, absP, tupleP, Slot.dk.injEq, Slot.dt.injEq, reduceCtorEq, false_and, exists_false, and_assoc, lenP, seq_l, seq_t, seq_s, natsD, natsT, rowD, num_nat, Nat.reduceLeDiff, inP, ninP, ni_i, ni_n, ni_hue, eqN_ih, eqN_ii, eqN_nn, eqN_ni, eqN_in, any_nats', any_hues_n, any_hues_i, all_ni, all_niH, beq_nat, List.all_cons, List.all_nil, List.any_cons, List.any_nil, Bool.or_false, Bool.and_true, Bool.true_and, at0, at1, at2, at3, kSl, koN, koS, slP, kItET, kItE, kItS, kItR1, kItR2, kItZ, kItZM, webD, nat, tieD, le0, lt_nat, le_nat, eq_nat, decide_true, decide_false, decide_eq_true_eq, kSeq, kNext, kRet, kSet, kDrop, kTgt, ksIf, kVar, kVarB, rdB_p, rdB_o, kC, kBin, kF, q_add_ii, q_add_ll, q_add_tt, q_sub_ii, q_mul_ii, q_mul_li, q_mod_ii, q_fdiv_ii, q_pow_ii, q_ix_l, q_ix_t, q_ix_s, q_ix_tp, q_ii, q_is_bb, q_is_n, q_nis_bb, q_nis_n, q_eq_ii, q_eq_ni, q_eq_in, q_eq_nn, q_eq_ss, q_eq_tt, q_eq_ll, q_isN_n, q_isN_i, q_isN_t, q_isN_l, q_isN_b, kNeg, kCmp, kCmpT, kChain, kBo, neP, kAnd, kOr, kNot, tkAnd, tkOr, tkNot, tkV, kIf, kNil, kCons, kTup, kLst, kCall, kIsi, gkName, gkTup, gkCons, gkNil, tkYes, relP, kRel, wipeP, startP, List.map_cons, List.map_nil, List.length_cons, List.length_nil, List.replicate_succ, List.replicate_zero, List.cons_append, List.nil_append, List.append_nil, Nat.reduceSub, Nat.reduceAdd, Nat.sub_self, List.getElem?_cons_zero, List.getElem?_cons_succ, List.getElem?_nil, List.set_cons_zero, List.set_cons_succ, List.set_nil, Option.some.injEq, Slot.p.injEq, Slot.o.injEq, D.tup.injEq, D.lst.injEq, D.int.injEq, D.bl.injEq, D.str.injEq, exists_eq_left', exists_eq_left, exists_eq_right, exists_eq_right', exists_and_left, exists_eq', exists_eq, and_true, true_and, Bool.not_true, Bool.not_false, if_true, if_false, Bool.false_eq_true, ite_true, ite_false, reduceIte, List.cons.injEq, List.length_map] | skip))
section
variable {P : Program} {w : World} {K : PySem.W.Frag} {mg : Str → Option Value} {base : Heap} {k : Nat}
/-! ### end_of_hue -/
def IsEnd (ts : List Tie) (r : List (Option Nat)) (l : List Nat) (h p : Nat) : Prop := (∃ i ∈ l, hue r i = some h ∧ ((tie ts i).1 = p ∨ (tie ts i).2 = p)) ∧ (heldOf ts l).count p = 1
def q_end_of_hue : PSp := fun ds P => ∃ n ts r l h, ds = [webD n ts, rowD r, natsD l, nat h] ∧ l.length ≤ 100 ∧ r.length = ts.length ∧ (∀ i ∈ l, i < ts.length) ∧ (∃ p, IsEnd ts r l h p) ∧ ∀ p, IsEnd ts r l h p → P (nat p)
theorem ok_end_of_hue (T : Tx K mg) (L : Lo K mg "end_of_hue" S_end_of_hue) : Callee P w K mg base (k + 1) "end_of_hue" q_end_of_hue := by
  refine mk_callee L sc_end_of_hue b_end_of_hue (fun tw => d_end_of_hue T) (fun ds P ⟨n, ts, r, l, hh, e, _⟩ => by rw [e]; rfl) fun ds P ⟨n, ts, r, l, hh, e, hz, hr, hl, hex, h⟩ => ?_
  subst e
  unfold k_end_of_hue
  walk_at "vc"
  intro p0
  refine for_map l nat (fun Q hQ => ?_) (fun j ρ => ∃ s5 s6, ρ = [.p (webD n ts), .p (rowD r), .p (natsD l), .p (nat hh), .o p0 ((heldOf ts (l.take j)).map nat), s5, s6]) ⟨_, _, rfl⟩ (fun j x ρ' hx ⟨s5, s6, e⟩ => ?_) fun ρ' ⟨s5, s6, e⟩ => ?_
  · walk_at "vc"
    exact hQ
  · subst e
    have hi := hl x (List.mem_of_getElem? hx)
    have ln := held_len ts (l.take j)
    have l3 : (l.take j).length ≤ l.length := by rw [List.length_take]; omega
    walk_at "vc"
    rw [at_tie hi]
    walk_at "vc"
    refine ⟨by omega, ?_⟩
    rw [List.take_add_one, hx]
    unfold heldOf
    rw [List.flatMap_append, List.map_append]
    simp [nat]
  · subst e
    rw [List.take_length]
    walk_at "vc"
    refine for_map l nat (fun Q hQ => ?_) (fun j ρ => ∃ s5 s6, (∀ i ∈ l.take j, hue r i = some hh → (heldOf ts l).count (tie ts i).1 ≠ 1 ∧ (heldOf ts l).count (tie ts i).2 ≠ 1) ∧ ρ = [.p (webD n ts), .p (rowD r), .p (natsD l), .p (nat hh), .o p0 ((heldOf ts l).map nat), s5, s6]) ⟨_, _, fun _ z => (by simp at z), rfl⟩ (fun j x ρ' hx ⟨s5, s6, hno, e⟩ => ?_) fun ρ' ⟨s5, s6, hno, e⟩ => ?_
    · walk_at "vc"
      exact hQ
    · subst e
      have hxl := List.mem_of_getElem? hx
      have hi := hl x hxl
      walk_at "vc"
      refine for_map [(tie ts x).1, (tie ts x).2] nat (fun Q hQ => ?_) (fun j ρ => ∃ s6, (∀ p ∈ [(tie ts x).1, (tie ts x).2].take j, hue r x = some hh → (heldOf ts l).count p ≠ 1) ∧ ρ = [.p (webD n ts), .p (rowD r), .p (natsD l), .p (nat hh), .o p0 ((heldOf ts l).map nat), .p (nat x), s6]) ⟨_, fun _ z => (by simp at z), rfl⟩ (fun j2 p ρ' hp ⟨s6, hno2, e⟩ => ?_) fun ρ' ⟨s6, hno2, e⟩ => ?_
      · walk_at "vc"
        rw [at_tie hi]
        walk_at "vc"
        exact hQ
      · subst e
        walk_at "vc"
        rw [at_hue (by rw [hr]; exact hi)]
        refine ⟨_, rfl, ?_⟩
        rw [eq_hue]
        have hpe : (tie ts x).1 = p ∨ (tie ts x).2 = p := by
          match j2, hp with
          | 0, hp => cases hp; exact .inl rfl
          | 1, hp => cases hp; exact .inr rfl
          | j + 2, hp => simp at hp
        refine fin_if (fun e1 => ?_) fun e1 => ?_
        · refine ⟨(heldOf ts l).map fun (x : Nat) => (x : Int), nats_ints _, ?_⟩
          rw [count_nat]
          by_cases hc : (heldOf ts l).count p = 1
          · rw [if_pos (by rw [hc]; rfl)]
            exact h p ⟨⟨x, hxl, eq_of_beq e1, hpe⟩, hc⟩
          · rw [if_neg (by omega)]
            exact fun q hq hh2 => take_mem (P := fun q => (heldOf ts l).count q ≠ 1) hp (fun y hy => hno2 y hy hh2) hc q hq
        · intro q _ hh2
          rw [hh2, beq_self_eq_true] at e1
          cases e1
      · subst e
        walk_at "vc"
        exact fun i hi2 hh2 => take_mem (P := fun i => hue r i = some hh → (heldOf ts l).count (tie ts i).1 ≠ 1 ∧ (heldOf ts l).count (tie ts i).2 ≠ 1) hx hno (fun e => ⟨hno2 _ (by simp) e, hno2 _ (by simp) e⟩) i hi2 hh2
    · subst e
      obtain ⟨p, ⟨i, h1, h2, h3⟩, h4⟩ := hex
      rw [List.take_length] at hno
      have := hno i h1 h2
      exact (h3.elim (fun z => this.1 (by rw [z]; exact h4)) fun z => this.2 (by rw [z]; exact h4)).elim
/-! ### step_between -/
def many (r : List (Option Nat)) (a : Nat) (l : List Nat) : Nat := (l.filter fun i => hue r i == some a).length
def IsRow (ts : List Tie) (r : List (Option Nat)) (a b : Nat) (l : List Nat) : Prop := (∃ i, inAB r a b i = true ∧ Comp (neigh ts r a b) ts.length i l) ∧ l.Pairwise (· < ·)
def Uneven (ts : List Tie) (r : List (Option Nat)) (a : Nat) (l : List Nat) : Prop := isRing ts l = false ∧ l.length < 2 * many r a l
theorem for_of {it : KF} {g : KG} {body : KS} {ρ : PSt} {N : PSt → Prop} {Rt : D → Prop} {Pre : List D → Prop} (hit : ∀ Q : List D → Prop, (∀ ds, Pre ds → Q ds) → it ρ Q) (h : ∀ ds, Pre ds → ∀ it' : KF, (∀ Q : List D → Prop, Q ds → it' ρ Q) → ksFor it' g body ρ N Rt) : ksFor it g body ρ N Rt :=
  hit _ fun ds hd => h ds hd (fun _ Q => Q ds) fun _ hq => hq
def q_step_between : PSp := fun ds P => ∃ n ts r a b, ds = [webD n ts, rowD r, nat a, nat b] ∧ Web n ts ∧ r.length = ts.length ∧ a ≠ b ∧ (∀ rs, IsRows ts r a b rs → ∃ l ∈ rs, Uneven ts r a l) ∧ (∀ l, IsRow ts r a b l → Uneven ts r a l → ∃ p, IsEnd ts r l a p) ∧
  ∀ l p, IsRow ts r a b l → Uneven ts r a l → IsEnd ts r l a p → P (.tup [.str "row", nat p, nat a, nat b])
theorem ok_step_between (T : Tx K mg) (L : Lo K mg "step_between" S_step_between) (c_rows_of : Callee P w K mg base k "rows_of" q_rows_of) (c_end_of_hue : Callee P w K mg base k "end_of_hue" q_end_of_hue) : Callee P w K mg base (k + 1) "step_between" q_step_between := by
  refine mk_callee L sc_step_between b_step_between (fun tw => d_step_between T c_rows_of c_end_of_hue) (fun ds P ⟨n, ts, r, a, b, e, _⟩ => by rw [e]; rfl) fun ds P ⟨n, ts, r, a, b, e, W, hr, hne, hex, hend, h⟩ => ?_
  subst e
  have t16 := W.t16
  unfold k_step_between
  walk_at "vc"
  refine for_of (Pre := fun ds => ∃ rs, IsRows ts r a b rs ∧ ds = rs.map (rowOfD ts)) (fun Q hQ => ?_) fun ds ⟨rs, hrs, e⟩ it' hit' => ?_
  · walk_at "vc"
    exact ⟨n, ts, r, a, b, rfl, W, hr, hne, fun rs hrs => hQ _ ⟨rs, hrs, rfl⟩⟩
  subst e
  refine for_map rs (rowOfD ts) hit' (fun j ρ => ∃ s4 s5 s6 s7, (∀ l ∈ rs.take j, ¬ Uneven ts r a l) ∧ ρ = [.p (webD n ts), .p (rowD r), .p (nat a), .p (nat b), s4, s5, s6, s7]) ⟨.any, .any, .any, .any, fun _ z => (by simp at z), rfl⟩ ?_ ?_
  · rintro j l ρ' hl ⟨s4, s5, s6, s7, hno, rfl⟩
    have hlr := List.mem_of_getElem? hl
    have hrow := hrs.comp l hlr
    obtain ⟨⟨i0, hi0, hc⟩, hls⟩ := hrow
    have hll := nd_len hc.nd hc.lt
    unfold rowOfD
    walk_at "vc"
    refine lc_map l nat (fun Q hQ => ?_) (fun i => hue r i == some a) nat (fun i hi Q A h1 h2 => ?_) ?_
    · walk_at "vc"
      exact hQ
    · walk_at "vc"
      rw [at_hue (by rw [hr]; exact hc.lt i hi)]
      refine ⟨_, rfl, ?_⟩
      rw [eq_hue]
      exact fin_if h1 h2
    · rw [List.length_map]
      have hml := List.length_filter_le (fun i => hue r i == some a) l
      have hno' : ∀ l2, ¬ Uneven ts r a l → l2 ∈ rs.take (j + 1) → ¬ Uneven ts r a l2 := fun l2 hu hl2 => by
        rw [List.take_add_one, hl] at hl2
        rcases List.mem_append.mp hl2 with z | z
        · exact hno l2 z
        · rw [List.mem_singleton.mp z]; exact hu
      unfold wordOf
      cases hring : isRing ts l with
      | true =>
        rw [if_neg (show ¬ (if true = true then Str.ofString "ring" else Str.ofString "open") = Str.ofString "open" by decide)]
        exact fun l2 => hno' l2 fun u => by have := u.1; rw [hring] at this; cases this
      | false =>
        rw [if_pos (show (if false = true then Str.ofString "ring" else Str.ofString "open") = Str.ofString "open" by decide)]
        refine ⟨.inl ⟨by decide, by decide⟩, ?_⟩
        split
        · rename_i hlt
          have hu : Uneven ts r a l := ⟨hring, by unfold many; omega⟩
          have hrow : IsRow ts r a b l := ⟨⟨i0, hi0, hc⟩, hls⟩
          exact ⟨n, ts, r, l, a, rfl, by omega, hr, hc.lt, hend l hrow hu, fun p hp => h l p hrow hu hp⟩
        · rename_i hlt
          exact fun l2 => hno' l2 fun u => hlt (by have := u.2; unfold many at this; omega)
  · rintro ρ' ⟨s4, s5, s6, s7, hno, rfl⟩
    obtain ⟨l, h1, h2⟩ := hex rs hrs
    rw [List.take_length] at hno
    exact (hno l h1 h2).elim
end
end U
set_option Elab.async false
set_option linter.all false
set_option maxRecDepth 100000
set_option maxHeartbeats 1000000
namespace U
open PySem PySem.Spec PyProof.Rows L2
local macro_rules | `(tactic| walk_at "vc") => `(tactic| (first | simp only [hueD_n, hueD_s, kOoNew, kOoApp, Slot.oo.injEq, c_0, c_1, c_2, c_3, eq_self, kLenSet, kFldC, kMeth, kOwn, kApp, kExt, kIns, kPop, kPut, kAugA, kPar, kDk0, kDk1, kDkPut, kDt0, kDtPut, kUpd, kInDk, kInDt, kSorted, kTapeSet, kSwap, kCount, kIndex, kLstR, kCallF, kBinF, catP, listP, max2P, min2P, intBP, absP, tupleP, Slot.dk.injEq, Slot.dt.injEq, reduceCtorEq, false_and, exists_false, and_assoc, lenP, seq_l, seq_t, seq_s, natsD, natsT, rowD, num_nat, Nat.reduceLeDiff, inP, ninP, ni_i, ni_n, ni_hue, eqN_ih, eqN_ii, eqN_nn, eqN_ni, eqN_in, any_nats', any_hues_n, any_hues_i, all_ni, all_niH, beq_nat, List.all_cons, List.all_nil, List.any_cons, List.any_nil, Bool.or_false, Bool.and_true, Bool.true_and, at0, at1, at2, at3, kSl, koN, koS, slP, kItET, kItE, kItS, kItR1, kItR2, kItZ, kItZM, webD, nat, tieD, le0, lt_nat, le_nat, eq_nat, decide_true, decide_false, decide_eq_true_eq, kSeq, kNext, kRet, kSet, kDrop, kTgt, ksIf, kVar, kVarB, rdB_p, rdB_o, kC, kBin, kF, q_add_ii, q_add_ll, q_add_tt, q_sub_ii, q_mul_ii, q_mul_li, q_mod_ii, q_fdiv_ii, q_pow_ii, q_ix_l, q_ix_t, q_ix_s, q_ix_tp, q_ii, q_is_bb, q_is_n, q_nis_bb, q_nis_n, q_eq_ii, q_eq_ni, q_eq_in, q_eq_nn, q_eq_ss, q_eq_tt, q_eq_ll, q_isN_n, q_isN_i, q_isN_t, q_isN_l, q_isN_b, kNeg, kCmp, kCmpT, kChain, kBo, neP, kAnd, kOr, kNot, tkAnd, tkOr, tkNot, tkV, kIf, kNil, kCons, kTup, kLst, kCall, kIsi, gkName, gkTup, gkCons, gkNil, tkYes, relP, kRel, wipeP, startP, List.map_cons, List.map_nil, List.length_cons, List.length_nil, List.replicate_succ, List.replicate_zero, List.cons_append, List.nil_append, List.append_nil, Nat.reduceSub, Nat.reduceAdd, Nat.sub_self, List.getElem?_cons_zero, List.getElem?_cons_succ, List.getElem?_nil, List.set_cons_zero, List.set_cons_succ, List.set_nil, Option.some.injEq, Slot.p.injEq, Slot.o.injEq, D.tup.injEq, D.lst.injEq, D.int.injEq, D.bl.injEq, D.str.injEq, exists_eq_left', exists_eq_left, exists_eq_right, exists_eq_right', exists_and_left, exists_eq', exists_eq, and_true, true_and, Bool.not_true, Bool.not_false, if_true, if_false, Bool.false_eq_true, ite_true, ite_false, reduceIte, List.cons.injEq, List.length_map] | skip))
section
variable {P : Program} {w : World} {K : PySem.W.Frag} {mg : Str → Option Value} {base : Heap} {k : Nat}
/-! ### row_from -/
def onT (ts : List Tie) (i p : Nat) : Prop := (tie ts i).1 = p ∨ (tie ts i).2 = p
structure Trail (ts : List Tie) (r : List (Option Nat)) (a b p t0 q due thn : Nat) (l : List Nat) : Prop where
  nd : l.Nodup
  lt : ∀ i ∈ l, i < ts.length
  ab : ∀ i ∈ l, inAB r a b i = true
  dues : due = a ∧ thn = b ∨ due = b ∧ thn = a
  A : ∀ z, z ≠ q → (z = p ∨ ∃ x ∈ l, onT ts x z) → ∀ y, y < ts.length → inAB r a b y = true → onT ts y z → y ∈ l
  B : ∀ y, y < ts.length → hue r y = some thn → onT ts y q → y ∈ l
  C : ∀ y ∈ l, onT ts y q → hue r y = some thn
  D : ∀ C : Nat → Prop, C t0 → (∀ u, C u → ∀ z ∈ neigh ts r a b u, C z) → ∀ i ∈ l, C i
  E : l = [] ∧ q = p ∧ due = a ∨ t0 ∈ l ∧ ∃ x ∈ l, onT ts x q
  F : due = a ∧ many r a l = many r b l ∨ due = b ∧ many r a l = many r b l + 1
theorem many_snoc {r : List (Option Nat)} {a t : Nat} {l : List Nat} : many r a (l ++ [t]) = many r a l + if hue r t = some a then 1 else 0 := by
  unfold many
  rw [filter_snoc]
  split <;> rename_i h
  · rw [if_pos (eq_of_beq h), List.length_append]; rfl
  · rw [if_neg fun e => h (by rw [e]; exact beq_self_eq_true _)]; rfl
theorem inAB_iff {r : List (Option Nat)} {a b i : Nat} : inAB r a b i = true ↔ hue r i = some a ∨ hue r i = some b := by
  unfold inAB
  rw [Bool.or_eq_true, beq_iff_eq, beq_iff_eq]
theorem Proper.uniq {ts : List Tie} {r : List (Option Nat)} (hp : Proper ts r) {i j h p : Nat} (hi : i < ts.length) (hj : j < ts.length) (h1 : hue r i = some h) (h2 : hue r j = some h) (o1 : onT ts i p) (o2 : onT ts j p) : i = j := by
  rcases Nat.lt_trichotomy i j with z | z | z
  · have := hp.2 i j h z hj h1 h2
    rw [meet_at o1 o2] at this; cases this
  · exact z
  · have := hp.2 j i h z hi h2 h1
    rw [meet_at o2 o1] at this; cases this
theorem onT_other {ts : List Tie} {i p : Nat} (h : onT ts i p) : onT ts i (other (tie ts i) p) := by
  unfold onT other at *
  split
  · exact .inr rfl
  · exact .inl rfl
theorem onT_or {ts : List Tie} {i p z : Nat} (h : onT ts i p) (hz : onT ts i z) : z = p ∨ z = other (tie ts i) p := by
  unfold onT other at *
  split <;> omega
theorem other_ne {n : Nat} {ts : List Tie} (W : Web n ts) {i p : Nat} (hi : i < ts.length) (h : onT ts i p) : other (tie ts i) p ≠ p := by
  have := W.at hi
  unfold onT other at *
  split <;> omega
theorem mem_neigh_on {ts : List Tie} {r : List (Option Nat)} {a b i z p : Nat} (hz : z < ts.length) (h : inAB r a b z = true) (o1 : onT ts z p) (o2 : onT ts i p) : z ∈ neigh ts r a b i := mem_neigh.mpr ⟨hz, h, meet_at o1 o2⟩
theorem Trail.init {ts : List Tie} {r : List (Option Nat)} {a b p t0 : Nat} (hb : ∀ y, y < ts.length → onT ts y p → hue r y ≠ some b) : Trail ts r a b p t0 p a b [] where
  nd := List.nodup_nil
  lt := fun _ z => by cases z
  ab := fun _ z => by cases z
  dues := .inl ⟨rfl, rfl⟩
  A := fun z hz h => by
    rcases h with h | ⟨_, h, _⟩
    · exact absurd h hz
    · cases h
  B := fun y hy h1 h2 => absurd h1 (hb y hy h2)
  C := fun _ z => by cases z
  D := fun _ _ _ _ z => by cases z
  E := .inl ⟨rfl, rfl, rfl⟩
  F := .inl ⟨rfl, rfl⟩
section
variable {n : Nat} {ts : List Tie} {r : List (Option Nat)} {a b p t0 q due thn t : Nat} {l : List Nat}
theorem Trail.new (R : Trail ts r a b p t0 q due thn l) (hne : a ≠ b) (ht : hue r t = some due) (ho : onT ts t q) : t ∉ l := fun h => by
  have := R.C t h ho
  rw [ht] at this
  have e := Option.some.inj this
  have := R.dues
  omega
theorem Trail.step (R : Trail ts r a b p t0 q due thn l) (W : Web n ts) (hp : Proper ts r) (hne : a ≠ b) (h0 : t0 < ts.length ∧ onT ts t0 p ∧ hue r t0 = some a) (htl : t < ts.length) (ht : hue r t = some due) (ho : onT ts t q) : Trail ts r a b p t0 (other (tie ts t) q) thn due (l ++ [t]) := by
  have hn := R.new hne ht ho
  have hq' := other_ne W htl ho
  have ho' := onT_other ho
  have hab : inAB r a b t = true := inAB_iff.mpr (R.dues.elim (fun z => .inl (by rw [ht, z.1])) fun z => .inr (by rw [ht, z.1]))
  have two : ∀ y, inAB r a b y = true → hue r y = some due ∨ hue r y = some thn := fun y hy => by
    rcases R.dues with ⟨e1, e2⟩ | ⟨e1, e2⟩ <;> rw [e1, e2] <;> rcases inAB_iff.mp hy with z | z
    · exact .inl z
    · exact .inr z
    · exact .inr z
    · exact .inl z
  have t0e : l = [] → t = t0 := fun e => by
    rcases R.E with ⟨_, e2, e3⟩ | ⟨z, _⟩
    · rw [e2] at ho; rw [e3] at ht
      exact hp.uniq htl h0.1 ht h0.2.2 ho h0.2.1
    · rw [e] at z; cases z
  have last : t ∈ l ++ [t] := List.mem_append_right _ (List.mem_singleton.mpr rfl)
  refine ⟨?_, ?_, ?_, R.dues.symm.imp (fun z => ⟨z.2, z.1⟩) (fun z => ⟨z.2, z.1⟩), ?_, ?_, ?_, ?_, ?_, ?_⟩
  · exact List.nodup_append.mpr ⟨R.nd, List.nodup_cons.mpr ⟨by simp, List.nodup_nil⟩, fun x hx y hy e => hn (by rw [List.mem_singleton.mp hy] at e; rw [← e]; exact hx)⟩
  · exact fun i hi => (List.mem_append.mp hi).elim (R.lt i) fun z => by rw [List.mem_singleton.mp z]; exact htl
  · exact fun i hi => (List.mem_append.mp hi).elim (R.ab i) fun z => by rw [List.mem_singleton.mp z]; exact hab
  · intro z hz h y hy hyab hyo
    have old : z ≠ q → (z = p ∨ ∃ x, x ∈ l ∧ onT ts x z) → y ∈ l ++ [t] := fun h1 h2 => List.mem_append_left _ (R.A z h1 h2 y hy hyab hyo)
    by_cases hzq : z = q
    · rw [hzq] at hyo
      rcases two y hyab with e | e
      · rw [hp.uniq hy htl e ht hyo ho]; exact last
      · exact List.mem_append_left _ (R.B y hy e hyo)
    · rcases h with h | ⟨x, hx, hxo⟩
      · exact old hzq (.inl h)
      · rcases List.mem_append.mp hx with hx | hx
        · exact old hzq (.inr ⟨x, hx, hxo⟩)
        · rw [List.mem_singleton.mp hx] at hxo
          rcases onT_or ho hxo with e | e
          · exact absurd e hzq
          · exact absurd e hz
  · intro y hy e hyo
    rw [hp.uniq hy htl e ht hyo ho']; exact last
  · intro y hy hyo
    rcases List.mem_append.mp hy with h | h
    · exact absurd (R.A _ hq' (.inr ⟨y, h, hyo⟩) t htl hab ho') hn
    · rw [List.mem_singleton.mp h]; exact ht
  · intro C h1 h2 i hi
    rcases List.mem_append.mp hi with h | h
    · exact R.D C h1 h2 i h
    · rw [List.mem_singleton.mp h]
      rcases R.E with ⟨e, _⟩ | ⟨_, x, hx, hxo⟩
      · rw [t0e e]; exact h1
      · exact h2 x (R.D C h1 h2 x hx) t (mem_neigh_on htl hab ho hxo)
  · refine .inr ⟨?_, t, last, ho'⟩
    rcases R.E with ⟨e, _⟩ | ⟨h, _⟩
    · rw [t0e e]; exact List.mem_append_right _ (List.mem_singleton.mpr rfl)
    · exact List.mem_append_left _ h
  · rw [many_snoc, many_snoc, ht]
    have := R.F
    have := R.dues
    by_cases hd : due = a
    · rw [if_pos (by rw [hd]), if_neg (fun e => by have := Option.some.inj e; omega)]; omega
    · rw [if_neg (fun e => hd (Option.some.inj e)), if_pos (by rw [show due = b by omega])]; omega
theorem Trail.done (R : Trail ts r a b p t0 q due thn l) (h0 : t0 < ts.length ∧ onT ts t0 p ∧ hue r t0 = some a) (hno : ∀ y, y < ts.length → onT ts y q → hue r y ≠ some due) : Comp (neigh ts r a b) ts.length t0 l where
  nd := R.nd
  lt := R.lt
  x0 := by
    rcases R.E with ⟨_, e2, e3⟩ | ⟨h, _⟩
    · exact absurd (by rw [e3]; exact h0.2.2) (hno t0 h0.1 (by rw [e2]; exact h0.2.1))
    · exact h
  cl := fun x hx y hy => by
    have hy := mem_neigh.mp hy
    have two : hue r y = some due ∨ hue r y = some thn := by
      rcases R.dues with ⟨e1, e2⟩ | ⟨e1, e2⟩ <;> rw [e1, e2] <;> rcases inAB_iff.mp hy.2.1 with z | z
      · exact .inl z
      · exact .inr z
      · exact .inr z
      · exact .inl z
    obtain ⟨z, hz1, hz2⟩ : ∃ z, onT ts x z ∧ onT ts y z := by
      have h := hy.2.2
      unfold meet at h
      simp only [Bool.or_eq_true, beq_iff_eq] at h
      rcases h with (h | h) | h | h
      · exact ⟨_, .inl h.symm, .inl rfl⟩
      · exact ⟨_, .inl h.symm, .inr rfl⟩
      · exact ⟨_, .inr h.symm, .inl rfl⟩
      · exact ⟨_, .inr h.symm, .inr rfl⟩
    by_cases hzq : z = q
    · rw [hzq] at hz2
      rcases two with e | e
      · exact absurd e (hno y hy.1 hz2)
      · exact R.B y hy.1 e hz2
    · exact R.A z hzq (.inr ⟨x, hx, hz1⟩) y hy.1 hy.2.1 hz2
  least := R.D
end
def q_row_from : PSp := fun ds P => ∃ n ts r p a b t0, ds = [webD n ts, rowD r, nat p, nat a, nat b] ∧ Web n ts ∧ Proper ts r ∧ a ≠ b ∧ p < n ∧ (t0 < ts.length ∧ onT ts t0 p ∧ hue r t0 = some a) ∧ (∀ y, y < ts.length → onT ts y p → hue r y ≠ some b) ∧ ∀ l, Comp (neigh ts r a b) ts.length t0 l → many r a l ≤ many r b l + 1 → P (natsD l)
theorem tieOf_some {ts : List Tie} {r : List (Option Nat)} {p h i : Nat} (e : tieOf ts r p h = some i) : i < ts.length ∧ onT ts i p ∧ hue r i = some h := by
  unfold tieOf at e
  have h1 := mem_tiesAt.mp (List.mem_of_find?_eq_some e)
  have h2 := List.find?_some e
  exact ⟨h1.1, h1.2, eq_of_beq h2⟩
theorem tieOf_none {ts : List Tie} {r : List (Option Nat)} {p h : Nat} (e : tieOf ts r p h = none) (i : Nat) (hi : i < ts.length) (ho : onT ts i p) : hue r i ≠ some h := by
  unfold tieOf at e
  have := List.find?_eq_none.mp e i (mem_tiesAt.mpr ⟨hi, ho⟩)
  exact fun z => this (by rw [z]; exact beq_self_eq_true _)
theorem onT_lt {n : Nat} {ts : List Tie} (W : Web n ts) {i p : Nat} (hi : i < ts.length) (h : onT ts i p) : p < n := by
  have := W.at hi
  unfold onT at h
  omega
theorem ok_row_from (T : Tx K mg) (L : Lo K mg "row_from" S_row_from) (c_ties_at : Callee P w K mg base k "ties_at" q_ties_at) (c_look_hues : Callee P w K mg base k "look_hues" q_look_hues) (c_tie_of : Callee P w K mg base k "tie_of" q_tie_of) (c_far_end : Callee P w K mg base k "far_end" q_far_end) : Callee P w K mg base (k + 1) "row_from" q_row_from := by
  refine mk_callee L sc_row_from b_row_from (fun tw => d_row_from T c_ties_at c_look_hues c_tie_of c_far_end) (fun ds P ⟨n, ts, r, p, a, b, t0, e, _⟩ => by rw [e]; rfl) fun ds P ⟨n, ts, r, p, a, b, t0, e, W, hr, hne, hp, h0, hb, h⟩ => ?_
  subst e
  have t16 := W.t16
  unfold k_row_from
  walk_at "vc"
  refine ⟨n, ts, p, rfl, hp, ?_⟩
  walk_at "vc"
  refine ⟨a, b, rfl, hne, ?_⟩
  refine lc_map (tiesAt ts p) nat (fun Q hQ => ?_) (fun _ => true) (fun i => hueD (hue r i)) (fun i hi Q A h1 _ => ?_) ?_
  · walk_at "vc"
    exact hQ
  · have hi := mem_tiesAt.mp hi
    walk_at "vc"
    rw [at_hue (by rw [hr.1]; exact hi.1)]
    exact ⟨_, rfl, h1 rfl⟩
  rw [List.filter_eq_self.mpr fun _ _ => rfl]
  rw [show (tiesAt ts p).map (fun i => hueD (hue r i)) = ((tiesAt ts p).map (hue r)).map hueD from by rw [List.map_map]; rfl]
  walk_at "vc"
  have hcb : ((tiesAt ts p).map (hue r)).contains (some b) = false := by
    refine Bool.eq_false_iff.mpr fun z => ?_
    obtain ⟨y, hy, e⟩ := List.mem_map.mp (List.contains_iff_mem.mp z)
    have hy := mem_tiesAt.mp hy
    exact hb y hy.1 hy.2 e
  rw [hcb]
  walk_at "vc"
  intro p0
  refine ⟨n, ts, r, p, a, rfl, hp, hr.1, ?_⟩
  refine ⟨fun ρ => ∃ q due thn l, Trail ts r a b p t0 q due thn l ∧ q < n ∧ ρ = [.p (webD n ts), .p (rowD r), .p (nat q), .p (nat a), .p (nat b), .p (natsD (tiesAt ts p)), .o p0 (l.map nat), .p (hueD (tieOf ts r q due)), .p (nat due), .p (nat thn)], fun ρ => match ρ with
    | [_, _, _, _, _, _, .o _ l, _, _, _] => ts.length - l.length
    | _ => 0, ⟨p, a, b, [], Trail.init hb, hp, rfl⟩, ?_⟩
  rintro ρ' ⟨q, due, thn, l, R, hq, rfl⟩
  walk_at "vc"
  cases ht : tieOf ts r q due with
  | none =>
    walk_at "vc"
    exact h l (R.done h0 (tieOf_none ht)) (by have := R.F; omega)
  | some t =>
    obtain ⟨t1, t2, t3⟩ := tieOf_some ht
    have R2 := R.step W hr hne h0 t1 t3 t2
    have l2 := nd_len R2.nd R2.lt
    rw [List.length_append, List.length_singleton] at l2
    have q2 := onT_lt W t1 (onT_other t2)
    walk_at "vc"
    refine ⟨by omega, n, ts, t, q, rfl, t1, t2, ?_⟩
    walk_at "vc"
    refine ⟨n, ts, r, _, thn, rfl, q2, hr.1, ?_⟩
    refine ⟨⟨_, thn, due, l ++ [t], R2, q2, ?_⟩, ?_⟩
    · rw [List.map_append]; exact ⟨rfl, rfl, rfl, rfl, rfl⟩
    · walk_at "vc"
      rw [List.length_append, List.length_map, List.length_singleton]
      omega
end
end U
set_option Elab.async false
set_option linter.all false
set_option maxRecDepth 100000
set_option maxHeartbeats 1000000
namespace U
open PySem PySem.Spec PyProof.Rows L2
local macro_rules | `(tactic| walk_at "vc") => `(tactic| (first | simp only [hueD_n, hueD_s, kOoNew, kOoApp, Slot.oo.injEq, c_0, c_1, c_2, c_3, eq_self, kLenSet, kFldC, kMeth, kOwn, kApp, kExt, kIns, kPop, kPut, kAugA, kPar, kDk0, kDk1, kDkPut, kDt0, kDtPut, kUpd, kInDk, kInDt, kSorted, kTapeSet, kSwap, kCount, kIndex, kLstR, kCallF, kBinF, catP, listP, max2P, min2P, intBP, absP, tupleP, Slot.dk.injEq, Slot.dt.injEq, reduceCtorEq, false_and, exists_false, and_assoc, lenP, seq_l, seq_t, seq_s, natsD, natsT, rowD, num_nat, Nat.reduceLeDiff, inP, ninP, ni_i, ni_n, ni_hue, eqN_ih, eqN_ii, eqN_nn, eqN_ni, eqN_in, any_nats', any_hues_n, any_hues_i, all_ni, all_niH, beq_nat, List.all_cons, List.all_nil, List.any_cons, List.any_nil, Bool.or_false, Bool.and_true, Bool.true_and, at0, at1, at2, at3, kSl, koN, koS, slP, kItET, kItE, kItS, kItR1, kItR2, kItZ, kItZM, webD, nat, tieD, le0, lt_nat, le_nat, eq_nat, decide_true, decide_false, decide_eq_true_eq, kSeq, kNext, kRet, kSet, kDrop, kTgt, ksIf, kVar, kVarB, rdB_p, rdB_o, kC, kBin, kF, q_add_ii, q_add_ll, q_add_tt, q_sub_ii, q_mul_ii, q_mul_li, q_mod_ii, q_fdiv_ii, q_pow_ii, q_ix_l, q_ix_t, q_ix_s, q_ix_tp, q_ii, q_is_bb, q_is_n, q_nis_bb, q_nis_n, q_eq_ii, q_eq_ni, q_eq_in, q_eq_nn, q_eq_ss, q_eq_tt, q_eq_ll, q_isN_n, q_isN_i, q_isN_t, q_isN_l, q_isN_b, kNeg, kCmp, kCmpT, kChain, kBo, neP, kAnd, kOr, kNot, tkAnd, tkOr, tkNot, tkV, kIf, kNil, kCons, kTup, kLst, kCall, kIsi, gkName, gkTup, gkCons, gkNil, tkYes, relP, kRel, wipeP, startP, List.map_cons, List.map_nil, List.length_cons, List.length_nil, List.replicate_succ, List.replicate_zero, List.cons_append, List.nil_append, List.append_nil, Nat.reduceSub, Nat.reduceAdd, Nat.sub_self, List.getElem?_cons_zero, List.getElem?_cons_succ, List.getElem?_nil, List.set_cons_zero, List.set_cons_succ, List.set_nil, Option.some.injEq, Slot.p.injEq, Slot.o.injEq, D.tup.injEq, D.lst.injEq, D.int.injEq, D.bl.injEq, D.str.injEq, exists_eq_left', exists_eq_left, exists_eq_right, exists_eq_right', exists_and_left, exists_eq', exists_eq, and_true, true_and, Bool.not_true, Bool.not_false, if_true, if_false, Bool.false_eq_true, ite_true, ite_false, reduceIte, List.cons.injEq, List.length_map] | skip))
section
variable {P : Program} {w : World} {K : PySem.W.Frag} {mg : Str → Option Value} {base : Heap} {k : Nat}
/-! ### defs that are never called -/
def q_no : PSp := fun _ _ => False
theorem no_callee {x : Str} {st : Stmt} {N ps : List Str} (L : Lo K mg x st) (sc : FnScope N ps (defScope st)) (hb : ∀ {f fd}, Fun K x x st f fd → Binds K fd ps []) : Callee P w K mg base (k + 1) x q_no := by
  obtain ⟨f, fd, h1, F⟩ := L.ex
  refine ⟨f, fd, ps, h1, F.kp, hb F, F.ok sc (fun vs H Q E h => ?_) fun cdv A outer s H vs Q E hr h => ?_⟩
  · obtain ⟨_, _, _, _, _, _, _, _, h, _⟩ := h
    exact h.elim
  · obtain ⟨_, _, _, _, _, _, _, _, h, _⟩ := h
    exact h.elim
abbrev S_with_hue : Stmt := topS 55
abbrev N_with_hue : List Str := ["web", "hueing", "step", "made", "word", "tie", "hue"]
theorem nd_with_hue : (N_with_hue).Nodup := by decide +kernel
theorem b_with_hue {K : PySem.W.Frag} {f : Addr} {fd : FuncData} (F : Fun K "with_hue" "with_hue" S_with_hue f fd) : Binds K fd ["web", "hueing", "step"] [] := F.binds (ps := ["web", "hueing", "step"]) fun _ _ _ _ _ _ us hl => match us, hl with | [_, _, _], _ => rfl
theorem sc_with_hue : FnScope N_with_hue ["web", "hueing", "step"] (defScope S_with_hue) := ⟨rfl, rfl, rfl, nd_with_hue, rfl, by decide +kernel, by decide +kernel⟩
theorem ok_with_hue (L : Lo K mg "with_hue" S_with_hue) : Callee P w K mg base (k + 1) "with_hue" q_no := no_callee L sc_with_hue b_with_hue
abbrev S_dropped : Stmt := topS 56
abbrev N_dropped : List Str := ["web", "hueing", "step", "tie", "made"]
theorem nd_dropped : (N_dropped).Nodup := by decide +kernel
theorem b_dropped {K : PySem.W.Frag} {f : Addr} {fd : FuncData} (F : Fun K "dropped" "dropped" S_dropped f fd) : Binds K fd ["web", "hueing", "step"] [] := F.binds (ps := ["web", "hueing", "step"]) fun _ _ _ _ _ _ us hl => match us, hl with | [_, _, _], _ => rfl
theorem sc_dropped : FnScope N_dropped ["web", "hueing", "step"] (defScope S_dropped) := ⟨rfl, rfl, rfl, nd_dropped, rfl, by decide +kernel, by decide +kernel⟩
theorem ok_dropped (L : Lo K mg "dropped" S_dropped) : Callee P w K mg base (k + 1) "dropped" q_no := no_callee L sc_dropped b_dropped
abbrev S_moved : Stmt := topS 58
abbrev N_moved : List Str := ["web", "hueing", "step", "made", "word", "tie", "other"]
theorem nd_moved : (N_moved).Nodup := by decide +kernel
theorem b_moved {K : PySem.W.Frag} {f : Addr} {fd : FuncData} (F : Fun K "moved" "moved" S_moved f fd) : Binds K fd ["web", "hueing", "step"] [] := F.binds (ps := ["web", "hueing", "step"]) fun _ _ _ _ _ _ us hl => match us, hl with | [_, _, _], _ => rfl
theorem sc_moved : FnScope N_moved ["web", "hueing", "step"] (defScope S_moved) := ⟨rfl, rfl, rfl, nd_moved, rfl, by decide +kernel, by decide +kernel⟩
theorem ok_moved (L : Lo K mg "moved" S_moved) : Callee P w K mg base (k + 1) "moved" q_no := no_callee L sc_moved b_moved
/-! ### row_turned, made_by, done_step -/
def stepD (p a b : Nat) : D := .tup [.str "row", nat p, nat a, nat b]
/-- what is asked of a row step: the row from the place, the hueing behind it -/
def Turned (n : Nat) (ts : List Tie) (r : List (Option Nat)) (p a b t0 : Nat) : Prop := Web n ts ∧ Proper ts r ∧ a ≠ b ∧ p < n ∧ (t0 < ts.length ∧ onT ts t0 p ∧ hue r t0 = some a) ∧ (∀ y, y < ts.length → onT ts y p → hue r y ≠ some b) ∧ ∀ l, Comp (neigh ts r a b) ts.length t0 l → (∀ i ∈ l, inAB r a b i = true) ∧ Proper ts (exch r l a b)
def q_row_turned : PSp := fun ds P => ∃ n ts r p a b t0, ds = [webD n ts, rowD r, stepD p a b] ∧ Turned n ts r p a b t0 ∧ ∀ l, Comp (neigh ts r a b) ts.length t0 l → many r a l ≤ many r b l + 1 → P (rowD (exch r l a b))
theorem ok_row_turned (T : Tx K mg) (L : Lo K mg "row_turned" S_row_turned) (c_exchanged : Callee P w K mg base k "exchanged" q_exchanged) (c_row_from : Callee P w K mg base k "row_from" q_row_from) : Callee P w K mg base (k + 1) "row_turned" q_row_turned := by
  refine mk_callee L sc_row_turned b_row_turned (fun tw => d_row_turned T c_exchanged c_row_from) (fun ds P ⟨n, ts, r, p, a, b, t0, e, _⟩ => by rw [e]; rfl) fun ds P ⟨n, ts, r, p, a, b, t0, e, ⟨W, hr, hne, hp, h0, hb, hx⟩, h⟩ => ?_
  subst e
  unfold k_row_turned stepD
  walk_at "vc"
  refine ⟨n, ts, r, p, a, b, t0, rfl, W, hr, hne, hp, h0, hb, fun l hl hm => ?_⟩
  walk_at "vc"
  obtain ⟨h1, h2⟩ := hx l hl
  exact ⟨n, ts, r, l, a, b, rfl, W, hne, hr.1, fun i hi => ⟨hl.lt i hi, h1 i hi⟩, h2, h l hl hm⟩
def q_made_by : PSp := q_row_turned
theorem ok_made_by (T : Tx K mg) (L : Lo K mg "made_by" S_made_by) (c_with_hue : Callee P w K mg base k "with_hue" q_no) (c_dropped : Callee P w K mg base k "dropped" q_no) (c_moved : Callee P w K mg base k "moved" q_no) (c_row_turned : Callee P w K mg base k "row_turned" q_row_turned) : Callee P w K mg base (k + 1) "made_by" q_made_by := by
  refine mk_callee L sc_made_by b_made_by (fun tw => d_made_by T c_with_hue c_dropped c_moved c_row_turned) (fun ds P ⟨n, ts, r, p, a, b, t0, e, _⟩ => by rw [e]; rfl) fun ds P ⟨n, ts, r, p, a, b, t0, e, ht, h⟩ => ?_
  subst e
  unfold k_made_by stepD
  walk_at "vc"
  rw [if_neg (by decide), if_neg (by decide), if_neg (by decide)]
  exact ⟨n, ts, r, p, a, b, t0, rfl, ht, h⟩
def q_done_step : PSp := q_row_turned
theorem ok_done_step (T : Tx K mg) (L : Lo K mg "done_step" S_done_step) (c_made_by : Callee P w K mg base k "made_by" q_made_by) (c_look_so : Callee P w K mg base k "look_so" q_look_so) (c_is_hueing : Callee P w K mg base k "is_hueing" q_is_hueing) : Callee P w K mg base (k + 1) "done_step" q_done_step := by
  refine mk_callee L sc_done_step b_done_step (fun tw => d_done_step T c_made_by c_look_so c_is_hueing) (fun ds P ⟨n, ts, r, p, a, b, t0, e, _⟩ => by rw [e]; rfl) fun ds P ⟨n, ts, r, p, a, b, t0, e, ht, h⟩ => ?_
  subst e
  unfold k_done_step stepD
  walk_at "vc"
  refine ⟨n, ts, r, p, a, b, t0, rfl, ht, fun l hl hm => ?_⟩
  obtain ⟨W, _, _, _, _, _, hx⟩ := ht
  walk_at "vc"
  refine ⟨n, ts, _, rfl, W, (hx l hl).2, ?_⟩
  refine ⟨rfl, ?_⟩
  walk_at "vc"
  exact h l hl hm
end
end U
set_option Elab.async false
set_option linter.all false
set_option maxRecDepth 100000
set_option maxHeartbeats 1000000
namespace U
open PySem PySem.Spec PyProof.Rows L2
local macro_rules | `(tactic| walk_at "vc") => `(tactic| (first | simp only [hueD_n, hueD_s, kOoNew, kOoApp, Slot.oo.injEq, c_0, c_1, c_2, c_3, eq_self, kLenSet, kFldC, kMeth, kOwn, kApp, kExt, kIns, kPop, kPut, kAugA, kPar, kDk0, kDk1, kDkPut, kDt0, kDtPut, kUpd, kInDk, kInDt, kSorted, kTapeSet, kSwap, kCount, kIndex, kLstR, kCallF, kBinF, catP, listP, max2P, min2P, intBP, absP, tupleP, Slot.dk.injEq, Slot.dt.injEq, reduceCtorEq, false_and, exists_false, and_assoc, lenP, seq_l, seq_t, seq_s, natsD, natsT, rowD, num_nat, Nat.reduceLeDiff, inP, ninP, ni_i, ni_n, ni_hue, eqN_ih, eqN_ii, eqN_nn, eqN_ni, eqN_in, any_nats', any_hues_n, any_hues_i, all_ni, all_niH, beq_nat, List.all_cons, List.all_nil, List.any_cons, List.any_nil, Bool.or_false, Bool.and_true, Bool.true_and, at0, at1, at2, at3, kSl, koN, koS, slP, kItET, kItE, kItS, kItR1, kItR2, kItZ, kItZM, webD, nat, tieD, le0, lt_nat, le_nat, eq_nat, decide_true, decide_false, decide_eq_true_eq, kSeq, kNext, kRet, kSet, kDrop, kTgt, ksIf, kVar, kVarB, rdB_p, rdB_o, kC, kBin, kF, q_add_ii, q_add_ll, q_add_tt, q_sub_ii, q_mul_ii, q_mul_li, q_mod_ii, q_fdiv_ii, q_pow_ii, q_ix_l, q_ix_t, q_ix_s, q_ix_tp, q_ii, q_is_bb, q_is_n, q_nis_bb, q_nis_n, q_eq_ii, q_eq_ni, q_eq_in, q_eq_nn, q_eq_ss, q_eq_tt, q_eq_ll, q_isN_n, q_isN_i, q_isN_t, q_isN_l, q_isN_b, kNeg, kCmp, kCmpT, kChain, kBo, neP, kAnd, kOr, kNot, tkAnd, tkOr, tkNot, tkV, kIf, kNil, kCons, kTup, kLst, kCall, kIsi, gkName, gkTup, gkCons, gkNil, tkYes, relP, kRel, wipeP, startP, List.map_cons, List.map_nil, List.length_cons, List.length_nil, List.replicate_succ, List.replicate_zero, List.cons_append, List.nil_append, List.append_nil, Nat.reduceSub, Nat.reduceAdd, Nat.sub_self, List.getElem?_cons_zero, List.getElem?_cons_succ, List.getElem?_nil, List.set_cons_zero, List.set_cons_succ, List.set_nil, Option.some.injEq, Slot.p.injEq, Slot.o.injEq, D.tup.injEq, D.lst.injEq, D.int.injEq, D.bl.injEq, D.str.injEq, exists_eq_left', exists_eq_left, exists_eq_right, exists_eq_right', exists_and_left, exists_eq', exists_eq, and_true, true_and, Bool.not_true, Bool.not_false, if_true, if_false, Bool.false_eq_true, ite_true, ite_false, reduceIte, List.cons.injEq, List.length_map] | skip))
/-! ### rows and sizes -/
section
variable {n : Nat} {ts : List Tie} {r : List (Option Nat)} {a b : Nat}
theorem nd_filter {α : Type} {l : List α} (h : l.Nodup) (p : α → Bool) : (l.filter p).Nodup := h.sublist List.filter_sublist
theorem mem_held {l : List Nat} {p : Nat} : p ∈ heldOf ts l ↔ ∃ i ∈ l, onT ts i p := by
  unfold heldOf onT
  rw [List.mem_flatMap]
  constructor
  · rintro ⟨i, hi, h⟩
    refine ⟨i, hi, ?_⟩
    rcases List.mem_cons.mp h with h | h
    · exact .inl h.symm
    · exact .inr (List.mem_singleton.mp h).symm
  · rintro ⟨i, hi, h⟩
    refine ⟨i, hi, ?_⟩
    rcases h with h | h
    · rw [h]; exact List.mem_cons_self ..
    · rw [h]; exact List.mem_cons_of_mem _ (List.mem_singleton.mpr rfl)
def on (ts : List Tie) (p i : Nat) : Bool := (tie ts i).1 == p || (tie ts i).2 == p
theorem on_iff {p i : Nat} : on ts p i = true ↔ onT ts i p := by
  unfold on onT
  rw [Bool.or_eq_true, beq_iff_eq, beq_iff_eq]
theorem held_count (W : Web n ts) {p : Nat} : ∀ {l : List Nat}, (∀ i ∈ l, i < ts.length) → (heldOf ts l).count p = (l.filter (on ts p)).length
  | [], _ => rfl
  | x :: l, hl => by
    have ih := held_count W (p := p) fun i hi => hl i (List.mem_cons_of_mem _ hi)
    have hx := W.at (hl x (List.mem_cons_self ..))
    show ([(tie ts x).1, (tie ts x).2] ++ heldOf ts l).count p = _
    rw [List.count_append, ih, List.count_cons, List.count_cons, List.count_nil]
    have e : on ts p x = ((tie ts x).1 == p || (tie ts x).2 == p) := rfl
    rw [List.filter_cons, e]
    generalize hu : (tie ts x).1 = u at hx ⊢
    generalize hv : (tie ts x).2 = v at hx ⊢
    by_cases h1 : u = p
    · have h2 : v ≠ p := by omega
      simp [h1, h2]; omega
    · by_cases h2 : v = p
      · simp [h1, h2]; omega
      · simp [h1, h2]
theorem nd_all_eq {l : List Nat} (h : l.Nodup) (he : ∀ x ∈ l, ∀ y ∈ l, x = y) : l.length ≤ 1 := by
  match l with
  | [] => exact Nat.zero_le _
  | [x] => exact Nat.le_refl _
  | x :: y :: l =>
    have := he x (List.mem_cons_self ..) y (List.mem_cons_of_mem _ (List.mem_cons_self ..))
    rw [this] at h
    exact absurd (List.mem_cons_self ..) (List.nodup_cons.mp h).1
def hued (r : List (Option Nat)) (c i : Nat) : Bool := hue r i == some c
theorem held_nd (W : Web n ts) (hp : Proper ts r) {l : List Nat} (hn : l.Nodup) (hl : ∀ i ∈ l, i < ts.length) (c : Nat) : (heldOf ts (l.filter (hued r c))).Nodup := by
  rw [List.nodup_iff_count]
  intro p
  rw [held_count W fun i hi => hl i (List.mem_filter.mp hi).1]
  refine nd_all_eq (nd_filter (nd_filter hn _) _) fun x hx y hy => ?_
  obtain ⟨hx, ox⟩ := List.mem_filter.mp hx
  obtain ⟨hy, oy⟩ := List.mem_filter.mp hy
  obtain ⟨hx, cx⟩ := List.mem_filter.mp hx
  obtain ⟨hy, cy⟩ := List.mem_filter.mp hy
  exact hp.uniq (hl x hx) (hl y hy) (eq_of_beq cx) (eq_of_beq cy) (on_iff.mp ox) (on_iff.mp oy)
theorem many_eq {l : List Nat} {c : Nat} : many r c l = (l.filter (hued r c)).length := rfl
/-- of a list closed in two hues: more of one than of the other, so it has an end -/
theorem has_end (W : Web n ts) (hp : Proper ts r) {l : List Nat} (hn : l.Nodup) (hl : ∀ i ∈ l, i < ts.length) (hab : ∀ i ∈ l, inAB r a b i = true) (h : many r b l < many r a l) : ∃ p, IsEnd ts r l a p := by
  refine Classical.byContradiction fun hno => ?_
  have hs : heldOf ts (l.filter (hued r a)) ⊆ heldOf ts (l.filter (hued r b)) := fun p hpm => by
    obtain ⟨i, hi, ho⟩ := mem_held.mp hpm
    obtain ⟨hi, hc⟩ := List.mem_filter.mp hi
    have h1 : (heldOf ts l).count p ≠ 1 := fun e => hno ⟨p, ⟨i, hi, eq_of_beq hc, ho⟩, e⟩
    rw [held_count W hl] at h1
    have h2 : i ∈ l.filter (on ts p) := List.mem_filter.mpr ⟨hi, on_iff.mpr ho⟩
    obtain ⟨j, hj, hne⟩ : ∃ j ∈ l.filter (on ts p), j ≠ i := by
      refine Classical.byContradiction fun hx => h1 ?_
      have := nd_all_eq (nd_filter hn (on ts p)) fun x hx2 y hy2 => by
        have e1 : x = i := Classical.byContradiction fun z => hx ⟨x, hx2, z⟩
        have e2 : y = i := Classical.byContradiction fun z => hx ⟨y, hy2, z⟩
        rw [e1, e2]
      have := List.length_pos_of_mem h2
      omega
    obtain ⟨hj, oj⟩ := List.mem_filter.mp hj
    rcases inAB_iff.mp (hab j hj) with e | e
    · exact absurd (hp.uniq (hl j hj) (hl i hi) e (eq_of_beq hc) (on_iff.mp oj) ho) hne
    · exact mem_held.mpr ⟨j, List.mem_filter.mpr ⟨hj, by unfold hued; rw [e]; exact beq_self_eq_true _⟩, on_iff.mp oj⟩
  have := List.Nodup.length_le_of_subset (held_nd W hp hn hl a) hs
  rw [held_len, held_len, ← many_eq, ← many_eq] at this
  omega
theorem many_ab (hne : a ≠ b) : ∀ {l : List Nat}, (∀ i ∈ l, inAB r a b i = true) → many r a l + many r b l = l.length
  | [], _ => rfl
  | x :: l, h => by
    have ih := many_ab hne (l := l) fun i hi => h i (List.mem_cons_of_mem _ hi)
    have hx := inAB_iff.mp (h x (List.mem_cons_self ..))
    unfold many at ih ⊢
    rw [List.filter_cons, List.filter_cons, List.length_cons]
    rcases hx with e | e
    · rw [e, if_pos (beq_self_eq_true _), if_neg (fun z => hne (Option.some.inj (eq_of_beq z))), List.length_cons]; omega
    · rw [e, if_neg (fun z => hne (Option.some.inj (eq_of_beq z)).symm), if_pos (beq_self_eq_true _), List.length_cons]; omega
theorem row_ab {i : Nat} {l : List Nat} (hi : inAB r a b i = true) (c : Comp (neigh ts r a b) ts.length i l) : ∀ j ∈ l, inAB r a b j = true :=
  c.least (fun j => inAB r a b j = true) hi fun u hu z hz => (mem_neigh.mp hz).2.1
theorem uneven_iff (W : Web n ts) (hp : Proper ts r) (hne : a ≠ b) {l : List Nat} (hr : IsRow ts r a b l) : Uneven ts r a l ↔ many r b l < many r a l := by
  obtain ⟨⟨i, hi, c⟩, _⟩ := hr
  have hab := row_ab hi c
  have e := many_ab hne hab
  constructor
  · intro u
    have := u.2
    omega
  · intro h
    refine ⟨?_, by omega⟩
    obtain ⟨p, ⟨j, h1, _, h3⟩, h4⟩ := has_end W hp c.nd c.lt hab h
    refine Bool.eq_false_iff.mpr fun z => ?_
    have := List.all_eq_true.mp z p (mem_held.mpr ⟨j, h1, h3⟩)
    have := of_decide_eq_true this
    omega
theorem sum_le {rs : List (List Nat)} {f g : List Nat → Nat} (h : ∀ l ∈ rs, f l ≤ g l) : (rs.map f).sum ≤ (rs.map g).sum := by
  induction rs with
  | nil => exact Nat.le_refl _
  | cons x xs ih =>
    rw [List.map_cons, List.map_cons, List.sum_cons, List.sum_cons]
    exact Nat.add_le_add (h x (List.mem_cons_self ..)) (ih fun l hl => h l (List.mem_cons_of_mem _ hl))
theorem rows_sum {rs : List (List Nat)} (h : IsRows ts r a b rs) (c : Nat) (hc : c = a ∨ c = b) : (rs.map (many r c)).sum = many r c (List.range ts.length) := by
  have e1 : (rs.map (many r c)).sum = (rs.flatten.filter (hued r c)).length := by
    rw [List.filter_flatten, List.length_flatten, List.map_map]; rfl
  rw [e1, many_eq]
  have nd : rs.flatten.Nodup := by
    unfold List.Nodup
    rw [List.pairwise_flatten]
    exact ⟨fun l hl => by obtain ⟨⟨_, _, c⟩, _⟩ := h.comp l hl; exact c.nd, h.dis.imp fun hd x hx y hy e => hd x hx (by rw [e]; exact hy)⟩
  refine List.Perm.length_eq ((List.perm_ext_iff_of_nodup (nd_filter nd _) (nd_filter List.nodup_range _)).mpr fun i => ?_)
  rw [List.mem_filter, List.mem_filter, List.mem_flatten, List.mem_range]
  constructor
  · rintro ⟨⟨l, hl, hi⟩, z⟩
    obtain ⟨⟨_, _, c⟩, _⟩ := h.comp l hl
    exact ⟨c.lt i hi, z⟩
  · rintro ⟨hi, z⟩
    refine ⟨?_, z⟩
    obtain ⟨l, h1, h2⟩ := h.all i hi (inAB_iff.mpr (by rcases hc with e | e <;> rw [← e] <;> first | exact .inl (eq_of_beq z) | exact .inr (eq_of_beq z)))
    exact ⟨l, h1, h2⟩
theorem uneven_ex (W : Web n ts) (hp : Proper ts r) (hne : a ≠ b) (h : many r b (List.range ts.length) < many r a (List.range ts.length)) {rs : List (List Nat)} (hr : IsRows ts r a b rs) : ∃ l ∈ rs, Uneven ts r a l := by
  refine Classical.byContradiction fun hno => ?_
  have := sum_le (rs := rs) (f := many r a) (g := many r b) fun l hl => Nat.le_of_not_lt fun z => hno ⟨l, hl, (uneven_iff W hp hne (hr.comp l hl)).mpr z⟩
  rw [rows_sum hr a (.inl rfl), rows_sum hr b (.inr rfl)] at this
  omega
end
end U
set_option Elab.async false
set_option linter.all false
set_option maxRecDepth 100000
set_option maxHeartbeats 1000000
namespace U
open PySem PySem.Spec PyProof.Rows L2
local macro_rules | `(tactic| walk_at "vc") => `(tactic| (first | simp only [hueD_n, hueD_s, kOoNew, kOoApp, Slot.oo.injEq, c_0, c_1, c_2, c_3, eq_self, kLenSet, kFldC, kMeth, kOwn, kApp, kExt, kIns, kPop, kPut, kAugA, kPar, kDk0, kDk1, kDkPut, kDt0, kDtPut, kUpd, kInDk, kInDt, kSorted, kTapeSet, kSwap, kCount, kIndex, kLstR, kCallF, kBinF, catP, listP, max2P, min2P, intBP, absP, tupleP, Slot.dk.injEq, Slot.dt.injEq, reduceCtorEq, false_and, exists_false, and_assoc, lenP, seq_l, seq_t, seq_s, natsD, natsT, rowD, num_nat, Nat.reduceLeDiff, inP, ninP, ni_i, ni_n, ni_hue, eqN_ih, eqN_ii, eqN_nn, eqN_ni, eqN_in, any_nats', any_hues_n, any_hues_i, all_ni, all_niH, beq_nat, List.all_cons, List.all_nil, List.any_cons, List.any_nil, Bool.or_false, Bool.and_true, Bool.true_and, at0, at1, at2, at3, kSl, koN, koS, slP, kItET, kItE, kItS, kItR1, kItR2, kItZ, kItZM, webD, nat, tieD, le0, lt_nat, le_nat, eq_nat, decide_true, decide_false, decide_eq_true_eq, kSeq, kNext, kRet, kSet, kDrop, kTgt, ksIf, kVar, kVarB, rdB_p, rdB_o, kC, kBin, kF, q_add_ii, q_add_ll, q_add_tt, q_sub_ii, q_mul_ii, q_mul_li, q_mod_ii, q_fdiv_ii, q_pow_ii, q_ix_l, q_ix_t, q_ix_s, q_ix_tp, q_ii, q_is_bb, q_is_n, q_nis_bb, q_nis_n, q_eq_ii, q_eq_ni, q_eq_in, q_eq_nn, q_eq_ss, q_eq_tt, q_eq_ll, q_isN_n, q_isN_i, q_isN_t, q_isN_l, q_isN_b, kNeg, kCmp, kCmpT, kChain, kBo, neP, kAnd, kOr, kNot, tkAnd, tkOr, tkNot, tkV, kIf, kNil, kCons, kTup, kLst, kCall, kIsi, gkName, gkTup, gkCons, gkNil, tkYes, relP, kRel, wipeP, startP, List.map_cons, List.map_nil, List.length_cons, List.length_nil, List.replicate_succ, List.replicate_zero, List.cons_append, List.nil_append, List.append_nil, Nat.reduceSub, Nat.reduceAdd, Nat.sub_self, List.getElem?_cons_zero, List.getElem?_cons_succ, List.getElem?_nil, List.set_cons_zero, List.set_cons_succ, List.set_nil, Option.some.injEq, Slot.p.injEq, Slot.o.injEq, D.tup.injEq, D.lst.injEq, D.int.injEq, D.bl.injEq, D.str.injEq, exists_eq_left', exists_eq_left, exists_eq_right, exists_eq_right', exists_and_left, exists_eq', exists_eq, and_true, true_and, Bool.not_true, Bool.not_false, if_true, if_false, Bool.false_eq_true, ite_true, ite_false, reduceIte, List.cons.injEq, List.length_map] | skip))
/-! ### the step and what it does -/
section
variable {n : Nat} {ts : List Tie} {r : List (Option Nat)} {a b : Nat}
theorem Comp.same {nb : Nat → List Nat} {N i t : Nat} {l m : List Nat} (c : Comp nb N i l) (d : Comp nb N t m) (h1 : t ∈ l) (h2 : i ∈ m) : ∀ z, z ∈ l ↔ z ∈ m := fun z =>
  ⟨c.least (fun z => z ∈ m) h2 d.cl z, d.least (fun z => z ∈ l) h1 c.cl z⟩
theorem Comp.perm {nb : Nat → List Nat} {N i t : Nat} {l m : List Nat} (c : Comp nb N i l) (d : Comp nb N t m) (h : ∀ z, z ∈ l ↔ z ∈ m) : l.Perm m := (List.perm_ext_iff_of_nodup c.nd d.nd).mpr h
/-- from a tie of a row the row comes again -/
theorem row_again {i t : Nat} {l : List Nat} (hi : i < ts.length) (hab : inAB r a b i = true) (c : Comp (neigh ts r a b) ts.length i l) {m : List Nat} (d : Comp (neigh ts r a b) ts.length t m) (ht : t ∈ l) : ∀ z, z ∈ l ↔ z ∈ m := by
  have h2 : i ∈ m := by
    refine Classical.byContradiction fun h => ?_
    have := comp_dis' neigh_symm d c ⟨hi, hab⟩ h t ht
    exact this d.x0
  exact c.same d ht h2
theorem exch_at {l : List Nat} {i : Nat} (h : i < r.length) : hue (exch r l a b) i = if i ∈ l then (hue r i).map (fun h => otherOf h a b) else hue r i := by
  unfold exch
  show ((List.range r.length).map _).getD i none = _
  rw [List.getD_eq_getElem?_getD, List.getElem?_map, List.getElem?_range h]; rfl
theorem otherOf_ab {c : Nat} (h : c = a ∨ c = b) : otherOf c a b = a ∨ otherOf c a b = b := by
  unfold otherOf; split
  · exact .inr rfl
  · exact .inl rfl
theorem otherOf_inj {c d : Nat} (hc : c = a ∨ c = b) (hd : d = a ∨ d = b) (e : otherOf c a b = otherOf d a b) : c = d := by
  unfold otherOf at e
  split at e <;> split at e <;> omega
theorem exch_proper (hp : Proper ts r) {l : List Nat} (hl : ∀ i ∈ l, inAB r a b i = true) (hcl : ∀ i ∈ l, ∀ z ∈ neigh ts r a b i, z ∈ l) : Proper ts (exch r l a b) := by
  refine ⟨by rw [exch_len]; exact hp.1, fun i j c hij hj h1 h2 => ?_⟩
  rw [exch_at (by rw [hp.1]; omega)] at h1
  rw [exch_at (by rw [hp.1]; omega)] at h2
  have ab : ∀ i ∈ l, ∃ d, hue r i = some d ∧ (d = a ∨ d = b) := fun i hi => (inAB_iff.mp (hl i hi)).elim (fun e => ⟨_, e, .inl rfl⟩) fun e => ⟨_, e, .inr rfl⟩
  by_cases hi' : i ∈ l <;> by_cases hj' : j ∈ l
  · rw [if_pos hi'] at h1; rw [if_pos hj'] at h2
    obtain ⟨d, e1, d1⟩ := ab i hi'
    obtain ⟨d', e2, d2⟩ := ab j hj'
    rw [e1] at h1; rw [e2] at h2
    have : d = d' := otherOf_inj d1 d2 ((Option.some.inj h1).trans (Option.some.inj h2).symm)
    rw [← this] at e2
    exact hp.2 i j d hij hj e1 e2
  · rw [if_pos hi'] at h1; rw [if_neg hj'] at h2
    refine Bool.eq_false_iff.mpr fun z => hj' (hcl i hi' j (mem_neigh.mpr ⟨hj, ?_, by rw [meet_symm]; exact z⟩))
    obtain ⟨d, e1, d1⟩ := ab i hi'
    rw [e1] at h1
    have : otherOf d a b = c := Option.some.inj h1
    rw [inAB_iff, h2, ← this]
    rcases otherOf_ab d1 with e | e <;> rw [e]
    · exact .inl rfl
    · exact .inr rfl
  · rw [if_neg hi'] at h1; rw [if_pos hj'] at h2
    refine Bool.eq_false_iff.mpr fun z => hi' (hcl j hj' i (mem_neigh.mpr ⟨by omega, ?_, z⟩))
    obtain ⟨d, e1, d1⟩ := ab j hj'
    rw [e1] at h2
    have : otherOf d a b = c := Option.some.inj h2
    rw [inAB_iff, h1, ← this]
    rcases otherOf_ab d1 with e | e <;> rw [e]
    · exact .inl rfl
    · exact .inr rfl
  · rw [if_neg hi'] at h1; rw [if_neg hj'] at h2
    exact hp.2 i j c hij hj h1 h2
theorem IsEnd.turned (W : Web n ts) (hp : Proper ts r) (hne : a ≠ b) {l : List Nat} {p : Nat} (hr : IsRow ts r a b l) (he : IsEnd ts r l a p) : ∃ t0 ∈ l, Turned n ts r p a b t0 := by
  obtain ⟨⟨i, hi, c⟩, _⟩ := hr
  obtain ⟨⟨t0, h1, h2, h3⟩, h4⟩ := he
  have hil := c.lt i c.x0
  refine ⟨t0, h1, W, hp, hne, onT_lt W (c.lt t0 h1) h3, ⟨c.lt t0 h1, h3, h2⟩, fun y hy ho e => ?_, fun m d => ?_⟩
  · have hyl : y ∈ l := c.cl t0 h1 y (mem_neigh_on hy (inAB_iff.mpr (.inr e)) ho h3)
    rw [held_count W c.lt] at h4
    have hne2 : t0 ≠ y := fun z => by rw [z, e] at h2; exact hne (Option.some.inj h2).symm
    have := List.Nodup.length_le_of_subset (l₁ := [t0, y]) (List.nodup_cons.mpr ⟨fun z => hne2 (List.mem_singleton.mp z), List.nodup_cons.mpr ⟨by simp, List.nodup_nil⟩⟩) (l₂ := l.filter (on ts p)) fun z hz => by
      rcases List.mem_cons.mp hz with z | z
      · rw [z]; exact List.mem_filter.mpr ⟨h1, on_iff.mpr h3⟩
      · rw [List.mem_singleton.mp z]; exact List.mem_filter.mpr ⟨hyl, on_iff.mpr ho⟩
    rw [h4] at this
    simp at this
  · have hs := row_again hil hi c d h1
    have hab := row_ab hi c
    exact ⟨fun i hi => hab i ((hs i).mpr hi), exch_proper hp (fun i hi => hab i ((hs i).mpr hi)) d.cl⟩
/-- how many of each hue behind the step -/
theorem exch_many (hne : a ≠ b) {l : List Nat} (hn : l.Nodup) (hl : ∀ i ∈ l, i < r.length) (hab : ∀ i ∈ l, inAB r a b i = true) (c : Nat) : many (exch r l a b) c (List.range r.length) + (if c = a then many r a l else if c = b then many r b l else 0) = many r c (List.range r.length) + (if c = a then many r b l else if c = b then many r a l else 0) := by
  have key : ∀ m : List Nat, m.Nodup → (∀ i ∈ m, i < r.length) → many (exch r l a b) c m + (if c = a then many r a (m.filter (· ∈ l)) else if c = b then many r b (m.filter (· ∈ l)) else 0) = many r c m + (if c = a then many r b (m.filter (· ∈ l)) else if c = b then many r a (m.filter (· ∈ l)) else 0) := by
    intro m
    induction m with
    | nil => intro _ _; unfold many; simp
    | cons x m ih =>
      intro hm hml
      have ih := ih (List.nodup_cons.mp hm).2 fun i hi => hml i (List.mem_cons_of_mem _ hi)
      have hx := exch_at (r := r) (l := l) (a := a) (b := b) (hml x (List.mem_cons_self ..))
      have cs : ∀ (r : List (Option Nat)) (c : Nat) (m : List Nat), many r c (x :: m) = many r c m + if hue r x = some c then 1 else 0 := fun r c m => by
        unfold many
        rw [List.filter_cons]
        by_cases h : hue r x = some c
        · rw [if_pos (by rw [h]; exact beq_self_eq_true _), if_pos h, List.length_cons]
        · rw [if_neg (fun z => h (eq_of_beq z)), if_neg h]; rfl
      rw [cs, cs, hx, List.filter_cons]
      by_cases hxl : x ∈ l
      · rw [if_pos hxl, if_pos (decide_eq_true hxl), cs, cs]
        rcases inAB_iff.mp (hab x hxl) with e | e
        · rw [e]
          have o : otherOf a a b = b := by unfold otherOf; rw [if_pos rfl]
          simp only [Option.map_some, o, Option.some.injEq]
          generalize many (exch r l a b) c m = M1 at ih ⊢
          generalize many r c m = M2 at ih ⊢
          generalize many r a (m.filter fun x => decide (x ∈ l)) = X at ih ⊢
          generalize many r b (m.filter fun x => decide (x ∈ l)) = Y at ih ⊢
          clear hx cs hab hl hml hm hn
          by_cases h1 : c = a
          · subst h1
            have hn2 := Ne.symm hne
            simp [hne, hn2] at ih ⊢; omega
          · by_cases h2 : c = b
            · subst h2
              have hn2 := Ne.symm hne
              simp [hne, hn2] at ih ⊢; omega
            · have h3 : ¬ a = c := fun z => h1 z.symm
              have h4 : ¬ b = c := fun z => h2 z.symm
              simp [h1, h2, h3, h4] at ih ⊢; omega
        · rw [e]
          have o : otherOf b a b = a := by unfold otherOf; rw [if_neg (Ne.symm hne)]
          simp only [Option.map_some, o, Option.some.injEq]
          generalize many (exch r l a b) c m = M1 at ih ⊢
          generalize many r c m = M2 at ih ⊢
          generalize many r a (m.filter fun x => decide (x ∈ l)) = X at ih ⊢
          generalize many r b (m.filter fun x => decide (x ∈ l)) = Y at ih ⊢
          clear hx cs hab hl hml hm hn
          by_cases h1 : c = a
          · subst h1
            have hn2 := Ne.symm hne
            simp [hne, hn2] at ih ⊢; omega
          · by_cases h2 : c = b
            · subst h2
              have hn2 := Ne.symm hne
              simp [hne, hn2] at ih ⊢; omega
            · have h3 : ¬ a = c := fun z => h1 z.symm
              have h4 : ¬ b = c := fun z => h2 z.symm
              simp [h1, h2, h3, h4] at ih ⊢; omega
      · rw [if_neg hxl, decide_eq_false hxl]
        simp only [Bool.false_eq_true, if_false]
        omega
  have := key (List.range r.length) List.nodup_range fun i hi => List.mem_range.mp hi
  have hp : ((List.range r.length).filter (· ∈ l)).Perm l := (List.perm_ext_iff_of_nodup (nd_filter List.nodup_range _) hn).mpr fun i => by
    rw [List.mem_filter, List.mem_range]
    exact ⟨fun z => of_decide_eq_true z.2, fun z => ⟨hl i z, decide_eq_true z⟩⟩
  have hm : ∀ d, many r d ((List.range r.length).filter (· ∈ l)) = many r d l := fun d => (hp.filter _).length_eq
  rw [hm, hm] at this
  exact this
end
end U
set_option Elab.async false
set_option linter.all false
set_option maxRecDepth 100000
set_option maxHeartbeats 1000000
namespace U
open PySem PySem.Spec PyProof.Rows L2
local macro_rules | `(tactic| walk_at "vc") => `(tactic| (first | simp only [hueD_n, hueD_s, kOoNew, kOoApp, Slot.oo.injEq, c_0, c_1, c_2, c_3, eq_self, kLenSet, kFldC, kMeth, kOwn, kApp, kExt, kIns, kPop, kPut, kAugA, kPar, kDk0, kDk1, kDkPut, kDt0, kDtPut, kUpd, kInDk, kInDt, kSorted, kTapeSet, kSwap, kCount, kIndex, kLstR, kCallF, kBinF, catP, listP, max2P, min2P, intBP, absP, tupleP, Slot.dk.injEq, Slot.dt.injEq, reduceCtorEq, false_and, exists_false, and_assoc, lenP, seq_l, seq_t, seq_s, natsD, natsT, rowD, num_nat, Nat.reduceLeDiff, inP, ninP, ni_i, ni_n, ni_hue, eqN_ih, eqN_ii, eqN_nn, eqN_ni, eqN_in, any_nats', any_hues_n, any_hues_i, all_ni, all_niH, beq_nat, List.all_cons, List.all_nil, List.any_cons, List.any_nil, Bool.or_false, Bool.and_true, Bool.true_and, at0, at1, at2, at3, kSl, koN, koS, slP, kItET, kItE, kItS, kItR1, kItR2, kItZ, kItZM, webD, nat, tieD, le0, lt_nat, le_nat, eq_nat, decide_true, decide_false, decide_eq_true_eq, kSeq, kNext, kRet, kSet, kDrop, kTgt, ksIf, kVar, kVarB, rdB_p, rdB_o, kC, kBin, kF, q_add_ii, q_add_ll, q_add_tt, q_sub_ii, q_mul_ii, q_mul_li, q_mod_ii, q_fdiv_ii, q_pow_ii, q_ix_l, q_ix_t, q_ix_s, q_ix_tp, q_ii, q_is_bb, q_is_n, q_nis_bb, q_nis_n, q_eq_ii, q_eq_ni, q_eq_in, q_eq_nn, q_eq_ss, q_eq_tt, q_eq_ll, q_isN_n, q_isN_i, q_isN_t, q_isN_l, q_isN_b, kNeg, kCmp, kCmpT, kChain, kBo, neP, kAnd, kOr, kNot, tkAnd, tkOr, tkNot, tkV, kIf, kNil, kCons, kTup, kLst, kCall, kIsi, gkName, gkTup, gkCons, gkNil, tkYes, relP, kRel, wipeP, startP, List.map_cons, List.map_nil, List.length_cons, List.length_nil, List.replicate_succ, List.replicate_zero, List.cons_append, List.nil_append, List.append_nil, Nat.reduceSub, Nat.reduceAdd, Nat.sub_self, List.getElem?_cons_zero, List.getElem?_cons_succ, List.getElem?_nil, List.set_cons_zero, List.set_cons_succ, List.set_nil, Option.some.injEq, Slot.p.injEq, Slot.o.injEq, D.tup.injEq, D.lst.injEq, D.int.injEq, D.bl.injEq, D.str.injEq, exists_eq_left', exists_eq_left, exists_eq_right, exists_eq_right', exists_and_left, exists_eq', exists_eq, and_true, true_and, Bool.not_true, Bool.not_false, if_true, if_false, Bool.false_eq_true, ite_true, ite_false, reduceIte, List.cons.injEq, List.length_map] | skip))
section
variable {P : Program} {w : World} {K : PySem.W.Frag} {mg : Str → Option Value} {base : Heap} {k : Nat}
/-! ### evened -/
def Whole (ts : List Tie) (r : List (Option Nat)) (h : Nat) : Prop := Proper ts r ∧ ∀ i, i < ts.length → ∃ c, hue r i = some c ∧ c < h
def sumsq (xs : List Nat) : Nat := (xs.map fun x => x * x).sum
theorem sumsq_range (f : Nat → Nat) (m : Nat) : sumsq ((List.range (m + 1)).map f) = sumsq ((List.range m).map f) + f m * f m := by
  unfold sumsq
  rw [List.range_succ, List.map_append, List.map_append, List.sum_append]
  simp
theorem sq_step {f g : Nat → Nat} {a b h : Nat} (hne : a ≠ b) (ha : a < h) (hb : b < h) (e : ∀ c, c ≠ a → c ≠ b → g c = f c) (ea : g a + 1 = f a) (eb : g b = f b + 1) (hd : f b + 2 ≤ f a) : sumsq ((List.range h).map g) < sumsq ((List.range h).map f) := by
  have key : ∀ m, sumsq ((List.range m).map g) + (if a < m then 2 * g a + 1 else 0) = sumsq ((List.range m).map f) + (if b < m then 2 * f b + 1 else 0) := by
    intro m
    induction m with
    | zero => rfl
    | succ m ih =>
      rw [sumsq_range, sumsq_range]
      have sq : ∀ x : Nat, (x + 1) * (x + 1) = x * x + 2 * x + 1 := fun x => by rw [Nat.add_mul, Nat.mul_add]; omega
      by_cases h1 : m = a
      · subst h1
        rw [if_neg (Nat.lt_irrefl _)] at ih
        rw [if_pos (Nat.lt_succ_self _), ← ea, sq]
        by_cases h2 : b < m
        · rw [if_pos h2] at ih; rw [if_pos (by omega)]; omega
        · rw [if_neg h2] at ih; rw [if_neg (by omega)]; omega
      · by_cases h2 : m = b
        · subst h2
          rw [if_neg (Nat.lt_irrefl m)] at ih
          rw [if_pos (Nat.lt_succ_self m), eb, sq]
          by_cases h3 : a < m
          · rw [if_pos h3] at ih; rw [if_pos (by omega)]; omega
          · rw [if_neg h3] at ih; rw [if_neg (by omega)]; omega
        · rw [e m h1 h2]
          by_cases h3 : a < m
          · rw [if_pos h3] at ih; rw [if_pos (by omega)]
            by_cases h4 : b < m
            · rw [if_pos h4] at ih; rw [if_pos (by omega)]; omega
            · rw [if_neg h4] at ih; rw [if_neg (by omega)]; omega
          · rw [if_neg h3] at ih; rw [if_neg (by omega)]
            by_cases h4 : b < m
            · rw [if_pos h4] at ih; rw [if_pos (by omega)]; omega
            · rw [if_neg h4] at ih; rw [if_neg (by omega)]; omega
  have := key h
  rw [if_pos ha, if_pos hb] at this
  omega
def sizesOf (r : List (Option Nat)) (h : Nat) : List Nat := (List.range h).map fun c => (classOf r c).length
theorem class_many (r : List (Option Nat)) (c : Nat) : (classOf r c).length = many r c (List.range r.length) := rfl
def unN : D → Nat
  | .int i => i.toNat
  | _ => 0
theorem unN_nat (xs : List Nat) : (xs.map nat).map unN = xs := by
  rw [List.map_map]
  conv => rhs; rw [← List.map_id xs]
  rfl
def q_evened : PSp := fun ds P => ∃ n ts r h, ds = [webD n ts, rowD r, nat h] ∧ Web n ts ∧ Whole ts r h ∧ h ≤ 100 ∧ ∀ r' d, Whole ts r' h → P (.tup [rowD r', d])
/-- one step on -/
theorem even_step {n : Nat} {ts : List Tie} {r : List (Option Nat)} {h a b t0 : Nat} {l m : List Nat} (W : Web n ts) (hw : Whole ts r h) (hne : a ≠ b) (ha : a < h) (hb : b < h) (hd : (classOf r b).length + 2 ≤ (classOf r a).length) (hr : IsRow ts r a b l) (hu : Uneven ts r a l) (ht : t0 ∈ l) (c : Comp (neigh ts r a b) ts.length t0 m) (hm : many r a m ≤ many r b m + 1) :
    Whole ts (exch r m a b) h ∧ sumsq (sizesOf (exch r m a b) h) < sumsq (sizesOf r h) := by
  obtain ⟨hp, hall⟩ := hw
  have hu := (uneven_iff W hp hne hr).mp hu
  obtain ⟨⟨i, hi, cl⟩, _⟩ := hr
  have hs := row_again (cl.lt i cl.x0) hi cl c ht
  have hab := row_ab hi cl
  have habm : ∀ i ∈ m, inAB r a b i = true := fun i hi => hab i ((hs i).mpr hi)
  have pm := cl.perm c hs
  have e1 : ∀ c, many r c l = many r c m := fun c => (pm.filter _).length_eq
  rw [e1, e1] at hu
  have hpe := exch_proper hp habm c.cl
  refine ⟨⟨hpe, fun i hi => ?_⟩, ?_⟩
  · obtain ⟨d, e, hdh⟩ := hall i hi
    rw [exch_at (by rw [hp.1]; exact hi), e]
    by_cases him : i ∈ m
    · rw [if_pos him]
      refine ⟨otherOf d a b, rfl, ?_⟩
      unfold otherOf; split <;> assumption
    · rw [if_neg him]; exact ⟨d, rfl, hdh⟩
  · have key := exch_many (r := r) hne c.nd (fun i hi => by rw [hp.1]; exact c.lt i hi) habm
    refine sq_step hne ha hb (fun c h1 h2 => ?_) ?_ ?_ hd
    · have := key c
      rw [if_neg h1, if_neg h2, if_neg h1, if_neg h2] at this
      rw [class_many, class_many, exch_len]; omega
    · have := key a
      rw [if_pos rfl, if_pos rfl] at this
      rw [class_many, class_many, exch_len]; omega
    · have := key b
      rw [if_neg (Ne.symm hne), if_neg (Ne.symm hne), if_pos rfl, if_pos rfl] at this
      rw [class_many, class_many, exch_len]; omega
theorem first_ix {α : Type} {x : α} : ∀ {xs : List α}, x ∈ xs → ∃ j : Nat, xs[j]? = some x ∧ ∀ i : Nat, i < j → xs[i]? ≠ some x
  | y :: ys, h => by
    by_cases e : y = x
    · exact ⟨0, by rw [e]; rfl, fun i hi => by omega⟩
    · rcases List.mem_cons.mp h with z | z
      · exact absurd z.symm e
      · obtain ⟨j, h1, h2⟩ := first_ix z
        refine ⟨j + 1, h1, fun i hi => ?_⟩
        match i with
        | 0 => exact fun z => e (Option.some.inj z)
        | i + 1 => exact h2 i (by omega)
theorem sizes_at {r : List (Option Nat)} {h j : Nat} {x : Int} (e : ((sizesOf r h).map fun (i : Nat) => (i : Int))[j]? = some x) : j < h ∧ x = ((classOf r j).length : Nat) := by
  unfold sizesOf at e
  have hj : j < h := by
    have := (List.getElem?_eq_some_iff.mp e).1
    simpa using this
  rw [List.getElem?_map, List.getElem?_map, List.getElem?_range hj] at e
  exact ⟨hj, (Option.some.inj e).symm⟩
theorem ok_evened (T : Tx K mg) (L : Lo K mg "evened" S_evened) (c_sizes : Callee P w K mg base k "sizes" q_sizes) (c_step_between : Callee P w K mg base k "step_between" q_step_between) (c_done_step : Callee P w K mg base k "done_step" q_done_step) : Callee P w K mg base (k + 1) "evened" q_evened := by
  refine mk_callee L sc_evened b_evened (fun tw => d_evened T c_sizes c_step_between c_done_step) (fun ds P ⟨n, ts, r, hh, e, _⟩ => by rw [e]; rfl) fun ds P ⟨n, ts, r, hh, e, W, hw, hz, h⟩ => ?_
  subst e
  have t16 := W.t16
  unfold k_evened
  walk_at "vc"
  intro p0
  refine ⟨r, hh, rfl, by rw [hw.1.1]; omega, by omega, ?_⟩
  refine ⟨fun ρ => ∃ (r' : List (Option Nat)) (st : List D), Whole ts r' hh ∧ st.length + sumsq (sizesOf r' hh) ≤ 300000 ∧ ρ = [.p (webD n ts), .p (rowD r), .p (nat hh), .p (rowD r'), .o p0 st, .p (natsD (sizesOf r' hh))], fun ρ => match (ρ : List Slot)[5]? with
    | some (Slot.p (D.lst ds)) => sumsq (ds.map unN)
    | _ => 0, ⟨r, [], hw, ?_, rfl⟩, ?_⟩
  · have h1 : ∀ xs : List Nat, (∀ x ∈ xs, x ≤ 16) → sumsq xs ≤ 256 * xs.length := by
      intro xs
      induction xs with
      | nil => intro _; exact Nat.le_refl _
      | cons x xs ih =>
        intro hx
        have ih := ih fun y hy => hx y (List.mem_cons_of_mem _ hy)
        have h2 := Nat.mul_le_mul (hx x (List.mem_cons_self ..)) (hx x (List.mem_cons_self ..))
        unfold sumsq at ih ⊢
        rw [List.map_cons, List.sum_cons, List.length_cons]
        omega
    have := h1 (sizesOf r hh) fun x hx => by
      obtain ⟨c, _, rfl⟩ := List.mem_map.mp hx
      have := classTo_len r c r.length
      rw [hw.1.1] at this
      unfold classOf; rw [hw.1.1]; omega
    have hl : (sizesOf r hh).length = hh := by unfold sizesOf; rw [List.length_map, List.length_range]
    rw [List.length_nil]
    omega
  rintro ρ' ⟨r', st, hw', hst, rfl⟩
  walk_at "vc"
  have hend : P (.tup [.lst (r'.map hueD), .lst st]) := h r' (.lst st) hw'
  have ns : (sizesOf r' hh).map nat = ((sizesOf r' hh).map fun (i : Nat) => (i : Int)).map D.int := nats_ints _
  generalize hxs : (sizesOf r' hh).map (fun (i : Nat) => (i : Int)) = xs at ns
  rw [ns]
  refine ⟨xs, .int 0, rfl, fun e0 => ?_, fun m hm hmax => ?_⟩
  · refine ⟨xs, .int 0, rfl, fun _ => ?_, fun m hm => by rw [e0] at hm; cases hm⟩
    walk_at "vc"
    exact hend
  · refine ⟨xs, .int 0, rfl, fun e0 => (by rw [e0] at hm; cases hm), fun m2 hm2 hmin => ?_⟩
    walk_at "vc"
    by_cases hgt : (1 : Int) < m - m2
    · rw [if_pos (by first | exact hgt | exact decide_eq_true hgt)]
      have hpos : 0 < xs.length := List.length_pos_of_mem hm
      refine ⟨by omega, xs, rfl, hpos, fun x hx hxm => ⟨xs, rfl, x, rfl, ?_⟩⟩
      obtain ⟨a, ha1, ha2⟩ := first_ix hx
      refine ⟨a, ha1, ha2, xs, rfl, hpos, fun y hy hym => ⟨xs, rfl, y, rfl, ?_⟩⟩
      obtain ⟨b, hb1, hb2⟩ := first_ix hy
      refine ⟨b, hb1, hb2, ?_⟩
      have e1 := hxm m hm
      have e2 := hym m2 hm2
      have a3 := sizes_at (by rw [hxs]; exact ha1)
      have b3 := sizes_at (by rw [hxs]; exact hb1)
      have hd : (classOf r' b).length + 2 ≤ (classOf r' a).length := by omega
      have hne : a ≠ b := fun e => by rw [e] at hd; omega
      have hlt : many r' b (List.range ts.length) < many r' a (List.range ts.length) := by
        rw [class_many, class_many, hw'.1.1] at hd; omega
      refine ⟨n, ts, r', a, b, rfl, W, hw'.1.1, hne, fun rs hrs => uneven_ex W hw'.1 hne hlt hrs, fun l hl hu => ?_, fun l p hl hu he => ?_⟩
      · have hu := (uneven_iff W hw'.1 hne hl).mp hu
        obtain ⟨⟨i, hi, c⟩, _⟩ := hl
        exact has_end W hw'.1 c.nd c.lt (row_ab hi c) hu
      · obtain ⟨t0, ht, tu⟩ := he.turned W hw'.1 hne hl
        refine ⟨stepD p a b, at_last, n, ts, r', p, a, b, t0, rfl, tu, fun l2 c hm => ?_⟩
        obtain ⟨w1, w2⟩ := even_step W hw' hne a3.1 b3.1 hd hl hu ht c hm
        refine ⟨exch r' l2 a b, hh, rfl, by rw [exch_len, hw'.1.1]; omega, by omega, ⟨exch r' l2 a b, w1, st ++ [stepD p a b], ?_, rfl, rfl, rfl⟩, ?_⟩
        · rw [List.length_append, List.length_singleton]; omega
        · show sumsq (((sizesOf (exch r' l2 a b) hh).map nat).map unN) < sumsq (((xs.map D.int)).map unN)
          rw [← ns, unN_nat, unN_nat]
          exact w2
    · rw [if_neg (by first | exact hgt | exact fun z => hgt (of_decide_eq_true z))]
      exact hend
end
end U
set_option Elab.async false
set_option linter.all false
set_option maxRecDepth 100000
set_option maxHeartbeats 1000000
namespace U
open PySem PySem.Spec PyProof.Rows L2
local macro_rules | `(tactic| walk_at "vc") => `(tactic| (first | simp only [hueD_n, hueD_s, kOoNew, kOoApp, Slot.oo.injEq, c_0, c_1, c_2, c_3, eq_self, kLenSet, kFldC, kMeth, kOwn, kApp, kExt, kIns, kPop, kPut, kAugA, kPar, kDk0, kDk1, kDkPut, kDt0, kDtPut, kUpd, kInDk, kInDt, kSorted, kTapeSet, kSwap, kCount, kIndex, kLstR, kCallF, kBinF, catP, listP, max2P, min2P, intBP, absP, tupleP, Slot.dk.injEq, Slot.dt.injEq, reduceCtorEq, false_and, exists_false, and_assoc, lenP, seq_l, seq_t, seq_s, natsD, natsT, rowD, num_nat, Nat.reduceLeDiff, inP, ninP, ni_i, ni_n, ni_hue, eqN_ih, eqN_ii, eqN_nn, eqN_ni, eqN_in, any_nats', any_hues_n, any_hues_i, all_ni, all_niH, beq_nat, List.all_cons, List.all_nil, List.any_cons, List.any_nil, Bool.or_false, Bool.and_true, Bool.true_and, at0, at1, at2, at3, kSl, koN, koS, slP, kItET, kItE, kItS, kItR1, kItR2, kItZ, kItZM, webD, nat, tieD, le0, lt_nat, le_nat, eq_nat, decide_true, decide_false, decide_eq_true_eq, kSeq, kNext, kRet, kSet, kDrop, kTgt, ksIf, kVar, kVarB, rdB_p, rdB_o, kC, kBin, kF, q_add_ii, q_add_ll, q_add_tt, q_sub_ii, q_mul_ii, q_mul_li, q_mod_ii, q_fdiv_ii, q_pow_ii, q_ix_l, q_ix_t, q_ix_s, q_ix_tp, q_ii, q_is_bb, q_is_n, q_nis_bb, q_nis_n, q_eq_ii, q_eq_ni, q_eq_in, q_eq_nn, q_eq_ss, q_eq_tt, q_eq_ll, q_isN_n, q_isN_i, q_isN_t, q_isN_l, q_isN_b, kNeg, kCmp, kCmpT, kChain, kBo, neP, kAnd, kOr, kNot, tkAnd, tkOr, tkNot, tkV, kIf, kNil, kCons, kTup, kLst, kCall, kIsi, gkName, gkTup, gkCons, gkNil, tkYes, relP, kRel, wipeP, startP, List.map_cons, List.map_nil, List.length_cons, List.length_nil, List.replicate_succ, List.replicate_zero, List.cons_append, List.nil_append, List.append_nil, Nat.reduceSub, Nat.reduceAdd, Nat.sub_self, List.getElem?_cons_zero, List.getElem?_cons_succ, List.getElem?_nil, List.set_cons_zero, List.set_cons_succ, List.set_nil, Option.some.injEq, Slot.p.injEq, Slot.o.injEq, D.tup.injEq, D.lst.injEq, D.int.injEq, D.bl.injEq, D.str.injEq, exists_eq_left', exists_eq_left, exists_eq_right, exists_eq_right', exists_and_left, exists_eq', exists_eq, and_true, true_and, Bool.not_true, Bool.not_false, if_true, if_false, Bool.false_eq_true, ite_true, ite_false, reduceIte, List.cons.injEq, List.length_map] | skip))
section
variable {P : Program} {w : World} {K : PySem.W.Frag} {mg : Str → Option Value} {base : Heap} {k : Nat} {cSearch : Addr}
/-! ### methods as callees -/
structure LoM (K : PySem.W.Frag) (C : Addr) (m qual : Str) (st : Stmt) : Prop where
  ex : ∃ f fd, Meth K C m f ∧ Fun K m qual st f fd
theorem mk_calleeM {C : Addr} {m qual : Str} {st : Stmt} {N ps : List Str} {q : PSp} {kb : KS} (L : LoM K C m qual st) (sc : FnScope N ps (defScope st)) (hb : ∀ {f fd}, Fun K m qual st f fd → Binds K fd ps [])
    (hd : ∀ tw, SlR ⟨P, w, K, mg, base, N, defScope st, fun _ => true, k, tw, fun _ => True⟩ (defBody st) kb) (hq : ∀ ds P, q ds P → ds.length = ps.length) (hv : ∀ ds P, q ds P → kb (startP N ds) (fun _ => P .non) P) : CalleeM P w K mg base (k + 1) C m q := by
  obtain ⟨f, fd, h1, F⟩ := L.ex
  exact ⟨f, fd, ps, h1, hb F, def_ok F sc hq hd hv⟩
theorem b_Search_free_hues {f : Addr} {fd : FuncData} (F : Fun K "free_hues" "Search.free_hues" S_Search_free_hues f fd) : Binds K fd ["self", "row", "tie"] [] := F.binds (ps := ["self", "row", "tie"]) fun _ _ _ _ _ _ us hl => match us, hl with | [_, _, _], _ => rfl
theorem b_Search_open_hues {f : Addr} {fd : FuncData} (F : Fun K "open_hues" "Search.open_hues" S_Search_open_hues f fd) : Binds K fd ["self", "row", "tie"] [] := F.binds (ps := ["self", "row", "tie"]) fun _ _ _ _ _ _ us hl => match us, hl with | [_, _, _], _ => rfl
theorem b_Search_narrowest {f : Addr} {fd : FuncData} (F : Fun K "narrowest" "Search.narrowest" S_Search_narrowest f fd) : Binds K fd ["self", "row"] [] := F.binds (ps := ["self", "row"]) fun _ _ _ _ _ _ us hl => match us, hl with | [_, _], _ => rfl
theorem b_Search_goes_on {f : Addr} {fd : FuncData} (F : Fun K "goes_on" "Search.goes_on" S_Search_goes_on f fd) : Binds K fd ["self", "row"] [] := F.binds (ps := ["self", "row"]) fun _ _ _ _ _ _ us hl => match us, hl with | [_, _], _ => rfl
/-! ### ties_near -/
def nearOf (ts : List Tie) (i : Nat) : List Nat := (List.range ts.length).filter fun j => !(j == i) && meet (tie ts j) (tie ts i)
def nearD (ts : List Tie) : D := .lst ((List.range ts.length).map fun i => natsD (nearOf ts i))
def q_ties_near : PSp := fun ds P => ∃ n ts, ds = [webD n ts] ∧ Web n ts ∧ P (nearD ts)
theorem ok_ties_near (T : Tx K mg) (L : Lo K mg "ties_near" S_ties_near) : Callee P w K mg base (k + 1) "ties_near" q_ties_near := by
  refine mk_callee L sc_ties_near b_ties_near (fun tw => d_ties_near T) (fun ds P ⟨n, ts, e, _⟩ => by rw [e]; rfl) fun ds P ⟨n, ts, e, W, h⟩ => ?_
  subst e
  have t16 := W.t16
  unfold k_ties_near
  walk_at "vc"
  intro p0
  refine for_rng ts.length (fun i => .tup [nat i, tieD (tie ts i)]) (fun Q hQ => ?_) (fun j ρ => ∃ s2 s3 s4 s5 s6, ρ = [.p (webD n ts), .o p0 ((List.range j).map fun i => natsD (nearOf ts i)), s2, s3, s4, s5, s6]) ⟨_, _, _, _, _, rfl⟩ (fun i ρ' hi ⟨s2, s3, s4, s5, s6, e⟩ => ?_) fun ρ' ⟨s2, s3, s4, s5, s6, e⟩ => ?_
  · walk_at "vc"
    rw [enum_map ts tieD (0, 0)]
    exact hQ
  · subst e
    walk_at "vc"
    refine ⟨by rw [List.length_range]; omega, ?_⟩
    refine lc_rng ts.length (fun i => .tup [nat i, tieD (tie ts i)]) (fun Q hQ => ?_) (fun j => !(j == i) && meet (tie ts j) (tie ts i)) nat (fun j hj Q A h1 h2 => ?_) ?_
    · walk_at "vc"
      rw [enum_map ts tieD (0, 0)]
      exact hQ
    · walk_at "vc"
      have e0 : (j == i) = decide (j = i) := Bool.beq_eq_decide_eq ..
      rw [e0, meet_symm] at h1 h2
      refine fin_if (fun e => ?_) fun e => ?_
      · rw [e, Bool.true_and] at h1 h2
        exact fin_or h1 h2
      · exact h2 (by rw [e]; rfl)
    · rw [List.range_succ, List.map_append]
      rfl
  · subst e
    walk_at "vc"
    exact h
/-! ### Search -/
def searchD (cSearch : Addr) (ts : List Tie) (h : Nat) : D := .ins cSearch "near" "below" (nearD ts) (nat h)
def freeOf (ts : List Tie) (r : List (Option Nat)) (h i : Nat) : List Nat := (List.range h).filter fun c => !((nearOf ts i).map (hue r)).contains (some c)
theorem at_near {ts : List Tie} {i : Nat} (h : i < ts.length) : atI ((List.range ts.length).map fun i => natsD (nearOf ts i)) (i : Int) = some (natsD (nearOf ts i)) := at_map (by rw [List.getElem?_range h])
theorem near_lt {ts : List Tie} {i j : Nat} (h : j ∈ nearOf ts i) : j < ts.length := List.mem_range.mp (List.mem_filter.mp h).1
def q_Search_free_hues (cSearch : Addr) : PSp := fun ds P => ∃ ts r h i, ds = [searchD cSearch ts h, rowD r, nat i] ∧ r.length = ts.length ∧ i < ts.length ∧ h ≤ 1000 ∧ P (natsD (freeOf ts r h i))
theorem ok_Search_free_hues (T : Tx K mg) (TSearch : TcSearch K cSearch) (L : LoM K cSearch "free_hues" "Search.free_hues" S_Search_free_hues) : CalleeM P w K mg base (k + 1) cSearch "free_hues" (q_Search_free_hues cSearch) := by
  refine mk_calleeM L sc_Search_free_hues b_Search_free_hues (fun tw => d_Search_free_hues T TSearch) (fun ds P ⟨ts, r, hh, i, e, _⟩ => by rw [e]; rfl) fun ds P ⟨ts, r, hh, i, e, hr, hi, hz, h⟩ => ?_
  subst e
  unfold k_Search_free_hues searchD nearD
  walk_at "vc"
  refine lc_map (nearOf ts i) nat (fun Q hQ => ?_) (fun _ => true) (fun j => hueD (hue r j)) (fun j hj Q A h1 _ => ?_) ?_
  · walk_at "vc"
    refine ⟨_, _, _, _, rfl, .inl ⟨rfl, ?_⟩⟩
    rw [q_ix_l]
    exact ⟨_, at_near hi, hQ⟩
  · have hj := near_lt hj
    walk_at "vc"
    rw [at_hue (by rw [hr]; exact hj)]
    exact ⟨_, rfl, h1 rfl⟩
  · rw [List.filter_eq_self.mpr fun _ _ => rfl, show (nearOf ts i).map (fun j => hueD (hue r j)) = ((nearOf ts i).map (hue r)).map hueD from by rw [List.map_map]; rfl]
    walk_at "vc"
    refine lc_rng hh nat (fun Q hQ => ?_) (fun c => !((nearOf ts i).map (hue r)).contains (some c)) nat (fun c hc Q A h1 h2 => ?_) h
    · walk_at "vc"
      refine ⟨_, _, _, _, rfl, .inr ⟨by decide, rfl, ?_⟩⟩
      walk_at "vc"
      exact ⟨by omega, by omega, by rw [rng_nat]; exact hQ⟩
    · walk_at "vc"
      exact fin_if h1 h2
def dhues (r : List (Option Nat)) : List Nat := r.filterMap id
theorem dhues_int : ∀ r : List (Option Nat), (r.filter fun x => x.isSome).map hueD = ((dhues r).map fun (i : Nat) => (i : Int)).map D.int
  | [] => rfl
  | none :: r => dhues_int r
  | some c :: r => by
    show hueD (some c) :: (r.filter fun x => x.isSome).map hueD = D.int (c : Int) :: ((dhues r).map fun (i : Nat) => (i : Int)).map D.int
    rw [dhues_int r]; rfl
theorem dhues_len (r : List (Option Nat)) : (dhues r).length ≤ r.length := List.length_filterMap_le ..
theorem set_len {xs : List Nat} {ds : List Int} (nd : ds.Nodup) (hds : ∀ x, x ∈ ds ↔ x ∈ xs.map fun (i : Nat) => (i : Int)) : ds.length = (dedup xs).length := by
  have h1 : (dedup xs).map (fun (x : Nat) => (x : Int)) ⊆ ds := fun x hx => by
    obtain ⟨y, hy, rfl⟩ := List.mem_map.mp hx
    exact (hds _).mpr (mem_ints.mpr (mem_dedup.mp hy))
  have h2 : ds ⊆ (dedup xs).map (fun (x : Nat) => (x : Int)) := fun x hx => by
    obtain ⟨y, hy, rfl⟩ := List.mem_map.mp ((hds x).mp hx)
    exact mem_ints.mpr (mem_dedup.mpr hy)
  have l1 := List.Nodup.length_le_of_subset (nd_ints (nd_dedup _)) h1
  have l2 := List.Nodup.length_le_of_subset nd h2
  rw [List.length_map] at l1 l2
  omega
def openOf (ts : List Tie) (r : List (Option Nat)) (h i : Nat) : List Nat := (freeOf ts r h i).filter fun c => decide (c ≤ (dedup (dhues r)).length)
def q_Search_open_hues (cSearch : Addr) : PSp := fun ds P => ∃ ts r h i, ds = [searchD cSearch ts h, rowD r, nat i] ∧ r.length = ts.length ∧ i < ts.length ∧ ts.length ≤ 16 ∧ h ≤ 1000 ∧ P (natsD (openOf ts r h i))
theorem ok_Search_open_hues (T : Tx K mg) (TSearch : TcSearch K cSearch) (L : LoM K cSearch "open_hues" "Search.open_hues" S_Search_open_hues) (m_free : CalleeM P w K mg base k cSearch "free_hues" (q_Search_free_hues cSearch)) : CalleeM P w K mg base (k + 1) cSearch "open_hues" (q_Search_open_hues cSearch) := by
  refine mk_calleeM L sc_Search_open_hues b_Search_open_hues (fun tw => d_Search_open_hues T TSearch m_free) (fun ds P ⟨ts, r, hh, i, e, _⟩ => by rw [e]; rfl) fun ds P ⟨ts, r, hh, i, e, hr, hi, t16, hz, h⟩ => ?_
  subst e
  unfold k_Search_open_hues
  walk_at "vc"
  refine lc_map r hueD (fun Q hQ => ?_) (fun x => x.isSome) hueD (fun x hx Q A h1 h2 => ?_) ?_
  · walk_at "vc"
    exact hQ
  · walk_at "vc"
    cases x with
    | none => exact h2 rfl
    | some c => exact h1 rfl
  · have dl := dhues_len r
    refine ⟨(dhues r).map fun (i : Nat) => (i : Int), dhues_int r, by rw [List.length_map]; omega, fun ds nd hds => ?_⟩
    rw [set_len nd hds]
    refine lc_map (freeOf ts r hh i) nat (fun Q hQ => ?_) (fun c => decide (c ≤ (dedup (dhues r)).length)) nat (fun c hc Q A h1 h2 => ?_) h
    · walk_at "vc"
      unfold searchD
      refine ⟨_, _, _, _, rfl, by decide, by decide, ?_⟩
      walk_at "vc"
      exact ⟨ts, r, hh, i, rfl, hr, hi, hz, hQ⟩
    · walk_at "vc"
      split
      · exact h1 (by simp; assumption)
      · exact h2 (by simp; omega)
def bareD (ts : List Tie) (r : List (Option Nat)) (h i : Nat) : D := .tup [nat (freeOf ts r h i).length, .int (-((nearOf ts i).length : Int)), nat i]
def bares (r : List (Option Nat)) (m : Nat) : List Nat := (List.range m).filter fun i => (hue r i).isNone
def q_Search_narrowest (cSearch : Addr) : PSp := fun ds P => ∃ ts r h, ds = [searchD cSearch ts h, rowD r] ∧ r.length = ts.length ∧ ts.length ≤ 16 ∧ h ≤ 1000 ∧ ((∀ i, i < ts.length → hue r i ≠ none) → P .non) ∧ ∀ i, i < ts.length → hue r i = none → P (nat i)
theorem ok_Search_narrowest (T : Tx K mg) (TSearch : TcSearch K cSearch) (L : LoM K cSearch "narrowest" "Search.narrowest" S_Search_narrowest) (m_free : CalleeM P w K mg base k cSearch "free_hues" (q_Search_free_hues cSearch)) : CalleeM P w K mg base (k + 1) cSearch "narrowest" (q_Search_narrowest cSearch) := by
  refine mk_calleeM L sc_Search_narrowest b_Search_narrowest (fun tw => d_Search_narrowest T TSearch m_free) (fun ds P ⟨ts, r, hh, e, _⟩ => by rw [e]; rfl) fun ds P ⟨ts, r, hh, e, hr, t16, hz, hnon, hsome⟩ => ?_
  subst e
  unfold k_Search_narrowest
  walk_at "vc"
  intro p0
  refine for_rng r.length (fun i => .tup [nat i, hueD (hue r i)]) (fun Q hQ => ?_) (fun j ρ => ∃ s3 s4, ρ = [.p (searchD cSearch ts hh), .p (rowD r), .o p0 ((bares r j).map (bareD ts r hh)), s3, s4]) ⟨_, _, rfl⟩ (fun i ρ' hi ⟨s3, s4, e⟩ => ?_) fun ρ' ⟨s3, s4, e⟩ => ?_
  · walk_at "vc"
    rw [enum_map r hueD none]
    exact hQ
  · subst e
    have hi2 : i < ts.length := by omega
    have bl : (bares r i).length ≤ i := by
      have := List.length_filter_le (fun i => (hue r i).isNone) (List.range i)
      rw [List.length_range] at this
      exact this
    have bs : bares r (i + 1) = if (hue r i).isNone = true then bares r i ++ [i] else bares r i := filter_range_succ ..
    walk_at "vc"
    cases hc : hue r i with
    | some c =>
      rw [hc] at bs
      rw [bs]
      walk_at "vc"
      first | rfl | exact ⟨_, _, rfl⟩ | skip
    | none =>
      rw [hc] at bs
      rw [bs]
      walk_at "vc"
      refine ⟨by omega, _, _, _, _, rfl, by decide, by decide, ts, r, hh, i, rfl, hr, hi2, hz, ?_⟩
      refine ⟨_, rfl, _, _, _, _, rfl, .inl ⟨rfl, ?_⟩⟩
      unfold nearD
      rw [q_ix_l]
      refine ⟨_, at_near hi2, _, rfl, ?_⟩
      rw [if_pos (show (none : Option Nat).isNone = true from rfl), List.map_append, List.length_map, List.length_map]
      rfl
  · subst e
    rw [hr]
    walk_at "vc"
    by_cases hl : 0 < (bares r ts.length).length
    · rw [if_pos (by omega)]
      refine ⟨(bares r ts.length).map fun i => [((freeOf ts r hh i).length : Int), -((nearOf ts i).length : Int), (i : Int)], ?_, by rw [List.length_map]; exact hl, fun ns hns => ?_⟩
      · rw [List.map_map]; rfl
      · obtain ⟨i, hi, rfl⟩ := List.mem_map.mp hns
        obtain ⟨h1, h2⟩ := List.mem_filter.mp hi
        walk_at "vc"
        exact hsome i (List.mem_range.mp h1) (Option.isNone_iff_eq_none.mp h2)
    · rw [if_neg (by omega)]
      have e : bares r ts.length = [] := List.length_eq_zero_iff.mp (by omega)
      refine hnon fun i hi hn => ?_
      have : i ∈ bares r ts.length := List.mem_filter.mpr ⟨List.mem_range.mpr hi, by rw [hn]; rfl⟩
      rw [e] at this; cases this
end
end U
set_option Elab.async false
set_option linter.all false
set_option maxRecDepth 100000
set_option maxHeartbeats 1000000
namespace U
open PySem PySem.Spec PyProof.Rows L2
local macro_rules | `(tactic| walk_at "vc") => `(tactic| (first | simp only [hueD_n, hueD_s, kOoNew, kOoApp, Slot.oo.injEq, c_0, c_1, c_2, c_3, eq_self, kLenSet, kFldC, kMeth, kOwn, kApp, kExt, kIns, kPop, kPut, kAugA, kPar, kDk0, kDk1, kDkPut, kDt0, kDtPut, kUpd, kInDk, kInDt, kSorted, kTapeSet, kSwap, kCount, kIndex, kLstR, kCallF, kBinF, catP, listP, max2P, min2P, intBP, absP, tupleP, Slot.dk.injEq, Slot.dt.injEq, reduceCtorEq, false_and, exists_false, and_assoc, lenP, seq_l, seq_t, seq_s, natsD, natsT, rowD, num_nat, Nat.reduceLeDiff, inP, ninP, ni_i, ni_n, ni_hue, eqN_ih, eqN_ii, eqN_nn, eqN_ni, eqN_in, any_nats', any_hues_n, any_hues_i, all_ni, all_niH, beq_nat, List.all_cons, List.all_nil, List.any_cons, List.any_nil, Bool.or_false, Bool.and_true, Bool.true_and, at0, at1, at2, at3, kSl, koN, koS, slP, kItET, kItE, kItS, kItR1, kItR2, kItZ, kItZM, webD, nat, tieD, le0, lt_nat, le_nat, eq_nat, decide_true, decide_false, decide_eq_true_eq, kSeq, kNext, kRet, kSet, kDrop, kTgt, ksIf, kVar, kVarB, rdB_p, rdB_o, kC, kBin, kF, q_add_ii, q_add_ll, q_add_tt, q_sub_ii, q_mul_ii, q_mul_li, q_mod_ii, q_fdiv_ii, q_pow_ii, q_ix_l, q_ix_t, q_ix_s, q_ix_tp, q_ii, q_is_bb, q_is_n, q_nis_bb, q_nis_n, q_eq_ii, q_eq_ni, q_eq_in, q_eq_nn, q_eq_ss, q_eq_tt, q_eq_ll, q_isN_n, q_isN_i, q_isN_t, q_isN_l, q_isN_b, kNeg, kCmp, kCmpT, kChain, kBo, neP, kAnd, kOr, kNot, tkAnd, tkOr, tkNot, tkV, kIf, kNil, kCons, kTup, kLst, kCall, kIsi, gkName, gkTup, gkCons, gkNil, tkYes, relP, kRel, wipeP, startP, List.map_cons, List.map_nil, List.length_cons, List.length_nil, List.replicate_succ, List.replicate_zero, List.cons_append, List.nil_append, List.append_nil, Nat.reduceSub, Nat.reduceAdd, Nat.sub_self, List.getElem?_cons_zero, List.getElem?_cons_succ, List.getElem?_nil, List.set_cons_zero, List.set_cons_succ, List.set_nil, Option.some.injEq, Slot.p.injEq, Slot.o.injEq, D.tup.injEq, D.lst.injEq, D.int.injEq, D.bl.injEq, D.str.injEq, exists_eq_left', exists_eq_left, exists_eq_right, exists_eq_right', exists_and_left, exists_eq', exists_eq, and_true, true_and, Bool.not_true, Bool.not_false, if_true, if_false, Bool.false_eq_true, ite_true, ite_false, reduceIte, List.cons.injEq, List.length_map] | skip))
section
variable {P : Program} {w : World} {K : PySem.W.Frag} {mg : Str → Option Value} {base : Heap} {k : Nat} {cSearch : Addr}
/-! ### goes_on -/
def Below (ts : List Tie) (r : List (Option Nat)) (h : Nat) : Prop := Proper ts r ∧ ∀ i c, i < ts.length → hue r i = some c → c < h
def Matches (r : List (Option Nat)) (way : Way) : Prop := ∀ i c, (i, c) ∈ way ↔ hue r i = some c
def nBare (r : List (Option Nat)) : Nat := (bares r r.length).length
def TreeFor (ts : List Tie) (r : List (Option Nat)) (h b : Nat) (d : D) : Prop := ∀ f, b ≤ f → TreeD f d ∧ ∀ way, Matches r way → isT ts h f way d = true
def q_Search_goes_on (cSearch : Addr) (b : Nat) : PSp := fun ds P => ∃ n ts r h, ds = [searchD cSearch ts h, rowD r] ∧ Web n ts ∧ Below ts r h ∧ h ≤ 1000 ∧ nBare r ≤ b ∧ (∀ r', Whole ts r' h → P (.tup [rowD r', .non])) ∧ ∀ d, TreeFor ts r h b d → P (.tup [.non, d])
theorem hue_set {r : List (Option Nat)} {i j c : Nat} (h : i < r.length) : hue (r.set i (some c)) j = if j = i then some c else hue r j := by
  show (r.set i (some c)).getD j none = _
  rw [List.getD_eq_getElem?_getD, List.getElem?_set]
  by_cases e : j = i
  · rw [if_pos e.symm, if_pos h, if_pos e]; rfl
  · rw [if_neg (Ne.symm e), if_neg e]
    show _ = r.getD j none
    rw [List.getD_eq_getElem?_getD]
theorem open_mem {ts : List Tie} {r : List (Option Nat)} {h i c : Nat} (hc : c ∈ openOf ts r h i) : c < h ∧ ∀ j, j < ts.length → j ≠ i → meet (tie ts j) (tie ts i) = true → hue r j ≠ some c := by
  have h1 := (List.mem_filter.mp hc).1
  obtain ⟨h2, h3⟩ := List.mem_filter.mp h1
  refine ⟨List.mem_range.mp h2, fun j hj hne hm e => ?_⟩
  rw [Bool.not_eq_true', ← Bool.not_eq_true, List.contains_iff_mem] at h3
  refine h3 (List.mem_map.mpr ⟨j, List.mem_filter.mpr ⟨List.mem_range.mpr hj, ?_⟩, e⟩)
  rw [hm, Bool.and_true, Bool.not_eq_true', beq_eq_false_iff_ne]
  exact hne
theorem below_set {ts : List Tie} {r : List (Option Nat)} {h i c : Nat} (hb : Below ts r h) (hi : i < ts.length) (hc : c ∈ openOf ts r h i) : Below ts (r.set i (some c)) h := by
  obtain ⟨c1, c2⟩ := open_mem hc
  have hil : i < r.length := by rw [hb.1.1]; exact hi
  refine ⟨⟨by rw [List.length_set]; exact hb.1.1, fun x y e hxy hy h1 h2 => ?_⟩, fun x e hx h1 => ?_⟩
  · rw [hue_set hil] at h1 h2
    by_cases e1 : x = i
    · rw [if_pos e1] at h1
      rw [if_neg (by omega)] at h2
      cases h1
      refine Bool.eq_false_iff.mpr fun z => c2 y hy (by omega) ?_ h2
      rw [meet_symm, ← e1]; exact z
    · rw [if_neg e1] at h1
      by_cases e2 : y = i
      · rw [if_pos e2] at h2
        cases h2
        refine Bool.eq_false_iff.mpr fun z => c2 x (by omega) e1 ?_ h1
        rw [← e2]; exact z
      · rw [if_neg e2] at h2
        exact hb.1.2 x y e hxy hy h1 h2
  · rw [hue_set hil] at h1
    by_cases e1 : x = i
    · rw [if_pos e1] at h1; cases h1; exact c1
    · rw [if_neg e1] at h1; exact hb.2 x e hx h1
theorem bare_set {r : List (Option Nat)} {i c : Nat} (h : i < r.length) (hn : hue r i = none) : nBare (r.set i (some c)) + 1 ≤ nBare r := by
  unfold nBare bares
  rw [List.length_set]
  have := List.Nodup.length_le_of_subset (l₁ := i :: (List.range r.length).filter fun j => (hue (r.set i (some c)) j).isNone) (l₂ := (List.range r.length).filter fun j => (hue r j).isNone) ?_ ?_
  · rw [List.length_cons] at this; exact this
  · refine List.nodup_cons.mpr ⟨fun z => ?_, nd_filter List.nodup_range _⟩
    have := (List.mem_filter.mp z).2
    rw [hue_set h, if_pos rfl] at this
    cases this
  · intro j hj
    rcases List.mem_cons.mp hj with e | hj
    · rw [e]; exact List.mem_filter.mpr ⟨List.mem_range.mpr h, by rw [hn]; rfl⟩
    · obtain ⟨h1, h2⟩ := List.mem_filter.mp hj
      rw [hue_set h] at h2
      by_cases e : j = i
      · rw [if_pos e] at h2; cases h2
      · rw [if_neg e] at h2; exact List.mem_filter.mpr ⟨h1, h2⟩
theorem range_min (h q : Nat) : (List.range h).filter (fun c => decide (c < q)) = List.range (min h q) := by
  induction h with
  | zero => rw [Nat.zero_min]; rfl
  | succ h ih =>
    rw [List.range_succ, filter_snoc, ih]
    by_cases e : h < q
    · rw [if_pos (decide_eq_true e), show min (h + 1) q = min h q + 1 by omega, List.range_succ, show min h q = h by omega]
    · rw [if_neg (by simp; omega), show min (h + 1) q = min h q by omega]
theorem met_match {r : List (Option Nat)} {way : Way} (hm : Matches r way) : met way = (dedup (dhues r)).length := by
  have e : ∀ x, x ∈ dedup (way.map (·.2)) ↔ x ∈ dedup (dhues r) := fun x => by
    rw [mem_dedup, mem_dedup]
    unfold dhues
    rw [List.mem_map, List.mem_filterMap]
    constructor
    · rintro ⟨⟨i, c⟩, h1, rfl⟩
      have := (hm i c).mp h1
      refine ⟨some c, ?_, rfl⟩
      unfold hue at this
      rw [List.getD_eq_getElem?_getD] at this
      cases hx : r[i]? with
      | none => rw [hx] at this; cases this
      | some y => rw [hx] at this; exact List.mem_of_getElem? (by rw [hx, ← this]; rfl)
    · rintro ⟨y, h1, h2⟩
      obtain ⟨i, hi⟩ := List.mem_iff_getElem?.mp h1
      refine ⟨(i, x), (hm i x).mpr ?_, rfl⟩
      unfold hue
      rw [List.getD_eq_getElem?_getD, hi]
      exact h2
  exact ((List.perm_ext_iff_of_nodup (nd_dedup _) (nd_dedup _)).mpr e).length_eq
theorem open_try {ts : List Tie} {r : List (Option Nat)} {way : Way} {h i : Nat} (hr : r.length = ts.length) (hm : Matches r way) (hn : hue r i = none) : huesToTry ts h way i = openOf ts r h i := by
  unfold huesToTry openOf freeOf
  rw [met_match hm, ← range_min, List.filter_filter, List.filter_filter]
  refine List.filter_congr fun c _ => ?_
  have e : (taken ts way i).contains c = ((nearOf ts i).map (hue r)).contains (some c) := by
    rw [Bool.eq_iff_iff, List.contains_iff_mem, List.contains_iff_mem]
    unfold taken nearOf
    rw [List.mem_map, List.mem_map]
    constructor
    · rintro ⟨⟨j, d⟩, h1, rfl⟩
      obtain ⟨h1, h2⟩ := List.mem_filter.mp h1
      have h3 := (hm j d).mp h1
      have hj : j < ts.length := by
        refine Classical.byContradiction fun z => ?_
        unfold hue at h3
        rw [List.getD_eq_getElem?_getD, List.getElem?_eq_none (by omega)] at h3
        cases h3
      refine ⟨j, List.mem_filter.mpr ⟨List.mem_range.mpr hj, ?_⟩, h3⟩
      have hji : j ≠ i := fun e => by rw [e, hn] at h3; cases h3
      rw [show (j == i) = false from beq_eq_false_iff_ne.mpr hji, h2]; rfl
    · rintro ⟨j, h1, h2⟩
      obtain ⟨h1, h3⟩ := List.mem_filter.mp h1
      rw [Bool.and_eq_true] at h3
      exact ⟨(j, c), List.mem_filter.mpr ⟨(hm j c).mpr h2, h3.2⟩, rfl⟩
  rw [e, Bool.and_comm]
  congr 1
  exact decide_eq_decide.mpr (by omega)
theorem cut_to {xs : List D} {i : Nat} (h : i ≤ xs.length) : cutD xs none (some (i : Int)) = xs.take i := by
  unfold cutD
  rw [HT.sIx_none, HT.sIx_nat, List.drop_zero, Nat.sub_zero, Nat.min_eq_left h]
theorem cut_from {xs : List D} {i : Nat} (h : i + 1 ≤ xs.length) : cutD xs (some ((i : Int) + 1)) none = xs.drop (i + 1) := by
  unfold cutD
  rw [HT.sIx_none, show (i : Int) + 1 = ((i + 1 : Nat) : Int) from rfl, HT.sIx_nat, Nat.min_eq_left h, List.take_of_length_le (by rw [List.length_drop]; exact Nat.le_refl _)]
theorem set_cut {r : List (Option Nat)} {i c : Nat} (h : i < r.length) : (r.map hueD).take i ++ [D.int (c : Int)] ++ (r.map hueD).drop (i + 1) = (r.set i (some c)).map hueD := by
  rw [List.set_eq_take_append_cons_drop, if_pos h, List.map_append, List.map_cons, List.map_take, List.map_drop, List.append_assoc]; rfl
theorem matches_set {r : List (Option Nat)} {way : Way} {i c : Nat} (hm : Matches r way) (h : i < r.length) (hn : hue r i = none) : Matches (r.set i (some c)) (way ++ [(i, c)]) := by
  intro j d
  rw [List.mem_append, hm, hue_set h, List.mem_singleton]
  by_cases e : j = i
  · subst e
    rw [if_pos rfl, hn]
    constructor
    · rintro (z | z)
      · cases z
      · cases z; rfl
    · intro z; cases z; exact .inr rfl
  · rw [if_neg e]
    constructor
    · rintro (z | z)
      · exact z
      · cases z; exact absurd rfl e
    · exact .inl
theorem ok_Search_goes_on (T : Tx K mg) (TSearch : TcSearch K cSearch) (L : LoM K cSearch "goes_on" "Search.goes_on" S_Search_goes_on) (b : Nat) (m_narrowest : CalleeM P w K mg base (k + b) cSearch "narrowest" (q_Search_narrowest cSearch)) (m_open : CalleeM P w K mg base (k + b) cSearch "open_hues" (q_Search_open_hues cSearch)) {q' : PSp} (hq' : ∀ ds P, b ≠ 0 → q_Search_goes_on cSearch (b - 1) ds P → q' ds P) (ih0 : CalleeM P w K mg base (k + b) cSearch "goes_on" q') : CalleeM P w K mg base (k + b + 1) cSearch "goes_on" (q_Search_goes_on cSearch b) := by
  refine mk_calleeM L sc_Search_goes_on b_Search_goes_on (fun tw => d_Search_goes_on T TSearch m_narrowest m_open ih0) (fun ds P ⟨n, ts, r, hh, e, _⟩ => by rw [e]; rfl) fun ds P ⟨n, ts, r, hh, e, W, hb, hz, hnb, hwhole, htree⟩ => ?_
  subst e
  have t16 := W.t16
  unfold k_Search_goes_on
  walk_at "vc"
  refine ⟨_, _, _, _, rfl, by decide, by decide, ts, r, hh, rfl, hb.1.1, t16, hz, fun hall => ?_, fun i hi hn => ?_⟩
  · walk_at "vc"
    refine hwhole r ⟨hb.1, fun i hi => ?_⟩
    cases hc : hue r i with
    | none => exact absurd hc (hall i hi)
    | some c => exact ⟨c, rfl, hb.2 i c hi hc⟩
  · walk_at "vc"
    intro p0
    refine for_map (openOf ts r hh i) nat (fun Q hQ => ?_) (fun j ρ => ∃ (ds : List D) (s4 s5 s6 : Slot), ds.length = j ∧ (∀ (x : Nat) c d, (openOf ts r hh i)[x]? = some c → ds[x]? = some d → TreeFor ts (r.set i (some c)) hh (b - 1) d) ∧ ρ = [.p (searchD cSearch ts hh), .p (rowD r), .p (nat i), .o p0 ds, s4, s5, s6]) ⟨[], _, _, _, rfl, fun _ _ _ _ z => (by simp at z), rfl⟩ (fun j c ρ' hc ⟨ds, s4, s5, s6, hl, hds, e⟩ => ?_) fun ρ' ⟨ds, s4, s5, s6, hl, hds, e⟩ => ?_
    · walk_at "vc"
      refine ⟨_, _, _, _, rfl, by decide, by decide, ts, r, hh, i, rfl, hb.1.1, hi, t16, hz, ?_⟩
      walk_at "vc"
      exact hQ
    · subst e
      unfold kTgt
      walk_at "vc"
      have hil : i < r.length := by rw [hb.1.1]; exact hi
      refine ⟨_, _, _, _, rfl, by decide, by decide, ?_⟩
      rw [cut_to (by rw [List.length_map]; omega), cut_from (by rw [List.length_map]; omega), set_cut hil]
      have sz : sizeLine = 16777216 := rfl
      have hb0 : b ≠ 0 := by have := bare_set (c := c) hil hn; omega
      refine ⟨?_, ?_, hq' _ _ hb0 ⟨n, ts, r.set i (some c), hh, rfl, W, ?_, hz, ?_, fun r' hw => ?_, fun d hd => ?_⟩⟩
      · rw [List.length_take, List.length_map, sz, hb.1.1]; omega
      · rw [List.length_append, List.length_take, List.length_drop, List.length_map, List.length_singleton, sz, hb.1.1]; omega
      · exact below_set hb hi (List.mem_of_getElem? hc)
      · have := bare_set (c := c) hil hn; omega
      · refine ⟨_, rfl, rfl, _, _, rfl, _, _, rfl, rfl, ?_⟩
        walk_at "vc"
        exact hwhole r' hw
      · refine ⟨_, rfl, rfl, _, _, rfl, _, _, rfl, rfl, ?_⟩
        walk_at "vc"
        have hcl := (List.getElem?_eq_some_iff.mp hc).1
        refine ⟨by have := List.length_filter_le (fun c => decide (c ≤ (dedup (dhues r)).length)) (freeOf ts r hh i); have := List.length_filter_le (fun c => !((nearOf ts i).map (hue r)).contains (some c)) (List.range hh); rw [List.length_range] at this; unfold openOf at hcl; unfold freeOf at *; omega, ds ++ [d], by rw [List.length_append, List.length_singleton, hl], fun x c2 d2 h1 h2 => ?_, rfl⟩
        by_cases hx : x < ds.length
        · rw [List.getElem?_append_left hx] at h2
          exact hds x c2 d2 h1 h2
        · have hxe : x = j := by
            have := (List.getElem?_eq_some_iff.mp h2).1
            rw [List.length_append, List.length_singleton] at this
            omega
          subst hxe
          rw [hc] at h1
          cases h1
          rw [List.getElem?_append_right (by omega), hl, Nat.sub_self] at h2
          cases h2
          exact hd
    · subst e
      walk_at "vc"
      have hil : i < r.length := by rw [hb.1.1]; exact hi
      refine htree _ fun f hf => ?_
      have := bare_set (c := 0) hil hn
      obtain ⟨f', rfl⟩ : ∃ f', f = f' + 1 := ⟨f - 1, by omega⟩
      have at_ : ∀ x, x < ds.length → TreeFor ts (r.set i (some ((openOf ts r hh i).getD x 0))) hh (b - 1) (ds.getD x .non) := fun x hx => hds x _ _ (by rw [List.getD_eq_getElem?_getD, List.getElem?_eq_getElem (by omega)]; rfl) (by rw [List.getD_eq_getElem?_getD, List.getElem?_eq_getElem hx]; rfl)
      refine ⟨⟨i, ds, rfl, ?_, fun d hd => ?_⟩, fun way hm => ?_⟩
      · have := List.length_filter_le (fun c => decide (c ≤ (dedup (dhues r)).length)) (freeOf ts r hh i); have := List.length_filter_le (fun c => !((nearOf ts i).map (hue r)).contains (some c)) (List.range hh); rw [List.length_range] at this; unfold openOf at hl; unfold freeOf at *; omega
      · obtain ⟨x, hx, e⟩ := List.mem_iff_getElem.mp hd
        have := (at_ x hx f' (by omega)).1
        rw [List.getD_eq_getElem?_getD, List.getElem?_eq_getElem hx] at this
        rw [← e]; exact this
      · show isT ts hh (f' + 1) way (.tup [nat i, .tup ds]) = true
        rw [isT_at, open_try hb.1.1 hm hn, decide_eq_true hi, decide_eq_true hl, Bool.true_and, Bool.and_true, Bool.and_eq_true]
        refine ⟨?_, List.all_eq_true.mpr fun x hx => ?_⟩
        · rw [Bool.not_eq_true', ← Bool.not_eq_true, List.contains_iff_mem]
          intro z
          obtain ⟨⟨j, c⟩, h1, rfl⟩ := List.mem_map.mp z
          have := (hm j c).mp h1
          rw [hn] at this; cases this
        · have hx := List.mem_range.mp hx
          exact (at_ x hx f' (by omega)).2 _ (matches_set hm hil hn)
theorem ok_goes_all (T : Tx K mg) (TSearch : TcSearch K cSearch) (L : LoM K cSearch "goes_on" "Search.goes_on" S_Search_goes_on) (m_narrowest : CalleeM P w K mg base k cSearch "narrowest" (q_Search_narrowest cSearch)) (m_open : CalleeM P w K mg base k cSearch "open_hues" (q_Search_open_hues cSearch)) : ∀ b, CalleeM P w K mg base (k + b + 1) cSearch "goes_on" (q_Search_goes_on cSearch b)
  | 0 => ok_Search_goes_on T TSearch L 0 m_narrowest m_open (q' := q_no) (fun _ _ h => absurd rfl h) (by
    obtain ⟨f, fd, h1, F⟩ := L.ex
    exact ⟨f, fd, ["self", "row"], h1, b_Search_goes_on F, ⟨fun vs H Q E ⟨_, _, ds, _, _, _, _, _, z, _⟩ => z.elim, fun A outer s H args us vs Q E _ _ _ _ ⟨_, _, ds, _, _, _, _, _, z, _⟩ => z.elim⟩⟩)
  | b + 1 => ok_Search_goes_on T TSearch L (b + 1) (m_narrowest.mono (by omega)) (m_open.mono (by omega)) (q' := q_Search_goes_on cSearch b) (fun _ _ _ h => h) (ok_goes_all T TSearch L m_narrowest m_open b)
end
end U
set_option Elab.async false
set_option linter.all false
set_option maxRecDepth 100000
set_option maxHeartbeats 1000000
namespace U
open PySem PySem.Spec PyProof.Rows L2
local macro_rules | `(tactic| walk_at "vc") => `(tactic| (first | simp only [hueD_n, hueD_s, kOoNew, kOoApp, Slot.oo.injEq, c_0, c_1, c_2, c_3, eq_self, kLenSet, kFldC, kMeth, kOwn, kApp, kExt, kIns, kPop, kPut, kAugA, kPar, kDk0, kDk1, kDkPut, kDt0, kDtPut, kUpd, kInDk, kInDt, kSorted, kTapeSet, kSwap, kCount, kIndex, kLstR, kCallF, kBinF, catP, listP, max2P, min2P, intBP, absP, tupleP, Slot.dk.injEq, Slot.dt.injEq, reduceCtorEq, false_and, exists_false, and_assoc, lenP, seq_l, seq_t, seq_s, natsD, natsT, rowD, num_nat, Nat.reduceLeDiff, inP, ninP, ni_i, ni_n, ni_hue, eqN_ih, eqN_ii, eqN_nn, eqN_ni, eqN_in, any_nats', any_hues_n, any_hues_i, all_ni, all_niH, beq_nat, List.all_cons, List.all_nil, List.any_cons, List.any_nil, Bool.or_false, Bool.and_true, Bool.true_and, at0, at1, at2, at3, kSl, koN, koS, slP, kItET, kItE, kItS, kItR1, kItR2, kItZ, kItZM, webD, nat, tieD, le0, lt_nat, le_nat, eq_nat, decide_true, decide_false, decide_eq_true_eq, kSeq, kNext, kRet, kSet, kDrop, kTgt, ksIf, kVar, kVarB, rdB_p, rdB_o, kC, kBin, kF, q_add_ii, q_add_ll, q_add_tt, q_sub_ii, q_mul_ii, q_mul_li, q_mod_ii, q_fdiv_ii, q_pow_ii, q_ix_l, q_ix_t, q_ix_s, q_ix_tp, q_ii, q_is_bb, q_is_n, q_nis_bb, q_nis_n, q_eq_ii, q_eq_ni, q_eq_in, q_eq_nn, q_eq_ss, q_eq_tt, q_eq_ll, q_isN_n, q_isN_i, q_isN_t, q_isN_l, q_isN_b, kNeg, kCmp, kCmpT, kChain, kBo, neP, kAnd, kOr, kNot, tkAnd, tkOr, tkNot, tkV, kIf, kNil, kCons, kTup, kLst, kCall, kIsi, gkName, gkTup, gkCons, gkNil, tkYes, relP, kRel, wipeP, startP, List.map_cons, List.map_nil, List.length_cons, List.length_nil, List.replicate_succ, List.replicate_zero, List.cons_append, List.nil_append, List.append_nil, Nat.reduceSub, Nat.reduceAdd, Nat.sub_self, List.getElem?_cons_zero, List.getElem?_cons_succ, List.getElem?_nil, List.set_cons_zero, List.set_cons_succ, List.set_nil, Option.some.injEq, Slot.p.injEq, Slot.o.injEq, D.tup.injEq, D.lst.injEq, D.int.injEq, D.bl.injEq, D.str.injEq, exists_eq_left', exists_eq_left, exists_eq_right, exists_eq_right', exists_and_left, exists_eq', exists_eq, and_true, true_and, Bool.not_true, Bool.not_false, if_true, if_false, Bool.false_eq_true, ite_true, ite_false, reduceIte, List.cons.injEq, List.length_map] | skip))
section
variable {P : Program} {w : World} {K : PySem.W.Frag} {mg : Str → Option Value} {base : Heap} {k : Nat} {cSearch : Addr}
/-! ### paper_by_place -/
def q_paper_by_place : PSp := fun ds P => ∃ n ts, ds = [webD n ts] ∧ Web n ts ∧ (IsMost n ts 0 → P .non) ∧ ∀ m, IsMost n ts m → m ≠ 0 → ∀ p, p < n → (tiesAt ts p).length = m → P (papD (.place p))
theorem ok_paper_by_place (T : Tx K mg) (L : Lo K mg "paper_by_place" S_paper_by_place) (c_most_at : Callee P w K mg base k "most_at" q_most_at) (c_count_at : Callee P w K mg base k "count_at" q_count_at) : Callee P w K mg base (k + 1) "paper_by_place" q_paper_by_place := by
  refine mk_callee L sc_paper_by_place b_paper_by_place (fun tw => d_paper_by_place T c_most_at c_count_at) (fun ds P ⟨n, ts, e, _⟩ => by rw [e]; rfl) fun ds P ⟨n, ts, e, W, h0, h1⟩ => ?_
  subst e
  have n12 := W.n12
  unfold k_paper_by_place
  walk_at "vc"
  refine ⟨n, ts, rfl, W, fun m hm => ?_⟩
  walk_at "vc"
  by_cases hz : m = 0
  · subst hz
    rw [if_pos (show ((0 : Nat) : Int) = 0 from rfl)]
    exact h0 hm
  · rw [if_neg (by omega)]
    refine lc_rng n nat (fun Q hQ => ?_) (fun p => decide ((tiesAt ts p).length = m)) nat (fun p hp Q A a1 a2 => ?_) ?_
    · walk_at "vc"
      exact ⟨by omega, by omega, by rw [rng_nat]; exact hQ⟩
    · walk_at "vc"
      refine ⟨n, ts, p, rfl, hp, ?_⟩
      walk_at "vc"
      split
      · exact a1 (decide_eq_true (by assumption))
      · exact a2 (decide_eq_false (by assumption))
    · have hm2 := hm.1
      obtain ⟨p, hp, e⟩ : ∃ p, p < n ∧ (tiesAt ts p).length = m := hm2.elim (fun z => absurd z.2 hz) id
      have hpm : p ∈ (List.range n).filter fun p => decide ((tiesAt ts p).length = m) := List.mem_filter.mpr ⟨List.mem_range.mpr hp, decide_eq_true e⟩
      cases hf : (List.range n).filter fun p => decide ((tiesAt ts p).length = m) with
      | nil => rw [hf] at hpm; cases hpm
      | cons q qs =>
        have hq : q ∈ (List.range n).filter fun p => decide ((tiesAt ts p).length = m) := by rw [hf]; exact List.mem_cons_self ..
        obtain ⟨q1, q2⟩ := List.mem_filter.mp hq
        refine ⟨nat q, at0, ?_⟩
        exact h1 m hm hz q (List.mem_range.mp q1) (of_decide_eq_true q2)
/-! ### paper_by_set -/
def setO : Option (List Nat) → D
  | none => .non
  | some S => natsT S
def q_full_set : PSp := fun ds P => ∃ n ts h, ds = [webD n ts, nat h] ∧ Web n ts ∧ h < ts.length ∧ (∀ p, p < n → (tiesAt ts p).length ≤ h) ∧ P .non ∧ ∀ S, fullSet n ts h S = true → P (natsT S)
def q_paper_by_set : PSp := fun ds P => ∃ n ts h, ds = [webD n ts, nat h] ∧ Web n ts ∧ (∀ p, p < n → (tiesAt ts p).length ≤ h) ∧ P .non ∧ ∀ S, fullSet n ts h S = true → P (papD (.set S))
theorem ok_paper_by_set (T : Tx K mg) (L : Lo K mg "paper_by_set" S_paper_by_set) (c_full_set : Callee P w K mg base k "full_set" q_full_set) : Callee P w K mg base (k + 1) "paper_by_set" q_paper_by_set := by
  refine mk_callee L sc_paper_by_set b_paper_by_set (fun tw => d_paper_by_set T c_full_set) (fun ds P ⟨n, ts, hh, e, _⟩ => by rw [e]; rfl) fun ds P ⟨n, ts, hh, e, W, hm, h0, h1⟩ => ?_
  subst e
  unfold k_paper_by_set
  walk_at "vc"
  by_cases hl : ts.length ≤ hh
  · rw [if_pos (by first | exact hl | omega)]
    exact h0
  · rw [if_neg (by first | exact hl | omega)]
    refine ⟨n, ts, hh, rfl, W, by omega, hm, ?_, fun S hS => ?_⟩
    · walk_at "vc"
      exact h0
    · unfold natsT
      walk_at "vc"
      exact h1 S hS
end
end U
set_option Elab.async false
set_option linter.all false
set_option maxRecDepth 100000
set_option maxHeartbeats 1000000
namespace U
open PySem PySem.Spec PyProof.Rows L2
local macro_rules | `(tactic| walk_at "vc") => `(tactic| (first | simp only [hueD_n, hueD_s, kOoNew, kOoApp, Slot.oo.injEq, c_0, c_1, c_2, c_3, eq_self, kLenSet, kFldC, kMeth, kOwn, kApp, kExt, kIns, kPop, kPut, kAugA, kPar, kDk0, kDk1, kDkPut, kDt0, kDtPut, kUpd, kInDk, kInDt, kSorted, kTapeSet, kSwap, kCount, kIndex, kLstR, kCallF, kBinF, catP, listP, max2P, min2P, intBP, absP, tupleP, Slot.dk.injEq, Slot.dt.injEq, reduceCtorEq, false_and, exists_false, and_assoc, lenP, seq_l, seq_t, seq_s, natsD, natsT, rowD, num_nat, Nat.reduceLeDiff, inP, ninP, ni_i, ni_n, ni_hue, eqN_ih, eqN_ii, eqN_nn, eqN_ni, eqN_in, any_nats', any_hues_n, any_hues_i, all_ni, all_niH, beq_nat, List.all_cons, List.all_nil, List.any_cons, List.any_nil, Bool.or_false, Bool.and_true, Bool.true_and, at0, at1, at2, at3, kSl, koN, koS, slP, kItET, kItE, kItS, kItR1, kItR2, kItZ, kItZM, webD, nat, tieD, le0, lt_nat, le_nat, eq_nat, decide_true, decide_false, decide_eq_true_eq, kSeq, kNext, kRet, kSet, kDrop, kTgt, ksIf, kVar, kVarB, rdB_p, rdB_o, kC, kBin, kF, q_add_ii, q_add_ll, q_add_tt, q_sub_ii, q_mul_ii, q_mul_li, q_mod_ii, q_fdiv_ii, q_pow_ii, q_ix_l, q_ix_t, q_ix_s, q_ix_tp, q_ii, q_is_bb, q_is_n, q_nis_bb, q_nis_n, q_eq_ii, q_eq_ni, q_eq_in, q_eq_nn, q_eq_ss, q_eq_tt, q_eq_ll, q_isN_n, q_isN_i, q_isN_t, q_isN_l, q_isN_b, kNeg, kCmp, kCmpT, kChain, kBo, neP, kAnd, kOr, kNot, tkAnd, tkOr, tkNot, tkV, kIf, kNil, kCons, kTup, kLst, kCall, kIsi, gkName, gkTup, gkCons, gkNil, tkYes, relP, kRel, wipeP, startP, List.map_cons, List.map_nil, List.length_cons, List.length_nil, List.replicate_succ, List.replicate_zero, List.cons_append, List.nil_append, List.append_nil, Nat.reduceSub, Nat.reduceAdd, Nat.sub_self, List.getElem?_cons_zero, List.getElem?_cons_succ, List.getElem?_nil, List.set_cons_zero, List.set_cons_succ, List.set_nil, Option.some.injEq, Slot.p.injEq, Slot.o.injEq, D.tup.injEq, D.lst.injEq, D.int.injEq, D.bl.injEq, D.str.injEq, exists_eq_left', exists_eq_left, exists_eq_right, exists_eq_right', exists_and_left, exists_eq', exists_eq, and_true, true_and, Bool.not_true, Bool.not_false, if_true, if_false, Bool.false_eq_true, ite_true, ite_false, reduceIte, List.cons.injEq, List.length_map] | skip))
section
variable {P : Program} {w : World} {K : PySem.W.Frag} {mg : Str → Option Value} {base : Heap} {k : Nat}
/-! ### full_set -/
abbrev Ent := List Nat × Int × Nat
def entD (e : Ent) : D := .tup [natsT e.1, .int e.2.1, nat e.2.2]
def EntOk (ts : List Tie) (j : Nat) (e : Ent) : Prop := e.1.Pairwise (· < ·) ∧ (∀ p ∈ e.1, p < j) ∧ e.2.2 = (withinL ts e.1).length
def lowsOf (ts : List Tie) (p : Nat) : List Nat := (ts.filter fun t => t.2 == p).map (·.1)
theorem rising_of : ∀ {S : List Nat}, S.Pairwise (· < ·) → rising S = true
  | [], _ => rfl
  | [_], _ => rfl
  | a :: b :: r, h => by
    have h1 := List.pairwise_cons.mp h
    show (decide (a < b) && rising (b :: r)) = true
    rw [rising_of h1.2, decide_eq_true (h1.1 b (List.mem_cons_self ..))]; rfl
theorem within_one {n : Nat} {ts : List Tie} (W : Web n ts) (p : Nat) : withinL ts [p] = [] := by
  refine List.eq_nil_iff_forall_not_mem.mpr fun i hi => ?_
  obtain ⟨h1, h2⟩ := List.mem_filter.mp hi
  have := W.at (List.mem_range.mp h1)
  rw [Bool.and_eq_true, List.contains_iff_mem, List.contains_iff_mem, List.mem_singleton, List.mem_singleton] at h2
  omega
theorem ent_full {n : Nat} {ts : List Tie} {h : Nat} (W : Web n ts) {e : Ent} (he : EntOk ts n e) (h1 : e.1.length % 2 = 1) (h2 : h * (e.1.length / 2) < e.2.2) : fullSet n ts h e.1 = true := by
  obtain ⟨e1, e2, e3⟩ := he
  have h3 : 3 ≤ e.1.length := by
    refine Classical.byContradiction fun z => ?_
    obtain ⟨p, hp⟩ := List.length_eq_one_iff.mp (show e.1.length = 1 by omega)
    rw [e3, hp, within_one W] at h2
    exact absurd h2 (Nat.not_lt_zero _)
  unfold fullSet oddSet
  rw [e3] at h2
  rw [decide_eq_true h3, decide_eq_true h1, decide_eq_true h2, rising_of e1, List.all_eq_true.mpr fun p hp => decide_eq_true (e2 p hp)]; rfl
theorem count_ties (l : List Tie) (q : Tie → Bool) : ((List.range l.length).filter fun i => q (tie l i)).length = l.countP q := by
  have e : l = (List.range l.length).map (tie l) := by
    refine List.ext_getElem (by simp) fun i h1 h2 => ?_
    rw [List.getElem_map, List.getElem_range]
    show _ = l.getD i (0, 0)
    rw [List.getD_eq_getElem?_getD, List.getElem?_eq_getElem h1]; rfl
  conv => rhs; rw [e]
  rw [List.countP_map, List.countP_eq_length_filter]; rfl
theorem within_snoc {S : List Nat} {j : Nat} (hS : ∀ p ∈ S, p < j) : ∀ {ts : List Tie}, (∀ t ∈ ts, t.1 < t.2) → ts.countP (fun t => (S ++ [j]).contains t.1 && (S ++ [j]).contains t.2) = ts.countP (fun t => S.contains t.1 && S.contains t.2) + ((lowsOf ts j).filter fun p => S.contains p).length
  | [], _ => rfl
  | t :: ts, h => by
    have ih := within_snoc hS (ts := ts) fun u hu => h u (List.mem_cons_of_mem _ hu)
    have ht := h t (List.mem_cons_self ..)
    rw [List.countP_cons, List.countP_cons, ih]
    have el : lowsOf (t :: ts) j = (if t.2 == j then [t.1] else []) ++ lowsOf ts j := by
      unfold lowsOf
      rw [List.filter_cons]
      split <;> simp
    rw [el, List.filter_append, List.length_append]
    have c1 : (S ++ [j]).contains t.1 = (S.contains t.1 || t.1 == j) := by
      rw [Bool.eq_iff_iff, List.contains_iff_mem, List.mem_append, List.mem_singleton, Bool.or_eq_true, List.contains_iff_mem, beq_iff_eq]
    have c2 : (S ++ [j]).contains t.2 = (S.contains t.2 || t.2 == j) := by
      rw [Bool.eq_iff_iff, List.contains_iff_mem, List.mem_append, List.mem_singleton, Bool.or_eq_true, List.contains_iff_mem, beq_iff_eq]
    rw [c1, c2]
    have n1 : t.1 = j → S.contains t.2 = false := fun e => Bool.eq_false_iff.mpr fun z => by
      have := hS _ (List.contains_iff_mem.mp z)
      omega
    have n2 : t.2 = j → S.contains t.2 = false := fun e => Bool.eq_false_iff.mpr fun z => by
      have := hS _ (List.contains_iff_mem.mp z)
      omega
    by_cases h2 : t.2 = j
    · have h1 : t.1 ≠ j := by omega
      rw [n2 h2, beq_iff_eq.mpr h2, beq_eq_false_iff_ne.mpr h1]
      cases hc : S.contains t.1
      · simp; intro hx; rw [List.contains_iff_mem.mpr hx] at hc; cases hc
      · simp; 
        have := List.contains_iff_mem.mp hc
        simp [this]; omega
    · rw [beq_eq_false_iff_ne.mpr h2]
      by_cases h1 : t.1 = j
      · rw [n1 h1]; simp
      · rw [beq_eq_false_iff_ne.mpr h1]; simp; omega
theorem ok_full_set (T : Tx K mg) (L : Lo K mg "full_set" S_full_set) (c_count_at : Callee P w K mg base k "count_at" q_count_at) : Callee P w K mg base (k + 1) "full_set" q_full_set := by
  refine mk_callee L sc_full_set b_full_set (fun tw => d_full_set T c_count_at) (fun ds P ⟨n, ts, hh, e, _⟩ => by rw [e]; rfl) fun ds P ⟨n, ts, hh, e, W, hl, hm, h0, h1⟩ => ?_
  subst e
  have n12 := W.n12
  have t16 := W.t16
  unfold k_full_set
  walk_at "vc"
  refine ⟨⟨by omega, by omega⟩, .inl ⟨by decide, by decide⟩, ?_⟩
  intro p0
  generalize (1 + 2 * (((ts.length : Nat) - 1 : Int) / max 1 (hh : Int))) = LO
  refine for_rng n nat (fun Q hQ => ?_) (fun j ρ => ∃ (es : List Ent) (s4 s5 s6 s7 s8 s9 s10 s11 s12 s13 : Slot), (∀ e ∈ es, EntOk ts j e) ∧ es.length ≤ 2 ^ j ∧ ρ = [.p (webD n ts), .p (nat hh), .p (.int LO), .o p0 (es.map entD), s4, s5, s6, s7, s8, s9, s10, s11, s12, s13]) ⟨[([], 0, 0)], _, _, _, _, _, _, _, _, _, _, ?_, Nat.le_refl _, rfl⟩ (fun j ρ' hj ⟨es, s4, s5, s6, s7, s8, s9, s10, s11, s12, s13, hes, hel, e⟩ => ?_) fun ρ' ⟨es, s4, s5, s6, s7, s8, s9, s10, s11, s12, s13, hes, hel, e⟩ => ?_
  · walk_at "vc"
    exact ⟨by omega, by omega, by rw [rng_nat]; exact hQ⟩
  · intro e he
    rw [List.mem_singleton.mp he]
    exact ⟨List.Pairwise.nil, fun _ z => (by cases z), by unfold withinL; rw [List.filter_eq_nil_iff.mpr fun _ _ z => by cases z]; rfl⟩
  · subst e
    walk_at "vc"
    refine lc_map ts tieD (fun Q hQ => ?_) (fun t => t.2 == j) (fun t => nat t.1) (fun t ht Q A a1 a2 => ?_) ?_
    · walk_at "vc"
      exact hQ
    · walk_at "vc"
      split
      · exact a1 (by simp; assumption)
      · exact a2 (by simp; assumption)
    rw [show (ts.filter fun t => t.2 == j).map (fun t => nat t.1) = (lowsOf ts j).map nat from by unfold lowsOf; rw [List.map_map]; rfl]
    intro p1
    refine ⟨n, ts, j, rfl, hj, ?_⟩
    walk_at "vc"
    intro p2
    unfold ksForO
    walk_at "vc"
    refine ⟨fun jj ρ => ∃ (new : List Ent) (s9 s10 s11 s12 s13 : Slot), (∀ e ∈ new, EntOk ts (j + 1) e) ∧ new.length ≤ jj ∧ ρ = [.p (webD n ts), .p (nat hh), .p (.int LO), .o p0 (es.map entD), .p (nat j), s5, .p (natsD (lowsOf ts j)), .p (.int ((hh : Int) - ((tiesAt ts j).length : Int))), .o p2 (new.map entD), s9, s10, s11, s12, s13], ⟨[], _, _, _, _, _, fun _ z => (by cases z), Nat.le_refl _, rfl⟩, fun jj ρ' ⟨new, s9, s10, s11, s12, s13, hn, hnl, e⟩ => (by rw [e]; rfl), fun jj d ρ' hd ⟨new, s9, s10, s11, s12, s13, hn, hnl, e⟩ => ?_, fun ρ' ⟨new, s9, s10, s11, s12, s13, hn, hnl, e⟩ => ?_⟩
    · subst e
      rw [List.getElem?_map] at hd
      cases hx : es[jj]? with
      | none => rw [hx] at hd; cases hd
      | some en =>
        rw [hx] at hd
        cases hd
        have hel2 := (List.getElem?_eq_some_iff.mp hx).1
        have hok := hes en (List.mem_of_getElem? hx)
        refine ⟨_, rfl, rfl, _, _, rfl, _, _, rfl, _, _, rfl, rfl, ?_⟩
        unfold natsT
        walk_at "vc"
        have keepN : ∃ new_1 : List Ent, (∀ e ∈ new_1, EntOk ts (j + 1) e) ∧ new_1.length ≤ jj + 1 ∧ new.map entD = new_1.map entD := ⟨new, hn, by omega, rfl⟩
        have p2 : ∀ m, m ≤ 12 → 2 ^ m ≤ 4096 := fun m hm => Nat.le_trans (Nat.pow_le_pow_right (by decide) hm) (by decide)
        split
        · split
          · have hS := hok.2.1
            have hl12 : en.1.length ≤ j := by
              have nd : en.1.Nodup := hok.1.imp fun h => Nat.ne_of_lt h
              have := List.Nodup.length_le_of_subset nd (l₂ := List.range j) fun p hp => List.mem_range.mpr (hS p hp)
              rw [List.length_range] at this
              exact this
            have sz : sizeLine = 16777216 := rfl
            have := p2 j (by omega)
            refine ⟨by omega, by omega, ?_⟩
            refine lc_map (lowsOf ts j) nat (fun Q hQ => ?_) (fun p => en.1.contains p) nat (fun p hp Q A a1 a2 => ?_) ?_
            · walk_at "vc"
              exact hQ
            · walk_at "vc"
              exact fin_if a1 a2
            · refine ⟨new ++ [(en.1 ++ [j], en.2.1 + ((hh : Int) - ((tiesAt ts j).length : Int)), en.2.2 + ((lowsOf ts j).filter fun p => en.1.contains p).length)], fun e he => ?_, ?_, ?_⟩
              · rcases List.mem_append.mp he with z | z
                · exact hn e z
                · rw [List.mem_singleton.mp z]
                  refine ⟨List.pairwise_append.mpr ⟨hok.1, List.pairwise_singleton .., fun a ha b hb => by rw [List.mem_singleton.mp hb]; exact hS a ha⟩, fun p hp => ?_, ?_⟩
                  · rcases List.mem_append.mp hp with z | z
                    · have := hS p z; omega
                    · rw [List.mem_singleton.mp z]; omega
                  · show en.2.2 + _ = (withinL ts (en.1 ++ [j])).length
                    rw [hok.2.2]
                    have e1 := count_ties ts fun t => (en.1 ++ [j]).contains t.1 && (en.1 ++ [j]).contains t.2
                    have e2 := count_ties ts fun t => en.1.contains t.1 && en.1.contains t.2
                    have e3 := within_snoc hS (ts := ts) fun t ht => (W.lt t ht).1
                    unfold withinL
                    rw [e1, e2, e3]
              · rw [List.length_append, List.length_singleton]; omega
              · rw [List.map_append, List.length_map]
                unfold entD natsT
                rw [List.map_cons, List.map_nil, List.map_append]
                rfl
          · exact keepN
        · exact keepN
    · subst e
      walk_at "vc"
      have p2 : ∀ m, m ≤ 12 → 2 ^ m ≤ 4096 := fun m hm => Nat.le_trans (Nat.pow_le_pow_right (by decide) hm) (by decide)
      have := p2 j (by omega)
      refine ⟨by omega, es ++ new, fun e he => ?_, ?_, by rw [List.map_append]⟩
      · rcases List.mem_append.mp he with z | z
        · obtain ⟨h1, h2, h3⟩ := hes e z
          exact ⟨h1, fun p hp => Nat.lt_succ_of_lt (h2 p hp), h3⟩
        · exact hn e z
      · rw [List.length_append, Nat.pow_succ]; omega
  · subst e
    walk_at "vc"
    refine lc_map es entD (fun Q hQ => ?_) (fun e => decide (e.1.length % 2 = 1) && decide (hh * (e.1.length / 2) < e.2.2)) (fun e => natsT e.1) (fun e he Q A a1 a2 => ?_) ?_
    · walk_at "vc"
      exact hQ
    · unfold entD natsT
      walk_at "vc"
      refine ⟨by decide, ?_⟩
      have z1 : ((e.1.length : Int) % 2 = 1) ↔ e.1.length % 2 = 1 := by omega
      by_cases o1 : e.1.length % 2 = 1
      · rw [if_pos (z1.mpr o1)]
        refine ⟨⟨by decide, by decide⟩, .inl ⟨by omega, by omega⟩, ?_⟩
        have z2 : ((hh : Int) * ((e.1.length : Int) / 2) < (e.2.2 : Int)) ↔ hh * (e.1.length / 2) < e.2.2 := by
          rw [show ((e.1.length : Int) / 2) = ((e.1.length / 2 : Nat) : Int) by omega, ← Int.natCast_mul]
          exact Int.ofNat_lt
        by_cases o2 : hh * (e.1.length / 2) < e.2.2
        · rw [if_pos (z2.mpr o2)]
          exact a1 (by rw [decide_eq_true o1, decide_eq_true o2]; rfl)
        · rw [if_neg (fun z => o2 (z2.mp z))]
          exact a2 (by rw [decide_eq_false o2, Bool.and_false])
      · rw [if_neg (fun z => o1 (z1.mp z))]
        exact a2 (by rw [decide_eq_false o1, Bool.false_and])
    · intro p1
      unfold kMinKL
      walk_at "vc"
      refine ⟨fun x hx => ?_, fun _ => h0, fun x hx => ?_⟩
      · obtain ⟨e, _, rfl⟩ := List.mem_map.mp hx
        exact ⟨_, rfl⟩
      · obtain ⟨e, he, rfl⟩ := List.mem_map.mp hx
        obtain ⟨he, hp⟩ := List.mem_filter.mp he
        rw [Bool.and_eq_true] at hp
        exact h1 e.1 (ent_full W (hes e he) (of_decide_eq_true hp.1) (of_decide_eq_true hp.2))
end
end U
set_option Elab.async false
set_option linter.all false
set_option maxRecDepth 100000
set_option maxHeartbeats 1000000
namespace U
open PySem PySem.Spec PyProof.Rows L2
local macro_rules | `(tactic| walk_at "vc") => `(tactic| (first | simp only [hueD_n, hueD_s, kOoNew, kOoApp, Slot.oo.injEq, c_0, c_1, c_2, c_3, eq_self, kLenSet, kFldC, kMeth, kOwn, kApp, kExt, kIns, kPop, kPut, kAugA, kPar, kDk0, kDk1, kDkPut, kDt0, kDtPut, kUpd, kInDk, kInDt, kSorted, kTapeSet, kSwap, kCount, kIndex, kLstR, kCallF, kBinF, catP, listP, max2P, min2P, intBP, absP, tupleP, Slot.dk.injEq, Slot.dt.injEq, reduceCtorEq, false_and, exists_false, and_assoc, lenP, seq_l, seq_t, seq_s, natsD, natsT, rowD, num_nat, Nat.reduceLeDiff, inP, ninP, ni_i, ni_n, ni_hue, eqN_ih, eqN_ii, eqN_nn, eqN_ni, eqN_in, any_nats', any_hues_n, any_hues_i, all_ni, all_niH, beq_nat, List.all_cons, List.all_nil, List.any_cons, List.any_nil, Bool.or_false, Bool.and_true, Bool.true_and, at0, at1, at2, at3, kSl, koN, koS, slP, kItET, kItE, kItS, kItR1, kItR2, kItZ, kItZM, webD, nat, tieD, le0, lt_nat, le_nat, eq_nat, decide_true, decide_false, decide_eq_true_eq, kSeq, kNext, kRet, kSet, kDrop, kTgt, ksIf, kVar, kVarB, rdB_p, rdB_o, kC, kBin, kF, q_add_ii, q_add_ll, q_add_tt, q_sub_ii, q_mul_ii, q_mul_li, q_mod_ii, q_fdiv_ii, q_pow_ii, q_ix_l, q_ix_t, q_ix_s, q_ix_tp, q_ii, q_is_bb, q_is_n, q_nis_bb, q_nis_n, q_eq_ii, q_eq_ni, q_eq_in, q_eq_nn, q_eq_ss, q_eq_tt, q_eq_ll, q_isN_n, q_isN_i, q_isN_t, q_isN_l, q_isN_b, kNeg, kCmp, kCmpT, kChain, kBo, neP, kAnd, kOr, kNot, tkAnd, tkOr, tkNot, tkV, kIf, kNil, kCons, kTup, kLst, kCall, kIsi, gkName, gkTup, gkCons, gkNil, tkYes, relP, kRel, wipeP, startP, List.map_cons, List.map_nil, List.length_cons, List.length_nil, List.replicate_succ, List.replicate_zero, List.cons_append, List.nil_append, List.append_nil, Nat.reduceSub, Nat.reduceAdd, Nat.sub_self, List.getElem?_cons_zero, List.getElem?_cons_succ, List.getElem?_nil, List.set_cons_zero, List.set_cons_succ, List.set_nil, Option.some.injEq, Slot.p.injEq, Slot.o.injEq, D.tup.injEq, D.lst.injEq, D.int.injEq, D.bl.injEq, D.str.injEq, exists_eq_left', exists_eq_left, exists_eq_right, exists_eq_right', exists_and_left, exists_eq', exists_eq, and_true, true_and, Bool.not_true, Bool.not_false, if_true, if_false, Bool.false_eq_true, ite_true, ite_false, reduceIte, List.cons.injEq, List.length_map] | skip))
section
/-! ### what a paper says is so -/
theorem nd_map_on {α β : Type} {f : α → β} {l : List α} (h : l.Nodup) (inj : ∀ x ∈ l, ∀ y ∈ l, f x = f y → x = y) : (l.map f).Nodup := by
  unfold List.Nodup at *
  rw [List.pairwise_map]
  exact h.imp_of_mem fun ha hb hne e => hne (inj _ ha _ hb e)
theorem proper_ne {ts : List Tie} {r : List (Option Nat)} (hp : Proper ts r) {i j c : Nat} (hi : i < ts.length) (hj : j < ts.length) (hne : i ≠ j) (h1 : hue r i = some c) (h2 : hue r j = some c) : meet (tie ts i) (tie ts j) = false := by
  by_cases h : i < j
  · exact hp.2 i j c h hj h1 h2
  · rw [meet_symm]; exact hp.2 j i c (by omega) hi h2 h1
theorem meet_at2 {t u : Tie} {p : Nat} (h1 : t.1 = p ∨ t.2 = p) (h2 : u.1 = p ∨ u.2 = p) : meet t u = true := by
  unfold meet
  simp only [Bool.or_eq_true, beq_iff_eq]
  omega
theorem place_sound {ts : List Tie} {r : List (Option Nat)} {h : Nat} (hw : Whole ts r h) (p : Nat) : (tiesAt ts p).length ≤ h := by
  have nd : (tiesAt ts p).Nodup := List.Nodup.sublist List.filter_sublist List.nodup_range
  have h1 : ((tiesAt ts p).map fun i => (hue r i).getD 0).Nodup := nd_map_on nd fun x hx y hy e => by
    obtain ⟨x1, x2⟩ := mem_tiesAt.mp hx
    obtain ⟨y1, y2⟩ := mem_tiesAt.mp hy
    obtain ⟨c, ec, _⟩ := hw.2 x x1
    obtain ⟨d, ed, _⟩ := hw.2 y y1
    have e : (hue r x).getD 0 = (hue r y).getD 0 := e
    rw [ec, ed] at e
    have e : c = d := e
    subst e
    refine Classical.byContradiction fun hne => ?_
    have := proper_ne hw.1 x1 y1 hne ec ed
    rw [meet_at2 x2 y2] at this; cases this
  have h2 := List.Nodup.length_le_of_subset h1 (l₂ := List.range h) fun z hz => by
    obtain ⟨i, hi, rfl⟩ := List.mem_map.mp hz
    obtain ⟨c, ec, hc⟩ := hw.2 i (mem_tiesAt.mp hi).1
    show (hue r i).getD 0 ∈ _
    rw [ec]; exact List.mem_range.mpr hc
  rw [List.length_map, List.length_range] at h2
  exact h2
theorem held_len2 (ts : List Tie) : ∀ l : List Nat, (heldOf ts l).length = 2 * l.length
  | [] => rfl
  | x :: l => by
    show ([(tie ts x).1, (tie ts x).2] ++ heldOf ts l).length = _
    rw [List.length_append, held_len2 ts l, List.length_cons, List.length_cons, List.length_cons, List.length_nil]; omega
theorem class_le {n : Nat} {ts : List Tie} {r : List (Option Nat)} (W : Web n ts) (hp : Proper ts r) {l S : List Nat} (hn : l.Nodup) (hl : ∀ i ∈ l, i < ts.length) (c : Nat) (hS : ∀ i ∈ l, (tie ts i).1 ∈ S ∧ (tie ts i).2 ∈ S) : 2 * (l.filter (hued r c)).length ≤ S.length := by
  rw [← held_len2 ts]
  refine List.Nodup.length_le_of_subset (held_nd W hp hn hl c) fun p hp => ?_
  obtain ⟨i, hi, h⟩ := List.mem_flatMap.mp hp
  have := hS i (List.mem_filter.mp hi).1
  rcases List.mem_cons.mp h with h | h
  · rw [h]; exact this.1
  · rw [List.mem_singleton.mp h]; exact this.2
theorem len_split {α : Type} (p : α → Bool) (l : List α) : (l.filter p).length + (l.filter fun x => !p x).length = l.length := by
  induction l with
  | nil => rfl
  | cons x l ih =>
    rw [List.filter_cons, List.filter_cons]
    cases h : p x
    · simp only [Bool.false_eq_true, if_false, Bool.not_false, if_true, List.length_cons]; omega
    · simp only [Bool.not_true, Bool.false_eq_true, if_false, if_true, List.length_cons]; omega
theorem len_le_mul {r : List (Option Nat)} {k : Nat} : ∀ (h : Nat) {l : List Nat}, (∀ i ∈ l, ∃ c, hue r i = some c ∧ c < h) → (∀ c, (l.filter (hued r c)).length ≤ k) → l.length ≤ h * k
  | 0, [], _, _ => Nat.zero_le _
  | 0, x :: l, h1, _ => by obtain ⟨c, _, hc⟩ := h1 x (List.mem_cons_self ..); omega
  | h + 1, l, h1, h2 => by
    have e := len_split (hued r h) l
    have ih := len_le_mul (r := r) (k := k) h (l := l.filter fun x => !hued r h x) (fun i hi => by
      obtain ⟨i1, i2⟩ := List.mem_filter.mp hi
      obtain ⟨c, ec, hc⟩ := h1 i i1
      refine ⟨c, ec, ?_⟩
      have : c ≠ h := fun e => by
        subst e
        unfold hued at i2
        rw [ec, beq_self_eq_true] at i2; cases i2
      omega) fun c => by
        rw [List.filter_filter]
        refine Nat.le_trans ?_ (h2 c)
        rw [← List.countP_eq_length_filter, ← List.countP_eq_length_filter]
        exact List.countP_mono_left fun x _ h => (Bool.and_eq_true_iff.mp h).1
    have := h2 h
    rw [Nat.succ_mul]
    omega
theorem set_sound {n : Nat} {ts : List Tie} {r : List (Option Nat)} {h : Nat} (W : Web n ts) (hw : Whole ts r h) (S : List Nat) : (withinL ts S).length ≤ h * (S.length / 2) := by
  have nd : (withinL ts S).Nodup := List.Nodup.sublist List.filter_sublist List.nodup_range
  have lt : ∀ i ∈ withinL ts S, i < ts.length := fun i hi => List.mem_range.mp (List.mem_filter.mp hi).1
  refine len_le_mul h (fun i hi => hw.2 i (lt i hi)) fun c => ?_
  have := class_le W hw.1 nd lt c (S := S) fun i hi => by
    have := (List.mem_filter.mp hi).2
    rw [Bool.and_eq_true, List.contains_iff_mem, List.contains_iff_mem] at this
    exact this
  omega
/-- no class has more ties than half of the places -/
theorem class_half {n : Nat} {ts : List Tie} {r : List (Option Nat)} (W : Web n ts) (hp : Proper ts r) (c : Nat) : 2 * (classOf r c).length ≤ n := by
  have := class_le W hp (l := List.range r.length) (S := List.range n) List.nodup_range (fun i hi => by rw [← hp.1]; exact List.mem_range.mp hi) c fun i hi => by
    have h := W.at (i := i) (by rw [← hp.1]; exact List.mem_range.mp hi)
    exact ⟨List.mem_range.mpr (by omega), List.mem_range.mpr (by omega)⟩
  rw [List.length_range] at this
  exact this
/-! ### trees -/
def sw (a b x : Nat) : Nat := if x = a then b else if x = b then a else x
theorem sw_inj {a b x y : Nat} (h : sw a b x = sw a b y) : x = y := by
  unfold sw at h
  split at h <;> split at h <;> (try split at h) <;> (try split at h) <;> omega
theorem hue_map {r : List (Option Nat)} {f : Nat → Nat} {i : Nat} : hue (r.map (Option.map f)) i = (hue r i).map f := by
  show (r.map (Option.map f)).getD i none = (r.getD i none).map f
  rw [List.getD_eq_getElem?_getD, List.getD_eq_getElem?_getD, List.getElem?_map]
  cases r[i]? with
  | none => rfl
  | some x => rfl
theorem whole_sw {ts : List Tie} {r : List (Option Nat)} {h a b : Nat} (hw : Whole ts r h) (ha : a < h) (hb : b < h) : Whole ts (r.map (Option.map (sw a b))) h := by
  refine ⟨⟨by rw [List.length_map]; exact hw.1.1, fun i j c hij hj h1 h2 => ?_⟩, fun i hi => ?_⟩
  · rw [hue_map] at h1 h2
    obtain ⟨x, ex, hx⟩ := hw.2 i (by omega)
    obtain ⟨y, ey, hy⟩ := hw.2 j hj
    rw [ex] at h1
    rw [ey] at h2
    have h1 : some (sw a b x) = some c := h1
    have h2 : some (sw a b y) = some c := h2
    have e : x = y := sw_inj (by rw [Option.some.inj h1, Option.some.inj h2])
    subst e
    exact hw.1.2 i j x hij hj ex ey
  · obtain ⟨x, ex, hx⟩ := hw.2 i hi
    rw [hue_map, ex]
    refine ⟨sw a b x, rfl, ?_⟩
    unfold sw; split
    · exact hb
    · split
      · exact ha
      · exact hx
theorem dedup_len {xs : List Nat} {m : Nat} (h : ∀ c, c ∈ xs ↔ c < m) : (dedup xs).length = m := by
  have h1 := List.Nodup.length_le_of_subset (nd_dedup xs) (l₂ := List.range m) fun z hz => List.mem_range.mpr ((h z).mp (mem_dedup.mp hz))
  have h2 := List.Nodup.length_le_of_subset (List.nodup_range (n := m)) (l₂ := dedup xs) fun z hz => mem_dedup.mpr ((h z).mpr (List.mem_range.mp hz))
  rw [List.length_range] at h1 h2
  omega
theorem isT_inv {ts : List Tie} {h f : Nat} {way : Way} {d : D} (e : isT ts h (f + 1) way d = true) : ∃ (i : Nat) (ds : List D), i < ts.length ∧ i ∉ way.map (·.1) ∧ ds.length = (huesToTry ts h way i).length ∧ ∀ j, j < ds.length → isT ts h f (way ++ [(i, (huesToTry ts h way i).getD j 0)]) (ds.getD j .non) = true := by
  by_cases hd : ∃ (i : Int) (ds : List D), d = .tup [.int i, .tup ds]
  · obtain ⟨i, ds, rfl⟩ := hd
    have e : (decide (i.toNat < ts.length) && !(way.map (·.1)).contains i.toNat && decide (ds.length = (huesToTry ts h way i.toNat).length) && ((List.range ds.length).all fun j => isT ts h f (way ++ [(i.toNat, (huesToTry ts h way i.toNat).getD j 0)]) (ds.getD j .non))) = true := e
    simp only [Bool.and_eq_true, decide_eq_true_eq, Bool.not_eq_true', List.all_eq_true, List.mem_range] at e
    refine ⟨i.toNat, ds, e.1.1.1, fun z => ?_, e.1.2, e.2⟩
    have := e.1.1.2
    rw [← List.contains_iff_mem, this] at z; cases z
  · exfalso
    unfold isT at e
    split at e
    · cases e
    · exact hd ⟨_, _, rfl⟩
    · cases e
theorem tree_sound {ts : List Tie} {h : Nat} : ∀ (f : Nat) (way : Way) (d : D) (r : List (Option Nat)), Whole ts r h → (∀ kh ∈ way, hue r kh.1 = some kh.2 ∧ kh.1 < ts.length) → (∀ c, c ∈ way.map (·.2) ↔ c < met way) → isT ts h f way d = true → False
  | 0, way, d, r, _, _, _, e => by unfold isT at e; cases e
  | f + 1, way, d, r, hw, ha, hs, e => by
    obtain ⟨i, ds, hi, hni, hl, hc⟩ := isT_inv e
    -- a row in which the tie has a hue that is there, or the next one
    obtain ⟨r', c, hw', ha', ec, hcm⟩ : ∃ r' c, Whole ts r' h ∧ (∀ kh ∈ way, hue r' kh.1 = some kh.2 ∧ kh.1 < ts.length) ∧ hue r' i = some c ∧ c ≤ met way := by
      obtain ⟨c, ec, hch⟩ := hw.2 i hi
      by_cases hcm : c ≤ met way
      · exact ⟨r, c, hw, ha, ec, hcm⟩
      · refine ⟨r.map (Option.map (sw c (met way))), met way, whole_sw hw hch (by omega), fun kh hk => ⟨?_, (ha kh hk).2⟩, ?_, Nat.le_refl _⟩
        · have hk2 := (hs kh.2).mp (List.mem_map.mpr ⟨kh, hk, rfl⟩)
          rw [hue_map, (ha kh hk).1]
          show some (sw c (met way) kh.2) = _
          unfold sw
          rw [if_neg (by omega), if_neg (by omega)]
        · rw [hue_map, ec]
          show some (sw c (met way) c) = _
          unfold sw
          rw [if_pos rfl]
    have hch : c < h := by
      obtain ⟨x, ex, hx⟩ := hw'.2 i hi
      rw [ec] at ex; cases ex; exact hx
    have hmem : c ∈ huesToTry ts h way i := by
      refine List.mem_filter.mpr ⟨List.mem_range.mpr (by omega), ?_⟩
      rw [Bool.not_eq_true', ← Bool.not_eq_true, List.contains_iff_mem]
      intro z
      obtain ⟨kh, hk, e2⟩ := List.mem_map.mp z
      obtain ⟨hk, hm⟩ := List.mem_filter.mp hk
      obtain ⟨h1, h2⟩ := ha' kh hk
      rw [e2] at h1
      have := proper_ne hw'.1 h2 hi (fun e => hni (e ▸ List.mem_map.mpr ⟨kh, hk, rfl⟩)) h1 ec
      rw [hm] at this; cases this
    obtain ⟨j, hj, ej⟩ := List.mem_iff_getElem.mp hmem
    have hjd : j < ds.length := by omega
    have := hc j hjd
    rw [show (huesToTry ts h way i).getD j 0 = c by rw [List.getD_eq_getElem?_getD, List.getElem?_eq_getElem hj, ej]; rfl] at this
    refine tree_sound f (way ++ [(i, c)]) _ r' hw' (fun kh hk => ?_) (fun x => ?_) this
    · rcases List.mem_append.mp hk with z | z
      · exact ha' kh z
      · rw [List.mem_singleton.mp z]; exact ⟨ec, hi⟩
    · have h1 : ∀ x, x ∈ (way ++ [(i, c)]).map (·.2) ↔ x < (if c < met way then met way else met way + 1) := fun x => by
        rw [List.map_append, List.mem_append, hs x]
        show _ ∨ x ∈ [c] ↔ _
        rw [List.mem_singleton]
        split <;> omega
      have h2 : met (way ++ [(i, c)]) = _ := dedup_len h1
      rw [h1, h2]
theorem fewer_sound {n : Nat} {ts : List Tie} {r : List (Option Nat)} {h : Nat} (W : Web n ts) (hw : Whole ts r h) (pa : Pap) : showsFewer n ts h pa = false := by
  refine Bool.eq_false_iff.mpr fun e => ?_
  cases pa with
  | place p =>
    have e : (decide (p < n) && decide (h < (tiesAt ts p).length)) = true := e
    rw [Bool.and_eq_true, decide_eq_true_eq, decide_eq_true_eq] at e
    have := place_sound hw p
    omega
  | set S =>
    have e : fullSet n ts h S = true := e
    unfold fullSet at e
    rw [Bool.and_eq_true, decide_eq_true_eq] at e
    have := set_sound W hw S
    omega
  | tree d => exact tree_sound 20 [] d r hw (fun _ z => (by cases z)) (fun c => ⟨fun z => (by cases z), fun z => absurd z (Nat.not_lt_zero c)⟩) e
def isTree : Pap → Bool
  | .tree _ => true
  | _ => false
/-- fewer hues, a web of more ties -/
theorem count_sub {ts us : List Tie} (h : us.Sublist ts) (q : Tie → Bool) : ((List.range us.length).filter fun i => q (tie us i)).length ≤ ((List.range ts.length).filter fun i => q (tie ts i)).length := by
  have key : ∀ l : List Tie, ((List.range l.length).filter fun i => q (tie l i)).length = l.countP q := fun l => by
    have e : l = (List.range l.length).map (tie l) := by
      refine List.ext_getElem (by simp) fun i h1 h2 => ?_
      rw [List.getElem_map, List.getElem_range]
      show _ = l.getD i (0, 0)
      rw [List.getD_eq_getElem?_getD, List.getElem?_eq_getElem h1]; rfl
    conv => rhs; rw [e]
    rw [List.countP_map, List.countP_eq_length_filter]; rfl
  rw [key, key]
  exact h.countP_le
theorem fewer_mono {n : Nat} {ts us : List Tie} (hs : us.Sublist ts) {h g : Nat} (hg : g ≤ h) {pa : Pap} (ht : isTree pa = false) (e : showsFewer n us h pa = true) : showsFewer n ts g pa = true := by
  cases pa with
  | place p =>
    have e : (decide (p < n) && decide (h < (tiesAt us p).length)) = true := e
    show (decide (p < n) && decide (g < (tiesAt ts p).length)) = true
    rw [Bool.and_eq_true, decide_eq_true_eq, decide_eq_true_eq] at e ⊢
    have : (tiesAt us p).length ≤ (tiesAt ts p).length := count_sub hs fun t => t.1 == p || t.2 == p
    omega
  | set S =>
    have e : (oddSet n S && decide (h * (S.length / 2) < (withinL us S).length)) = true := e
    show (oddSet n S && decide (g * (S.length / 2) < (withinL ts S).length)) = true
    rw [Bool.and_eq_true, decide_eq_true_eq] at e ⊢
    have h1 : (withinL us S).length ≤ (withinL ts S).length := count_sub hs fun t => S.contains t.1 && S.contains t.2
    have h2 : g * (S.length / 2) ≤ h * (S.length / 2) := Nat.mul_le_mul_right _ hg
    exact ⟨e.1, by omega⟩
  | tree d => cases ht
theorem only_sub {ts : List Tie} {is : List Nat} (h : is.Sublist (List.range ts.length)) : (is.map (tie ts)).Sublist ts := by
  have e : ts = (List.range ts.length).map (tie ts) := by
    refine List.ext_getElem (by simp) fun i h1 h2 => ?_
    rw [List.getElem_map, List.getElem_range]
    show _ = ts.getD i (0, 0)
    rw [List.getD_eq_getElem?_getD, List.getElem?_eq_getElem h1]; rfl
  conv => rhs; rw [e]
  exact h.map _
theorem web_sub {n : Nat} {ts us : List Tie} (W : Web n ts) (h : us.Sublist ts) : Web n us := ⟨fun t ht => W.lt t (h.subset ht), W.n12, Nat.le_trans h.length_le W.t16⟩
/-- as many hues as ties always do -/
theorem whole_id (ts : List Tie) {h : Nat} (hl : ts.length ≤ h) : Whole ts ((List.range ts.length).map some) h := by
  have e : ∀ i, i < ts.length → hue ((List.range ts.length).map some) i = some i := fun i hi => by
    show ((List.range ts.length).map some).getD i none = _
    rw [List.getD_eq_getElem?_getD, List.getElem?_map, List.getElem?_range hi]; rfl
  refine ⟨⟨by rw [List.length_map, List.length_range], fun i j c hij hj h1 h2 => ?_⟩, fun i hi => ⟨i, e i hi, by omega⟩⟩
  rw [e i (by omega)] at h1
  rw [e j hj] at h2
  cases h1; cases h2; omega
theorem full_lt {n : Nat} {ts : List Tie} {h : Nat} {S : List Nat} (e : fullSet n ts h S = true) : h < ts.length ∧ S.length ≤ n := by
  unfold fullSet oddSet at e
  simp only [Bool.and_eq_true, decide_eq_true_eq] at e
  obtain ⟨⟨⟨⟨e1, e2⟩, e3⟩, e4⟩, e5⟩ := e
  refine ⟨?_, ?_⟩
  · have h1 : (withinL ts S).length ≤ ts.length := by
      have := List.length_filter_le (fun i => S.contains (tie ts i).1 && S.contains (tie ts i).2) (List.range ts.length)
      rw [List.length_range] at this
      exact this
    have h2 : h * 1 ≤ h * (S.length / 2) := Nat.mul_le_mul_left _ (by omega)
    omega
  · have h3 : ∀ (S : List Nat), rising S = true → S.Pairwise (· < ·) := by
      intro S
      induction S with
      | nil => intro _; exact List.Pairwise.nil
      | cons a S ih =>
        intro hr
        cases S with
        | nil => exact List.pairwise_singleton ..
        | cons b S =>
          have hr : (decide (a < b) && rising (b :: S)) = true := hr
          rw [Bool.and_eq_true, decide_eq_true_eq] at hr
          have h1 := ih hr.2
          refine List.pairwise_cons.mpr ⟨fun x hx => ?_, h1⟩
          rcases List.mem_cons.mp hx with z | z
          · rw [z]; exact hr.1
          · have := (List.pairwise_cons.mp h1).1 x z
            omega
    have nd : S.Nodup := (h3 S e4).imp fun h => Nat.ne_of_lt h
    have := List.Nodup.length_le_of_subset nd (l₂ := List.range n) fun p hp => List.mem_range.mpr (of_decide_eq_true (List.all_eq_true.mp e3 p hp))
    rw [List.length_range] at this
    exact this
end
end U
set_option Elab.async false
set_option linter.all false
set_option maxRecDepth 100000
set_option maxHeartbeats 1000000
namespace U
open PySem PySem.Spec PyProof.Rows L2
local macro_rules | `(tactic| walk_at "vc") => `(tactic| (first | simp only [hueD_n, hueD_s, kOoNew, kOoApp, Slot.oo.injEq, c_0, c_1, c_2, c_3, eq_self, kLenSet, kFldC, kMeth, kOwn, kApp, kExt, kIns, kPop, kPut, kAugA, kPar, kDk0, kDk1, kDkPut, kDt0, kDtPut, kUpd, kInDk, kInDt, kSorted, kTapeSet, kSwap, kCount, kIndex, kLstR, kCallF, kBinF, catP, listP, max2P, min2P, intBP, absP, tupleP, Slot.dk.injEq, Slot.dt.injEq, reduceCtorEq, false_and, exists_false, and_assoc, lenP, seq_l, seq_t, seq_s, natsD, natsT, rowD, num_nat, Nat.reduceLeDiff, inP, ninP, ni_i, ni_n, ni_hue, eqN_ih, eqN_ii, eqN_nn, eqN_ni, eqN_in, any_nats', any_hues_n, any_hues_i, all_ni, all_niH, beq_nat, List.all_cons, List.all_nil, List.any_cons, List.any_nil, Bool.or_false, Bool.and_true, Bool.true_and, at0, at1, at2, at3, kSl, koN, koS, slP, kItET, kItE, kItS, kItR1, kItR2, kItZ, kItZM, webD, nat, tieD, le0, lt_nat, le_nat, eq_nat, decide_true, decide_false, decide_eq_true_eq, kSeq, kNext, kRet, kSet, kDrop, kTgt, ksIf, kVar, kVarB, rdB_p, rdB_o, kC, kBin, kF, q_add_ii, q_add_ll, q_add_tt, q_sub_ii, q_mul_ii, q_mul_li, q_mod_ii, q_fdiv_ii, q_pow_ii, q_ix_l, q_ix_t, q_ix_s, q_ix_tp, q_ii, q_is_bb, q_is_n, q_nis_bb, q_nis_n, q_eq_ii, q_eq_ni, q_eq_in, q_eq_nn, q_eq_ss, q_eq_tt, q_eq_ll, q_isN_n, q_isN_i, q_isN_t, q_isN_l, q_isN_b, kNeg, kCmp, kCmpT, kChain, kBo, neP, kAnd, kOr, kNot, tkAnd, tkOr, tkNot, tkV, kIf, kNil, kCons, kTup, kLst, kCall, kIsi, gkName, gkTup, gkCons, gkNil, tkYes, relP, kRel, wipeP, startP, List.map_cons, List.map_nil, List.length_cons, List.length_nil, List.replicate_succ, List.replicate_zero, List.cons_append, List.nil_append, List.append_nil, Nat.reduceSub, Nat.reduceAdd, Nat.sub_self, List.getElem?_cons_zero, List.getElem?_cons_succ, List.getElem?_nil, List.set_cons_zero, List.set_cons_succ, List.set_nil, Option.some.injEq, Slot.p.injEq, Slot.o.injEq, D.tup.injEq, D.lst.injEq, D.int.injEq, D.bl.injEq, D.str.injEq, exists_eq_left', exists_eq_left, exists_eq_right, exists_eq_right', exists_and_left, exists_eq', exists_eq, and_true, true_and, Bool.not_true, Bool.not_false, if_true, if_false, Bool.false_eq_true, ite_true, ite_false, reduceIte, List.cons.injEq, List.length_map] | skip))
section
/-! ### trees out of lists -/
def leftW (ts : List Tie) (h : Nat) (way : Way) (i : Nat) : List Nat := (List.range h).filter fun x => !(taken ts way i).contains x
def isE (ts : List Tie) (h : Nat) : Nat → Way → D → Bool
  | 0, _, _ => false
  | f + 1, way, .tup [.int i, .tup ds] => decide (i.toNat < ts.length) && !(way.map (·.1)).contains i.toNat && decide (ds.length = (leftW ts h way i.toNat).length) &&
      ((List.range ds.length).all fun j => isE ts h f (way ++ [(i.toNat, (leftW ts h way i.toNat).getD j 0)]) (ds.getD j .non))
  | _, _, _ => false
theorem isE_at (ts : List Tie) (h f : Nat) (way : Way) (i : Nat) (ds : List D) : isE ts h (f + 1) way (.tup [nat i, .tup ds]) = (decide (i < ts.length) && !(way.map (·.1)).contains i && decide (ds.length = (leftW ts h way i).length) &&
      ((List.range ds.length).all fun j => isE ts h f (way ++ [(i, (leftW ts h way i).getD j 0)]) (ds.getD j .non))) := rfl
theorem isE_inv {ts : List Tie} {h f : Nat} {way : Way} {d : D} (e : isE ts h (f + 1) way d = true) : ∃ (i : Nat) (ds : List D), i < ts.length ∧ i ∉ way.map (·.1) ∧ ds.length = (leftW ts h way i).length ∧ ∀ j, j < ds.length → isE ts h f (way ++ [(i, (leftW ts h way i).getD j 0)]) (ds.getD j .non) = true := by
  by_cases hd : ∃ (i : Int) (ds : List D), d = .tup [.int i, .tup ds]
  · obtain ⟨i, ds, rfl⟩ := hd
    have e : (decide (i.toNat < ts.length) && !(way.map (·.1)).contains i.toNat && decide (ds.length = (leftW ts h way i.toNat).length) && ((List.range ds.length).all fun j => isE ts h f (way ++ [(i.toNat, (leftW ts h way i.toNat).getD j 0)]) (ds.getD j .non))) = true := e
    simp only [Bool.and_eq_true, decide_eq_true_eq, Bool.not_eq_true', List.all_eq_true, List.mem_range] at e
    refine ⟨i.toNat, ds, e.1.1.1, fun z => ?_, e.1.2, e.2⟩
    have := e.1.1.2
    rw [← List.contains_iff_mem, this] at z; cases z
  · exfalso
    unfold isE at e
    split at e
    · cases e
    · exact hd ⟨_, _, rfl⟩
    · cases e
theorem treeE_sound {ts : List Tie} {h : Nat} {r : List (Option Nat)} (hw : Whole ts r h) : ∀ (f : Nat) (way : Way) (d : D), (∀ kh ∈ way, hue r kh.1 = some kh.2 ∧ kh.1 < ts.length) → isE ts h f way d = true → False
  | 0, way, d, _, e => by unfold isE at e; cases e
  | f + 1, way, d, ha, e => by
    obtain ⟨i, ds, hi, hni, hl, hc⟩ := isE_inv e
    obtain ⟨c, ec, hch⟩ := hw.2 i hi
    have hmem : c ∈ leftW ts h way i := by
      refine List.mem_filter.mpr ⟨List.mem_range.mpr hch, ?_⟩
      rw [Bool.not_eq_true', ← Bool.not_eq_true, List.contains_iff_mem]
      intro z
      obtain ⟨kh, hk, e2⟩ := List.mem_map.mp z
      obtain ⟨hk, hm⟩ := List.mem_filter.mp hk
      obtain ⟨h1, h2⟩ := ha kh hk
      rw [e2] at h1
      have := proper_ne hw.1 h2 hi (fun e => hni (e ▸ List.mem_map.mpr ⟨kh, hk, rfl⟩)) h1 ec
      rw [hm] at this; cases this
    obtain ⟨j, hj, ej⟩ := List.mem_iff_getElem.mp hmem
    have hjd : j < ds.length := by omega
    have := hc j hjd
    rw [show (leftW ts h way i).getD j 0 = c by rw [List.getD_eq_getElem?_getD, List.getElem?_eq_getElem hj, ej]; rfl] at this
    refine treeE_sound hw f (way ++ [(i, c)]) _ (fun kh hk => ?_) this
    rcases List.mem_append.mp hk with z | z
    · exact ha kh z
    · rw [List.mem_singleton.mp z]; exact ⟨ec, hi⟩
end
end U
set_option Elab.async false
set_option linter.all false
set_option maxRecDepth 100000
set_option maxHeartbeats 1000000
namespace U
open PySem PySem.Spec PyProof.Rows L2
local macro_rules | `(tactic| walk_at "vc") => `(tactic| (first | simp only [hueD_n, hueD_s, kOoNew, kOoApp, Slot.oo.injEq, c_0, c_1, c_2, c_3, eq_self, kLenSet, kFldC, kMeth, kOwn, kApp, kExt, kIns, kPop, kPut, kAugA, kPar, kDk0, kDk1, kDkPut, kDt0, kDtPut, kUpd, kInDk, kInDt, kSorted, kTapeSet, kSwap, kCount, kIndex, kLstR, kCallF, kBinF, catP, listP, max2P, min2P, intBP, absP, tupleP, Slot.dk.injEq, Slot.dt.injEq, reduceCtorEq, false_and, exists_false, and_assoc, lenP, seq_l, seq_t, seq_s, natsD, natsT, rowD, num_nat, Nat.reduceLeDiff, inP, ninP, ni_i, ni_n, ni_hue, eqN_ih, eqN_ii, eqN_nn, eqN_ni, eqN_in, any_nats', any_hues_n, any_hues_i, all_ni, all_niH, beq_nat, List.all_cons, List.all_nil, List.any_cons, List.any_nil, Bool.or_false, Bool.and_true, Bool.true_and, at0, at1, at2, at3, kSl, koN, koS, slP, kItET, kItE, kItS, kItR1, kItR2, kItZ, kItZM, webD, nat, tieD, le0, lt_nat, le_nat, eq_nat, decide_true, decide_false, decide_eq_true_eq, kSeq, kNext, kRet, kSet, kDrop, kTgt, ksIf, kVar, kVarB, rdB_p, rdB_o, kC, kBin, kF, q_add_ii, q_add_ll, q_add_tt, q_sub_ii, q_mul_ii, q_mul_li, q_mod_ii, q_fdiv_ii, q_pow_ii, q_ix_l, q_ix_t, q_ix_s, q_ix_tp, q_ii, q_is_bb, q_is_n, q_nis_bb, q_nis_n, q_eq_ii, q_eq_ni, q_eq_in, q_eq_nn, q_eq_ss, q_eq_tt, q_eq_ll, q_isN_n, q_isN_i, q_isN_t, q_isN_l, q_isN_b, kNeg, kCmp, kCmpT, kChain, kBo, neP, kAnd, kOr, kNot, tkAnd, tkOr, tkNot, tkV, kIf, kNil, kCons, kTup, kLst, kCall, kIsi, gkName, gkTup, gkCons, gkNil, tkYes, relP, kRel, wipeP, startP, List.map_cons, List.map_nil, List.length_cons, List.length_nil, List.replicate_succ, List.replicate_zero, List.cons_append, List.nil_append, List.append_nil, Nat.reduceSub, Nat.reduceAdd, Nat.sub_self, List.getElem?_cons_zero, List.getElem?_cons_succ, List.getElem?_nil, List.set_cons_zero, List.set_cons_succ, List.set_nil, Option.some.injEq, Slot.p.injEq, Slot.o.injEq, D.tup.injEq, D.lst.injEq, D.int.injEq, D.bl.injEq, D.str.injEq, exists_eq_left', exists_eq_left, exists_eq_right, exists_eq_right', exists_and_left, exists_eq', exists_eq, and_true, true_and, Bool.not_true, Bool.not_false, if_true, if_false, Bool.false_eq_true, ite_true, ite_false, reduceIte, List.cons.injEq, List.length_map] | skip))
section
variable {P : Program} {w : World} {K : PySem.W.Frag} {mg : Str → Option Value} {base : Heap} {k : Nat} {cSearch : Addr}
/-! ### fewest -/
def wholeO : Option (List (Option Nat)) → D
  | none => .non
  | some r => rowD r
def q_mkSearch : List D → (D → D → Prop) → Prop := fun ds R => ∃ n ts h, ds = [webD n ts, nat h] ∧ Web n ts ∧ R (nearD ts) (nat h)
def PapFor (n : Nat) (ts : List Tie) (num : Nat) (pa : Option Pap) : Prop := (num = 0 ↔ pa = none) ∧ ∀ p, pa = some p → PapOk p ∧ showsFewer n ts (num - 1) p = true
def q_pbp : PSp := fun ds P => ∃ n ts, ds = [webD n ts] ∧ Web n ts ∧ ∀ m pa, IsMost n ts m → PapFor n ts m pa → P (papO pa)
theorem pbp_imp (ds : List D) (P : D → Prop) (h : q_pbp ds P) : q_paper_by_place ds P := by
  obtain ⟨n, ts, e, W, h⟩ := h
  refine ⟨n, ts, e, W, fun h0 => h 0 none h0 ⟨⟨fun _ => rfl, fun _ => rfl⟩, fun p z => (nomatch z)⟩, fun m hm hz p hp ep => h m (some (.place p)) hm ⟨⟨fun z => absurd z hz, fun z => (nomatch z)⟩, fun q eq => ?_⟩⟩
  cases eq
  refine ⟨trivial, ?_⟩
  show (decide (p < n) && decide (m - 1 < (tiesAt ts p).length)) = true
  rw [Bool.and_eq_true, decide_eq_true_eq, decide_eq_true_eq]
  omega
theorem most_eq {n : Nat} {ts : List Tie} {m m2 : Nat} (h : IsMost n ts m) (h2 : IsMost n ts m2) : m = m2 := by
  obtain ⟨a, b⟩ := h
  obtain ⟨a2, b2⟩ := h2
  rcases a with ⟨e, z⟩ | ⟨p, hp, e⟩
  · rcases a2 with ⟨_, z2⟩ | ⟨p2, hp2, _⟩
    · omega
    · omega
  · rcases a2 with ⟨e2, _⟩ | ⟨p2, hp2, e2⟩
    · omega
    · have := b p2 hp2
      have := b2 p hp
      omega
theorem most_le {n : Nat} {ts : List Tie} {m : Nat} (h : IsMost n ts m) : m ≤ ts.length := by
  rcases h.1 with ⟨_, z⟩ | ⟨p, _, e⟩
  · omega
  · have := List.length_filter_le (fun i => (tie ts i).1 == p || (tie ts i).2 == p) (List.range ts.length)
    rw [List.length_range] at this
    rw [← e]; exact this
theorem flat_non : ∀ m : Nat, (List.replicate m [D.non]).flatten = (List.replicate m (none : Option Nat)).map hueD
  | 0 => rfl
  | m + 1 => by
    rw [List.replicate_succ, List.flatten_cons, flat_non m, List.replicate_succ, List.map_cons]; rfl
theorem hue_none (m i : Nat) : hue (List.replicate m none) i = none := by
  show (List.replicate m none).getD i none = none
  rw [List.getD_eq_getElem?_getD, List.getElem?_replicate]
  split <;> rfl
theorem below_none (ts : List Tie) (h : Nat) : Below ts (List.replicate ts.length none) h :=
  ⟨⟨List.length_replicate .., fun i j c _ _ e _ => by rw [hue_none] at e; cases e⟩, fun i c _ e => by rw [hue_none] at e; cases e⟩
theorem matches_none (m : Nat) : Matches (List.replicate m none) [] := fun i c => ⟨fun z => (nomatch z), fun z => by rw [hue_none] at z; cases z⟩
theorem no_tree {ts : List Tie} {h b : Nat} {d : D} (hl : ts.length ≤ h) (ht : TreeFor ts (List.replicate ts.length none) h b d) (hb : b ≤ 20) : False :=
  tree_sound 20 [] d _ (whole_id ts hl) (fun _ z => (by cases z)) (fun c => ⟨fun z => (by cases z), fun z => absurd z (Nat.not_lt_zero c)⟩) ((ht 20 hb).2 [] (matches_none _))
def q_fewest : PSp := fun ds P => ∃ n ts, ds = [webD n ts] ∧ Web n ts ∧ ∀ num r pa, Whole ts r num → num ≤ 16 → PapFor n ts num pa → P (.tup [nat num, rowD r, papO pa])
theorem ok_fewest (T : Tx K mg) (TSearch : TcSearch K cSearch) (L : Lo K mg "fewest" S_fewest) (c_most_at : Callee P w K mg base k "most_at" q_most_at) (c_paper_by_place : Callee P w K mg base k "paper_by_place" q_paper_by_place) (c_paper_by_set : Callee P w K mg base k "paper_by_set" q_paper_by_set)
    (m_goes : CalleeM P w K mg base k cSearch "goes_on" (q_Search_goes_on cSearch 16)) {kS : Nat} (hkS : kS + 1 ≤ k) (mkS : MakeOk P w K mg base kS "Search" cSearch "near" "below" q_mkSearch) : Callee P w K mg base (k + 1) "fewest" q_fewest := by
  refine mk_callee L sc_fewest b_fewest (fun tw => d_fewest T c_most_at (c_paper_by_place.imp pbp_imp) c_paper_by_set TSearch m_goes hkS mkS) (fun ds P ⟨n, ts, e, _⟩ => by rw [e]; rfl) fun ds P ⟨n, ts, e, W, h⟩ => ?_
  subst e
  have n12 := W.n12
  have t16 := W.t16
  unfold k_fewest
  walk_at "vc"
  refine ⟨n, ts, rfl, W, fun m hm => ?_⟩
  walk_at "vc"
  refine ⟨n, ts, rfl, W, fun m2 pa hm2 hpa => ?_⟩
  have e2 := most_eq hm2 hm
  subst e2
  walk_at "vc"
  refine ⟨fun ρ => ∃ (num : Nat) (pa : Option Pap) (wh : Option (List (Option Nat))) (s4 s5 : Slot), m2 ≤ num ∧ num ≤ ts.length ∧ PapFor n ts num pa ∧ (∀ r, wh = some r → Whole ts r num) ∧ ρ = [.p (webD n ts), .p (nat num), .p (papO pa), .p (wholeO wh), s4, s5], fun ρ => match ρ with
    | [_, .p (.int num), _, .p d, _, _] => 2 * (40 - num.toNat) + (if isN d = true then 1 else 0)
    | _ => 0, ⟨m2, pa, none, _, _, Nat.le_refl _, most_le hm, hpa, fun _ z => (nomatch z), rfl⟩, ?_⟩
  rintro ρ' ⟨num, pa', wh, s4, s5, h1, h2, h3, h4, rfl⟩
  cases wh with
  | some r =>
    unfold wholeO rowD
    walk_at "vc"
    exact h num r pa' (h4 r rfl) (by omega) h3
  | none =>
    unfold wholeO
    walk_at "vc"
    refine ⟨n, ts, num, rfl, W, fun p hp => Nat.le_trans (hm.2 p hp) h1, ?_, fun S hS => ?_⟩
    · walk_at "vc"
      unfold kMake
      walk_at "vc"
      refine ⟨n, ts, num, rfl, W, ?_⟩
      have sz : sizeLine = 16777216 := rfl
      refine ⟨_, _, _, _, rfl, by decide, by decide, by omega, by omega, by omega, ?_⟩
      rw [Int.toNat_natCast, flat_non]
      refine ⟨n, ts, List.replicate ts.length none, num, rfl, W, below_none ts num, by omega, ?_, fun r' hw => ?_, fun d hd => ?_⟩
      · have := List.length_filter_le (fun i => (hue (List.replicate ts.length none) i).isNone) (List.range (List.replicate ts.length (none : Option Nat)).length)
        rw [List.length_range, List.length_replicate] at this
        unfold nBare bares
        rw [List.length_replicate]
        omega
      · refine ⟨_, rfl, rfl, _, _, rfl, _, _, rfl, rfl, ?_⟩
        unfold rowD
        walk_at "vc"
        exact ⟨⟨num, h1, h2, pa', h3, some r', fun r e => (by cases e; exact hw), rfl, rfl, rfl⟩, by simp⟩
      · refine ⟨_, rfl, rfl, _, _, rfl, _, _, rfl, rfl, ?_⟩
        walk_at "vc"
        have lt : num < ts.length := Classical.byContradiction fun z => no_tree (by omega) hd (by decide)
        exact ⟨⟨num + 1, by omega, by omega, some (.tree d), ⟨⟨fun z => (by omega), fun z => (by cases z)⟩, fun p e => (by cases e; exact ⟨(hd 20 (by decide)).1, (hd 20 (by decide)).2 [] (matches_none _)⟩)⟩, none, fun r e => (by cases e), by omega, rfl, rfl⟩, by omega⟩
    · obtain ⟨lt, hSn⟩ := full_lt hS
      unfold papD
      walk_at "vc"
      exact ⟨⟨num + 1, by omega, by omega, some (.set S), ⟨⟨fun z => (by omega), fun z => (by cases z)⟩, fun p e => (by cases e; exact ⟨Nat.le_trans hSn (by omega), hS⟩)⟩, none, fun r e => (by cases e), by omega, rfl, rfl⟩, by omega⟩
end
end U
set_option Elab.async false
set_option linter.all false
set_option maxRecDepth 100000
set_option maxHeartbeats 1000000
namespace U
open PySem PySem.Spec PyProof.Rows L2
local macro_rules | `(tactic| walk_at "vc") => `(tactic| (first | simp only [hueD_n, hueD_s, kOoNew, kOoApp, Slot.oo.injEq, c_0, c_1, c_2, c_3, eq_self, kLenSet, kFldC, kMeth, kOwn, kApp, kExt, kIns, kPop, kPut, kAugA, kPar, kDk0, kDk1, kDkPut, kDt0, kDtPut, kUpd, kInDk, kInDt, kSorted, kTapeSet, kSwap, kCount, kIndex, kLstR, kCallF, kBinF, catP, listP, max2P, min2P, intBP, absP, tupleP, Slot.dk.injEq, Slot.dt.injEq, reduceCtorEq, false_and, exists_false, and_assoc, lenP, seq_l, seq_t, seq_s, natsD, natsT, rowD, num_nat, Nat.reduceLeDiff, inP, ninP, ni_i, ni_n, ni_hue, eqN_ih, eqN_ii, eqN_nn, eqN_ni, eqN_in, any_nats', any_hues_n, any_hues_i, all_ni, all_niH, beq_nat, List.all_cons, List.all_nil, List.any_cons, List.any_nil, Bool.or_false, Bool.and_true, Bool.true_and, at0, at1, at2, at3, kSl, koN, koS, slP, kItET, kItE, kItS, kItR1, kItR2, kItZ, kItZM, webD, nat, tieD, le0, lt_nat, le_nat, eq_nat, decide_true, decide_false, decide_eq_true_eq, kSeq, kNext, kRet, kSet, kDrop, kTgt, ksIf, kVar, kVarB, rdB_p, rdB_o, kC, kBin, kF, q_add_ii, q_add_ll, q_add_tt, q_sub_ii, q_mul_ii, q_mul_li, q_mod_ii, q_fdiv_ii, q_pow_ii, q_ix_l, q_ix_t, q_ix_s, q_ix_tp, q_ii, q_is_bb, q_is_n, q_nis_bb, q_nis_n, q_eq_ii, q_eq_ni, q_eq_in, q_eq_nn, q_eq_ss, q_eq_tt, q_eq_ll, q_isN_n, q_isN_i, q_isN_t, q_isN_l, q_isN_b, kNeg, kCmp, kCmpT, kChain, kBo, neP, kAnd, kOr, kNot, tkAnd, tkOr, tkNot, tkV, kIf, kNil, kCons, kTup, kLst, kCall, kIsi, gkName, gkTup, gkCons, gkNil, tkYes, relP, kRel, wipeP, startP, List.map_cons, List.map_nil, List.length_cons, List.length_nil, List.replicate_succ, List.replicate_zero, List.cons_append, List.nil_append, List.append_nil, Nat.reduceSub, Nat.reduceAdd, Nat.sub_self, List.getElem?_cons_zero, List.getElem?_cons_succ, List.getElem?_nil, List.set_cons_zero, List.set_cons_succ, List.set_nil, Option.some.injEq, Slot.p.injEq, Slot.o.injEq, D.tup.injEq, D.lst.injEq, D.int.injEq, D.bl.injEq, D.str.injEq, exists_eq_left', exists_eq_left, exists_eq_right, exists_eq_right', exists_and_left, exists_eq', exists_eq, and_true, true_and, Bool.not_true, Bool.not_false, if_true, if_false, Bool.false_eq_true, ite_true, ite_false, reduceIte, List.cons.injEq, List.length_map] | skip))
section
variable {P : Program} {w : World} {K : PySem.W.Frag} {mg : Str → Option Value} {base : Heap} {k : Nat} {cLists : Addr}
/-! ### ties_beside -/
def q_ties_beside : PSp := fun ds P => ∃ n ts, ds = [webD n ts] ∧ Web n ts ∧ P (nearD ts)
theorem ok_ties_beside (T : Tx K mg) (L : Lo K mg "ties_beside" S_ties_beside) : Callee P w K mg base (k + 1) "ties_beside" q_ties_beside := by
  refine mk_callee L sc_ties_beside b_ties_beside (fun tw => d_ties_beside T) (fun ds P ⟨n, ts, e, _⟩ => by rw [e]; rfl) fun ds P ⟨n, ts, e, W, h⟩ => ?_
  subst e
  have t16 := W.t16
  unfold k_ties_beside
  walk_at "vc"
  intro p0
  refine for_rng ts.length (fun i => .tup [nat i, tieD (tie ts i)]) (fun Q hQ => ?_) (fun j ρ => ∃ s2 s3 s4 s5 s6, ρ = [.p (webD n ts), .o p0 ((List.range j).map fun i => natsD (nearOf ts i)), s2, s3, s4, s5, s6]) ⟨_, _, _, _, _, rfl⟩ (fun i ρ' hi ⟨s2, s3, s4, s5, s6, e⟩ => ?_) fun ρ' ⟨s2, s3, s4, s5, s6, e⟩ => ?_
  · walk_at "vc"
    rw [enum_map ts tieD (0, 0)]
    exact hQ
  · subst e
    walk_at "vc"
    refine ⟨by rw [List.length_range]; omega, ?_⟩
    refine lc_rng ts.length (fun i => .tup [nat i, tieD (tie ts i)]) (fun Q hQ => ?_) (fun j => !(j == i) && meet (tie ts j) (tie ts i)) nat (fun j hj Q A h1 h2 => ?_) ?_
    · walk_at "vc"
      rw [enum_map ts tieD (0, 0)]
      exact hQ
    · walk_at "vc"
      have e0 : (j == i) = decide (j = i) := Bool.beq_eq_decide_eq ..
      rw [e0] at h1 h2
      refine fin_if (fun e => ?_) fun e => ?_
      · rw [e, Bool.true_and] at h1 h2
        exact fin_or h1 h2
      · exact h2 (by rw [e]; rfl)
    · rw [List.range_succ, List.map_append]
      rfl
  · subst e
    walk_at "vc"
    exact h
/-! ### Lists -/
theorem b_Lists_left_for {f : Addr} {fd : FuncData} (F : Fun K "left_for" "Lists.left_for" S_Lists_left_for f fd) : Binds K fd ["self", "row", "tie"] [] := F.binds (ps := ["self", "row", "tie"]) fun _ _ _ _ _ _ us hl => match us, hl with | [_, _, _], _ => rfl
theorem b_Lists_whole_from {f : Addr} {fd : FuncData} (F : Fun K "whole_from" "Lists.whole_from" S_Lists_whole_from f fd) : Binds K fd ["self", "row", "ties"] [] := F.binds (ps := ["self", "row", "ties"]) fun _ _ _ _ _ _ us hl => match us, hl with | [_, _, _], _ => rfl
def listsL (m h : Nat) : D := .lst (List.replicate m (natsD (List.range h)))
def listsD (cLists : Addr) (ts : List Tie) (h : Nat) : D := .ins cLists "beside" "own_lists" (nearD ts) (listsL ts.length h)
def q_Lists_left_for (cLists : Addr) : PSp := fun ds P => ∃ ts r h i, ds = [listsD cLists ts h, rowD r, nat i] ∧ r.length = ts.length ∧ i < ts.length ∧ h ≤ 1000 ∧ P (natsD (freeOf ts r h i))
theorem at_repl {m i : Nat} {d : D} (h : i < m) : atI (List.replicate m d) (i : Int) = some d := atI_nat (by rw [List.getElem?_replicate, if_pos h])
theorem ok_Lists_left_for (T : Tx K mg) (TLists : TcLists K cLists) (L : LoM K cLists "left_for" "Lists.left_for" S_Lists_left_for) : CalleeM P w K mg base (k + 1) cLists "left_for" (q_Lists_left_for cLists) := by
  refine mk_calleeM L sc_Lists_left_for b_Lists_left_for (fun tw => d_Lists_left_for T TLists) (fun ds P ⟨ts, r, hh, i, e, _⟩ => by rw [e]; rfl) fun ds P ⟨ts, r, hh, i, e, hr, hi, hz, h⟩ => ?_
  subst e
  unfold k_Lists_left_for listsD nearD listsL
  walk_at "vc"
  refine lc_map (nearOf ts i) nat (fun Q hQ => ?_) (fun _ => true) (fun j => hueD (hue r j)) (fun j hj Q A h1 _ => ?_) ?_
  · walk_at "vc"
    refine ⟨_, _, _, _, rfl, .inl ⟨rfl, ?_⟩⟩
    rw [q_ix_l]
    exact ⟨_, at_near hi, hQ⟩
  · have hj := near_lt hj
    walk_at "vc"
    rw [at_hue (by rw [hr]; exact hj)]
    exact ⟨_, rfl, h1 rfl⟩
  · rw [List.filter_eq_self.mpr fun _ _ => rfl, show (nearOf ts i).map (fun j => hueD (hue r j)) = ((nearOf ts i).map (hue r)).map hueD from by rw [List.map_map]; rfl]
    walk_at "vc"
    refine lc_map (List.range hh) nat (fun Q hQ => ?_) (fun c => !((nearOf ts i).map (hue r)).contains (some c)) nat (fun c hc Q A h1 h2 => ?_) h
    · walk_at "vc"
      refine ⟨_, _, _, _, rfl, .inr ⟨by decide, rfl, ?_⟩⟩
      rw [q_ix_l]
      exact ⟨_, at_repl hi, hQ⟩
    · walk_at "vc"
      exact fin_if h1 h2
def q_Lists_next_tie (cLists : Addr) : PSp := fun ds P => ∃ ts r h C, ds = [listsD cLists ts h, rowD r, natsD C] ∧ r.length = ts.length ∧ (∀ i ∈ C, i < ts.length) ∧ h ≤ 1000 ∧ ((∀ i ∈ C, hue r i ≠ none) → P .non) ∧ ∀ i ∈ C, hue r i = none → P (nat i)
theorem ok_Lists_next_tie (T : Tx K mg) (TLists : TcLists K cLists) (TB : LamX.TabB base mg (He.cT K ("Lists", some "next_tie")).1 (TbK K)) (L : LoT K cLists S_Lists_next_tie) (m_left : CalleeM P w K mg base k cLists "left_for" (q_Lists_left_for cLists)) : CalleeM P w K mg base (k + 3) cLists "next_tie" (q_Lists_next_tie cLists) := by
  refine mk_calleeT L sc_Lists_next_tie b_Lists_next_tie (fun tw => d_Lists_next_tie T TLists TB m_left) (fun ds P ⟨ts, r, hh, C, e, _⟩ => by rw [e]; rfl) fun ds P ⟨ts, r, hh, C, e, hr, hC, hz, hnon, hsome⟩ => ?_
  subst e
  unfold k_Lists_next_tie
  walk_at "vc"
  refine lc_map C nat (fun Q hQ => ?_) (fun i => (hue r i).isNone) nat (fun i hi Q A h1 h2 => ?_) ?_
  · walk_at "vc"
    exact hQ
  · walk_at "vc"
    rw [at_hue (by rw [hr]; exact hC i hi)]
    refine ⟨_, rfl, ?_⟩
    rw [isN_hue]
    exact fin_if h1 h2
  · intro p
    generalize hB : C.filter (fun i => (hue r i).isNone) = B
    have hBm : ∀ i, i ∈ B ↔ i ∈ C ∧ hue r i = none := fun i => by rw [← hB, List.mem_filter, Option.isNone_iff_eq_none]
    refine ⟨?_, fin_if (fun e => ?_) fun e => hnon fun i hi hn => ?_⟩
    · rw [List.all_map]
      exact List.all_eq_true.mpr fun _ _ => rfl
    · unfold kMinLam k_lam
      walk_at "vc"
      refine ⟨fun z => ?_, fun d hd => ?_, fun d hd => ?_⟩
      · rw [z] at e; cases e
      · obtain ⟨i, hi, rfl⟩ := List.mem_map.mp hd
        obtain ⟨hi1, hi2⟩ := (hBm i).mp hi
        walk_at "vc"
        refine ⟨_, rfl, _, _, _, _, rfl, by decide, by decide, _, rfl, ts, r, hh, i, rfl, hr, hC i hi1, hz, _, rfl, _, rfl, _, _, _, _, rfl, .inl ⟨rfl, ?_⟩⟩
        unfold nearD
        rw [q_ix_l]
        exact ⟨_, at_near (hC i hi1), _, rfl⟩
      · obtain ⟨i, hi, rfl⟩ := List.mem_map.mp hd
        obtain ⟨hi1, hi2⟩ := (hBm i).mp hi
        exact hsome i hi1 hi2
    · have : i ∈ B := (hBm i).mpr ⟨hi, hn⟩
      cases B with
      | nil => cases this
      | cons _ _ => cases e
/-! ### whole_from -/
def Closed (ts : List Tie) (C : List Nat) : Prop := (∀ i ∈ C, i < ts.length) ∧ ∀ i ∈ C, ∀ j, j < ts.length → meet (tie ts j) (tie ts i) = true → j ∈ C
def MatchC (r : List (Option Nat)) (C : List Nat) (way : Way) : Prop := ∀ i c, (i, c) ∈ way ↔ i ∈ C ∧ hue r i = some c
def TreeForE (ts : List Tie) (r : List (Option Nat)) (C : List Nat) (h b : Nat) (d : D) : Prop := ∀ f, b ≤ f → TreeD f d ∧ ∀ way, MatchC r C way → isE ts h f way d = true
theorem free_mem {ts : List Tie} {r : List (Option Nat)} {h i c : Nat} (hc : c ∈ freeOf ts r h i) : c < h ∧ ∀ j, j < ts.length → j ≠ i → meet (tie ts j) (tie ts i) = true → hue r j ≠ some c := by
  obtain ⟨h2, h3⟩ := List.mem_filter.mp hc
  refine ⟨List.mem_range.mp h2, fun j hj hne hm e => ?_⟩
  rw [Bool.not_eq_true', ← Bool.not_eq_true, List.contains_iff_mem] at h3
  refine h3 (List.mem_map.mpr ⟨j, List.mem_filter.mpr ⟨List.mem_range.mpr hj, ?_⟩, e⟩)
  rw [hm, Bool.and_true, Bool.not_eq_true', beq_eq_false_iff_ne]
  exact hne
theorem free_len (ts : List Tie) (r : List (Option Nat)) (h i : Nat) : (freeOf ts r h i).length ≤ h := by
  have := List.length_filter_le (fun c => !((nearOf ts i).map (hue r)).contains (some c)) (List.range h)
  rw [List.length_range] at this
  exact this
theorem below_free {ts : List Tie} {r : List (Option Nat)} {h i c : Nat} (hb : Below ts r h) (hi : i < ts.length) (hc : c ∈ freeOf ts r h i) : Below ts (r.set i (some c)) h := by
  obtain ⟨c1, c2⟩ := free_mem hc
  have hil : i < r.length := by rw [hb.1.1]; exact hi
  refine ⟨⟨by rw [List.length_set]; exact hb.1.1, fun x y e hxy hy h1 h2 => ?_⟩, fun x e hx h1 => ?_⟩
  · rw [hue_set hil] at h1 h2
    by_cases e1 : x = i
    · rw [if_pos e1] at h1
      rw [if_neg (by omega)] at h2
      cases h1
      refine Bool.eq_false_iff.mpr fun z => c2 y hy (by omega) ?_ h2
      rw [meet_symm, ← e1]; exact z
    · rw [if_neg e1] at h1
      by_cases e2 : y = i
      · rw [if_pos e2] at h2
        cases h2
        refine Bool.eq_false_iff.mpr fun z => c2 x (by omega) e1 ?_ h1
        rw [← e2]; exact z
      · rw [if_neg e2] at h2
        exact hb.1.2 x y e hxy hy h1 h2
  · rw [hue_set hil] at h1
    by_cases e1 : x = i
    · rw [if_pos e1] at h1; cases h1; exact c1
    · rw [if_neg e1] at h1; exact hb.2 x e hx h1
theorem left_eq {ts : List Tie} {r : List (Option Nat)} {C : List Nat} {way : Way} {h i : Nat} (hC : Closed ts C) (hm : MatchC r C way) (hi : i ∈ C) (hn : hue r i = none) : leftW ts h way i = freeOf ts r h i := by
  unfold leftW freeOf
  refine List.filter_congr fun c _ => ?_
  have e : (taken ts way i).contains c = ((nearOf ts i).map (hue r)).contains (some c) := by
    rw [Bool.eq_iff_iff, List.contains_iff_mem, List.contains_iff_mem]
    unfold taken nearOf
    rw [List.mem_map, List.mem_map]
    constructor
    · rintro ⟨⟨j, d⟩, h1, rfl⟩
      obtain ⟨h1, h2⟩ := List.mem_filter.mp h1
      obtain ⟨h4, h3⟩ := (hm j d).mp h1
      refine ⟨j, List.mem_filter.mpr ⟨List.mem_range.mpr (hC.1 j h4), ?_⟩, h3⟩
      have hji : j ≠ i := fun e => by rw [e, hn] at h3; cases h3
      rw [show (j == i) = false from beq_eq_false_iff_ne.mpr hji, h2]; rfl
    · rintro ⟨j, h1, h2⟩
      obtain ⟨h1, h3⟩ := List.mem_filter.mp h1
      rw [Bool.and_eq_true] at h3
      exact ⟨(j, c), List.mem_filter.mpr ⟨(hm j c).mpr ⟨hC.2 i hi j (List.mem_range.mp h1) h3.2, h2⟩, h3.2⟩, rfl⟩
  rw [e]
theorem matchC_set {r : List (Option Nat)} {C : List Nat} {way : Way} {i c : Nat} (hm : MatchC r C way) (hi : i ∈ C) (h : i < r.length) (hn : hue r i = none) : MatchC (r.set i (some c)) C (way ++ [(i, c)]) := by
  intro j d
  rw [List.mem_append, hm, hue_set h, List.mem_singleton]
  by_cases e : j = i
  · subst e
    rw [if_pos rfl, hn]
    constructor
    · rintro (⟨_, z⟩ | z)
      · cases z
      · cases z; exact ⟨hi, rfl⟩
    · rintro ⟨_, z⟩; cases z; exact .inr rfl
  · rw [if_neg e]
    constructor
    · rintro (z | z)
      · exact z
      · cases z; exact absurd rfl e
    · exact .inl
def q_Lists_whole_from (cLists : Addr) (b : Nat) : PSp := fun ds P => ∃ n ts r h C, ds = [listsD cLists ts h, rowD r, natsD C] ∧ Web n ts ∧ Below ts r h ∧ Closed ts C ∧ h ≤ 1000 ∧ nBare r ≤ b ∧ (∀ r', Below ts r' h → (∀ i ∈ C, hue r' i ≠ none) → (∀ i, i ∉ C → hue r' i = hue r i) → P (.tup [rowD r', .non])) ∧ ∀ d, TreeForE ts r C h b d → P (.tup [.non, d])
theorem ok_Lists_whole_from (T : Tx K mg) (TLists : TcLists K cLists) (L : LoM K cLists "whole_from" "Lists.whole_from" S_Lists_whole_from) (b : Nat) (m_next : CalleeM P w K mg base (k + b) cLists "next_tie" (q_Lists_next_tie cLists)) (m_left : CalleeM P w K mg base (k + b) cLists "left_for" (q_Lists_left_for cLists)) {q' : PSp} (hq' : ∀ ds P, b ≠ 0 → q_Lists_whole_from cLists (b - 1) ds P → q' ds P) (ih0 : CalleeM P w K mg base (k + b) cLists "whole_from" q') : CalleeM P w K mg base (k + b + 1) cLists "whole_from" (q_Lists_whole_from cLists b) := by
  refine mk_calleeM L sc_Lists_whole_from b_Lists_whole_from (fun tw => d_Lists_whole_from T TLists m_next m_left ih0) (fun ds P ⟨n, ts, r, hh, C, e, _⟩ => by rw [e]; rfl) fun ds P ⟨n, ts, r, hh, C, e, W, hb, hC, hz, hnb, hwhole, htree⟩ => ?_
  subst e
  have t16 := W.t16
  unfold k_Lists_whole_from
  walk_at "vc"
  refine ⟨_, _, _, _, rfl, by decide, by decide, ts, r, hh, C, rfl, hb.1.1, hC.1, hz, fun hall => ?_, fun i hiC hn => ?_⟩
  · walk_at "vc"
    exact hwhole r hb hall fun _ _ => rfl
  · have hi := hC.1 i hiC
    walk_at "vc"
    intro p0
    have fl := free_len ts r hh i
    refine for_map (freeOf ts r hh i) nat (fun Q hQ => ?_) (fun j ρ => ∃ (ds : List D) (s5 s6 s7 : Slot), ds.length = j ∧ (∀ (x : Nat) c d, (freeOf ts r hh i)[x]? = some c → ds[x]? = some d → TreeForE ts (r.set i (some c)) C hh (b - 1) d) ∧ ρ = [.p (listsD cLists ts hh), .p (rowD r), .p (natsD C), .p (nat i), .o p0 ds, s5, s6, s7]) ⟨[], _, _, _, rfl, fun _ _ _ _ z => (by simp at z), rfl⟩ (fun j c ρ' hc ⟨ds, s5, s6, s7, hl, hds, e⟩ => ?_) fun ρ' ⟨ds, s5, s6, s7, hl, hds, e⟩ => ?_
    · walk_at "vc"
      refine ⟨_, _, _, _, rfl, by decide, by decide, ts, r, hh, i, rfl, hb.1.1, hi, hz, ?_⟩
      walk_at "vc"
      exact hQ
    · subst e
      unfold kTgt
      walk_at "vc"
      have hil : i < r.length := by rw [hb.1.1]; exact hi
      refine ⟨_, _, _, _, rfl, by decide, by decide, ?_⟩
      rw [cut_to (by rw [List.length_map]; omega), cut_from (by rw [List.length_map]; omega), set_cut hil]
      have sz : sizeLine = 16777216 := rfl
      have hb0 : b ≠ 0 := by have := bare_set (c := c) hil hn; omega
      refine ⟨?_, ?_, hq' _ _ hb0 ⟨n, ts, r.set i (some c), hh, C, rfl, W, ?_, hC, hz, ?_, fun r' hw ha ho => ?_, fun d hd => ?_⟩⟩
      · rw [List.length_take, List.length_map, sz, hb.1.1]; omega
      · rw [List.length_append, List.length_take, List.length_drop, List.length_map, List.length_singleton, sz, hb.1.1]; omega
      · exact below_free hb hi (List.mem_of_getElem? hc)
      · have := bare_set (c := c) hil hn; omega
      · refine ⟨_, rfl, rfl, _, _, rfl, _, _, rfl, rfl, ?_⟩
        walk_at "vc"
        refine hwhole r' hw ha fun j hj => ?_
        rw [ho j hj, hue_set hil, if_neg fun (e : j = i) => hj (by rw [e]; exact hiC)]
      · refine ⟨_, rfl, rfl, _, _, rfl, _, _, rfl, rfl, ?_⟩
        walk_at "vc"
        have hcl := (List.getElem?_eq_some_iff.mp hc).1
        refine ⟨by omega, ds ++ [d], by rw [List.length_append, List.length_singleton, hl], fun x c2 d2 h1 h2 => ?_, rfl⟩
        by_cases hx : x < ds.length
        · rw [List.getElem?_append_left hx] at h2
          exact hds x c2 d2 h1 h2
        · have hxe : x = j := by
            have := (List.getElem?_eq_some_iff.mp h2).1
            rw [List.length_append, List.length_singleton] at this
            omega
          subst hxe
          rw [hc] at h1
          cases h1
          rw [List.getElem?_append_right (by omega), hl, Nat.sub_self] at h2
          cases h2
          exact hd
    · subst e
      walk_at "vc"
      have hil : i < r.length := by rw [hb.1.1]; exact hi
      refine htree _ fun f hf => ?_
      have := bare_set (c := 0) hil hn
      obtain ⟨f', rfl⟩ : ∃ f', f = f' + 1 := ⟨f - 1, by omega⟩
      have at_ : ∀ x, x < ds.length → TreeForE ts (r.set i (some ((freeOf ts r hh i).getD x 0))) C hh (b - 1) (ds.getD x .non) := fun x hx => hds x _ _ (by rw [List.getD_eq_getElem?_getD, List.getElem?_eq_getElem (by omega)]; rfl) (by rw [List.getD_eq_getElem?_getD, List.getElem?_eq_getElem hx]; rfl)
      refine ⟨⟨i, ds, rfl, by omega, fun d hd => ?_⟩, fun way hm => ?_⟩
      · obtain ⟨x, hx, e⟩ := List.mem_iff_getElem.mp hd
        have := (at_ x hx f' (by omega)).1
        rw [List.getD_eq_getElem?_getD, List.getElem?_eq_getElem hx] at this
        rw [← e]; exact this
      · show isE ts hh (f' + 1) way (.tup [nat i, .tup ds]) = true
        rw [isE_at, left_eq hC hm hiC hn, decide_eq_true hi, decide_eq_true hl, Bool.true_and, Bool.and_true, Bool.and_eq_true]
        refine ⟨?_, List.all_eq_true.mpr fun x hx => ?_⟩
        · rw [Bool.not_eq_true', ← Bool.not_eq_true, List.contains_iff_mem]
          intro z
          obtain ⟨⟨j, c⟩, h1, rfl⟩ := List.mem_map.mp z
          have := ((hm j c).mp h1).2
          rw [hn] at this; cases this
        · have hx := List.mem_range.mp hx
          exact (at_ x hx f' (by omega)).2 _ (matchC_set hm hiC hil hn)
theorem ok_whole_from_all (T : Tx K mg) (TLists : TcLists K cLists) (L : LoM K cLists "whole_from" "Lists.whole_from" S_Lists_whole_from) (m_next : CalleeM P w K mg base k cLists "next_tie" (q_Lists_next_tie cLists)) (m_left : CalleeM P w K mg base k cLists "left_for" (q_Lists_left_for cLists)) : ∀ b, CalleeM P w K mg base (k + b + 1) cLists "whole_from" (q_Lists_whole_from cLists b)
  | 0 => ok_Lists_whole_from T TLists L 0 m_next m_left (q' := q_no) (fun _ _ h => absurd rfl h) (by
    obtain ⟨f, fd, h1, F⟩ := L.ex
    exact ⟨f, fd, ["self", "row", "ties"], h1, b_Lists_whole_from F, ⟨fun vs H Q E ⟨_, _, ds, _, _, _, _, _, z, _⟩ => z.elim, fun A outer s H args us vs Q E _ _ _ _ ⟨_, _, ds, _, _, _, _, _, z, _⟩ => z.elim⟩⟩)
  | b + 1 => ok_Lists_whole_from T TLists L (b + 1) (m_next.mono (by omega)) (m_left.mono (by omega)) (q' := q_Lists_whole_from cLists b) (fun _ _ _ h => h) (ok_whole_from_all T TLists L m_next m_left b)
end
end U
set_option Elab.async false
set_option linter.all false
set_option maxRecDepth 100000
set_option maxHeartbeats 1000000
namespace U
open PySem PySem.Spec PyProof.Rows L2
local macro_rules | `(tactic| walk_at "vc") => `(tactic| (first | simp only [hueD_n, hueD_s, kOoNew, kOoApp, Slot.oo.injEq, c_0, c_1, c_2, c_3, eq_self, kLenSet, kFldC, kMeth, kOwn, kApp, kExt, kIns, kPop, kPut, kAugA, kPar, kDk0, kDk1, kDkPut, kDt0, kDtPut, kUpd, kInDk, kInDt, kSorted, kTapeSet, kSwap, kCount, kIndex, kLstR, kCallF, kBinF, catP, listP, max2P, min2P, intBP, absP, tupleP, Slot.dk.injEq, Slot.dt.injEq, reduceCtorEq, false_and, exists_false, and_assoc, lenP, seq_l, seq_t, seq_s, natsD, natsT, rowD, num_nat, Nat.reduceLeDiff, inP, ninP, ni_i, ni_n, ni_hue, eqN_ih, eqN_ii, eqN_nn, eqN_ni, eqN_in, any_nats', any_hues_n, any_hues_i, all_ni, all_niH, beq_nat, List.all_cons, List.all_nil, List.any_cons, List.any_nil, Bool.or_false, Bool.and_true, Bool.true_and, at0, at1, at2, at3, kSl, koN, koS, slP, kItET, kItE, kItS, kItR1, kItR2, kItZ, kItZM, webD, nat, tieD, le0, lt_nat, le_nat, eq_nat, decide_true, decide_false, decide_eq_true_eq, kSeq, kNext, kRet, kSet, kDrop, kTgt, ksIf, kVar, kVarB, rdB_p, rdB_o, kC, kBin, kF, q_add_ii, q_add_ll, q_add_tt, q_sub_ii, q_mul_ii, q_mul_li, q_mod_ii, q_fdiv_ii, q_pow_ii, q_ix_l, q_ix_t, q_ix_s, q_ix_tp, q_ii, q_is_bb, q_is_n, q_nis_bb, q_nis_n, q_eq_ii, q_eq_ni, q_eq_in, q_eq_nn, q_eq_ss, q_eq_tt, q_eq_ll, q_isN_n, q_isN_i, q_isN_t, q_isN_l, q_isN_b, kNeg, kCmp, kCmpT, kChain, kBo, neP, kAnd, kOr, kNot, tkAnd, tkOr, tkNot, tkV, kIf, kNil, kCons, kTup, kLst, kCall, kIsi, gkName, gkTup, gkCons, gkNil, tkYes, relP, kRel, wipeP, startP, List.map_cons, List.map_nil, List.length_cons, List.length_nil, List.replicate_succ, List.replicate_zero, List.cons_append, List.nil_append, List.append_nil, Nat.reduceSub, Nat.reduceAdd, Nat.sub_self, List.getElem?_cons_zero, List.getElem?_cons_succ, List.getElem?_nil, List.set_cons_zero, List.set_cons_succ, List.set_nil, Option.some.injEq, Slot.p.injEq, Slot.o.injEq, D.tup.injEq, D.lst.injEq, D.int.injEq, D.bl.injEq, D.str.injEq, exists_eq_left', exists_eq_left, exists_eq_right, exists_eq_right', exists_and_left, exists_eq', exists_eq, and_true, true_and, Bool.not_true, Bool.not_false, if_true, if_false, Bool.false_eq_true, ite_true, ite_false, reduceIte, List.cons.injEq, List.length_map] | skip))
section
variable {P : Program} {w : World} {K : PySem.W.Frag} {mg : Str → Option Value} {base : Heap} {k : Nat} {cLists : Addr}
/-! ### lists_for -/
def q_lists_for : PSp := fun ds P => ∃ m h, ds = [rowD (List.replicate m none), nat h] ∧ h ≤ 1000 ∧ P (listsL m h)
theorem ok_lists_for (T : Tx K mg) (L : Lo K mg "lists_for" S_lists_for) : Callee P w K mg base (k + 1) "lists_for" q_lists_for := by
  refine mk_callee L sc_lists_for b_lists_for (fun tw => d_lists_for T) (fun ds P ⟨m, hh, e, _⟩ => by rw [e]; rfl) fun ds P ⟨m, hh, e, hz, h⟩ => ?_
  subst e
  unfold k_lists_for
  walk_at "vc"
  refine lc_map (List.replicate m (none : Option Nat)) hueD (fun Q hQ => ?_) (fun _ => true) (fun _ => natsD (List.range hh)) (fun x hx Q A h1 _ => ?_) ?_
  · walk_at "vc"
    exact hQ
  · rw [(List.mem_replicate.mp hx).2]
    walk_at "vc"
    refine ⟨by omega, by omega, ?_⟩
    rw [rng_nat]
    exact h1 rfl
  · rw [List.filter_eq_self.mpr fun _ _ => rfl, List.map_replicate]
    exact h
/-! ### from_lists -/
theorem mem_within {ts : List Tie} {S : List Nat} {i : Nat} : i ∈ withinL ts S ↔ i < ts.length ∧ (tie ts i).1 ∈ S ∧ (tie ts i).2 ∈ S := by
  unfold withinL
  rw [List.mem_filter, List.mem_range, Bool.and_eq_true, List.contains_iff_mem, List.contains_iff_mem]
theorem meet_iff {t u : Tie} : meet t u = true ↔ (t.1 = u.1 ∨ t.2 = u.1) ∨ (t.1 = u.2 ∨ t.2 = u.2) := by
  unfold meet
  rw [Bool.or_eq_true, Bool.or_eq_true, Bool.or_eq_true, beq_iff_eq, beq_iff_eq, beq_iff_eq, beq_iff_eq]
theorem part_in {n : Nat} {ts : List Tie} {ps : List (List Nat)} (W : Web n ts) (hps : IsParts n ts ps) {l : List Nat} (hl : l ∈ ps) {j : Nat} (hj : j < ts.length) (h : (tie ts j).1 ∈ l ∨ (tie ts j).2 ∈ l) : j ∈ withinL ts l := by
  obtain ⟨⟨p, c⟩, _⟩ := hps.comp l hl
  rcases h with h | h
  · exact mem_within.mpr ⟨hj, h, c.cl _ h _ ((mem_nbP W).mpr ⟨j, hj, .inl ⟨rfl, rfl⟩⟩)⟩
  · exact mem_within.mpr ⟨hj, c.cl _ h _ ((mem_nbP W).mpr ⟨j, hj, .inr ⟨rfl, rfl⟩⟩), h⟩
theorem part_closed {n : Nat} {ts : List Tie} {ps : List (List Nat)} (W : Web n ts) (hps : IsParts n ts ps) {l : List Nat} (hl : l ∈ ps) : Closed ts (withinL ts l) := by
  refine ⟨fun i hi => (mem_within.mp hi).1, fun i hi j hj hm => part_in W hps hl hj ?_⟩
  obtain ⟨_, h1, h2⟩ := mem_within.mp hi
  rcases meet_iff.mp hm with (e | e) | (e | e)
  · exact .inl (by rw [e]; exact h1)
  · exact .inr (by rw [e]; exact h1)
  · exact .inl (by rw [e]; exact h2)
  · exact .inr (by rw [e]; exact h2)
theorem part_one {n : Nat} {ts : List Tie} {ps : List (List Nat)} (hps : IsParts n ts ps) {x y : Nat} {l m : List Nat} (hx : ps[x]? = some l) (hy : ps[y]? = some m) (h : x < y) {i : Nat} (h1 : i ∈ withinL ts l) (h2 : i ∈ withinL ts m) : False := by
  obtain ⟨h3, rfl⟩ := List.getElem?_eq_some_iff.mp hx
  obtain ⟨h4, rfl⟩ := List.getElem?_eq_some_iff.mp hy
  exact (List.pairwise_iff_getElem.mp hps.dis) x y h3 h4 h _ (mem_within.mp h1).2.1 (mem_within.mp h2).2.1
def Done (ts : List Tie) (ps : List (List Nat)) (j i : Nat) : Prop := ∃ x l, x < j ∧ ps[x]? = some l ∧ i ∈ withinL ts l
def q_mkLists : List D → (D → D → Prop) → Prop := fun ds R => ∃ n ts h, ds = [webD n ts, listsL ts.length h] ∧ Web n ts ∧ h ≤ 1000 ∧ R (nearD ts) (listsL ts.length h)
def q_from_lists : PSp := fun ds P => ∃ n ts h, ds = [webD n ts, listsL ts.length h] ∧ Web n ts ∧ h ≤ 1000 ∧ (∀ r, Whole ts r h → P (.tup [.str "hueing", rowD r])) ∧ ∀ d, TreeD 20 d → isE ts h 20 [] d = true → P (.tup [.str "none", d])
theorem ok_from_lists (T : Tx K mg) (TLists : TcLists K cLists) (L : Lo K mg "from_lists" S_from_lists) (c_parts : Callee P w K mg base k "parts" q_parts) (c_within : Callee P w K mg base k "within" q_within)
    (m_whole : CalleeM P w K mg base k cLists "whole_from" (q_Lists_whole_from cLists 16)) {kS : Nat} (hkS : kS + 1 ≤ k) (mkS : MakeOk P w K mg base kS "Lists" cLists "beside" "own_lists" q_mkLists) : Callee P w K mg base (k + 1) "from_lists" q_from_lists := by
  refine mk_callee L sc_from_lists b_from_lists (fun tw => d_from_lists T c_parts c_within TLists m_whole hkS mkS) (fun ds P ⟨n, ts, hh, e, _⟩ => by rw [e]; rfl) fun ds P ⟨n, ts, hh, e, W, hz, hwhole, htree⟩ => ?_
  subst e
  have n12 := W.n12
  have t16 := W.t16
  unfold k_from_lists
  walk_at "vc"
  unfold kMake
  walk_at "vc"
  refine ⟨n, ts, hh, rfl, W, hz, ?_⟩
  have sz : sizeLine = 16777216 := rfl
  refine ⟨by omega, by omega, by omega, ?_⟩
  rw [Int.toNat_natCast, flat_non]
  refine for_of (Pre := fun ds => ∃ ps, ds = ps.map natsD ∧ IsParts n ts ps) (fun Q hQ => ?_) fun ds ⟨ps, ed, hps⟩ it' hit' => ?_
  · walk_at "vc"
    refine ⟨n, ts, rfl, W, fun ps hps => ?_⟩
    walk_at "vc"
    exact hQ _ ⟨ps, rfl, hps⟩
  subst ed
  refine for_map ps natsD hit' (fun j ρ => ∃ (r : List (Option Nat)) (s4 s5 : Slot), Below ts r hh ∧ (∀ i, Done ts ps j i → hue r i ≠ none) ∧ (∀ i, ¬ Done ts ps j i → hue r i = none) ∧ ρ = [.p (webD n ts), .p (listsL ts.length hh), .p (listsD cLists ts hh), .p (rowD r), s4, s5]) ⟨List.replicate ts.length none, _, _, below_none ts hh, fun i ⟨x, l, hx, _⟩ => (by omega), fun i _ => hue_none _ _, rfl⟩ (fun j l ρ' hl ⟨r, s4, s5, hb, hd1, hd2, e⟩ => ?_) fun ρ' ⟨r, s4, s5, hb, hd1, hd2, e⟩ => ?_
  · subst e
    have hlm := List.mem_of_getElem? hl
    have hC := part_closed W hps hlm
    unfold kTgt
    walk_at "vc"
    refine ⟨_, _, _, _, rfl, by decide, by decide, n, ts, _, l, rfl, rfl, ?_⟩
    refine ⟨n, ts, r, hh, withinL ts l, rfl, W, hb, hC, hz, ?_, fun r' hb' ha ho => ?_, fun d hd => ?_⟩
    · have := List.length_filter_le (fun i => (hue r i).isNone) (List.range r.length)
      rw [List.length_range, hb.1.1] at this
      unfold nBare bares
      rw [hb.1.1]
      omega
    · refine ⟨_, rfl, rfl, _, _, rfl, _, _, rfl, rfl, ?_⟩
      walk_at "vc"
      refine ⟨r', hb', fun i ⟨x, m, hx, hm, hi⟩ => ?_, fun i hi => ?_, rfl⟩
      · by_cases hil : i ∈ withinL ts l
        · exact ha i hil
        · rw [ho i hil]
          refine hd1 i ⟨x, m, ?_, hm, hi⟩
          by_cases e : x = j
          · rw [e, hl] at hm; cases hm
            exact absurd hi hil
          · omega
      · have hil : i ∉ withinL ts l := fun z => hi ⟨j, l, Nat.lt_succ_self j, hl, z⟩
        rw [ho i hil]
        exact hd2 i fun ⟨x, m, hx, z⟩ => hi ⟨x, m, by omega, z⟩
    · refine ⟨_, rfl, rfl, _, _, rfl, _, _, rfl, rfl, ?_⟩
      walk_at "vc"
      have bare : ∀ i ∈ withinL ts l, hue r i = none := fun i hi => hd2 i fun ⟨x, m, hx, hm, z⟩ => part_one hps hm hl hx z hi
      obtain ⟨h1, h2⟩ := hd 20 (by decide)
      exact htree d h1 (h2 [] fun i c => ⟨fun z => (by cases z), fun ⟨z1, z2⟩ => (by rw [bare i z1] at z2; cases z2)⟩)
  · subst e
    walk_at "vc"
    refine hwhole r ⟨hb.1, fun i hi => ?_⟩
    obtain ⟨l, hlm, hp⟩ := hps.all _ (Nat.lt_trans (W.at hi).1 (W.at hi).2)
    obtain ⟨x, hx⟩ := List.getElem?_of_mem hlm
    have := hd1 i ⟨x, l, (List.getElem?_eq_some_iff.mp hx).1, hx, part_in W hps hlm hi (.inl hp)⟩
    cases hc : hue r i with
    | none => exact absurd hc this
    | some c => exact ⟨c, rfl, hb.2 i c hi hc⟩
/-! ### filled -/
def q_filled : PSp := fun ds P => ∃ n ts h, ds = [webD n ts, rowD (List.replicate ts.length none), nat h] ∧ Web n ts ∧ h ≤ 1000 ∧ (∀ r, Whole ts r h → P (.tup [.str "hueing", rowD r])) ∧ ∀ d, TreeD 20 d → isE ts h 20 [] d = true → P (.tup [.str "none", d])
theorem ok_filled (T : Tx K mg) (L : Lo K mg "filled" S_filled) (c_from_lists : Callee P w K mg base k "from_lists" q_from_lists) (c_lists_for : Callee P w K mg base k "lists_for" q_lists_for) : Callee P w K mg base (k + 1) "filled" q_filled := by
  refine mk_callee L sc_filled b_filled (fun tw => d_filled T c_from_lists c_lists_for) (fun ds P ⟨n, ts, hh, e, _⟩ => by rw [e]; rfl) fun ds P ⟨n, ts, hh, e, W, hz, h1, h2⟩ => ?_
  subst e
  unfold k_filled
  walk_at "vc"
  refine ⟨ts.length, hh, rfl, hz, ?_⟩
  walk_at "vc"
  exact ⟨n, ts, hh, rfl, W, hz, h1, h2⟩
end
end U
set_option Elab.async false
set_option linter.all false
set_option maxRecDepth 100000
set_option maxHeartbeats 1000000
namespace U
open PySem PySem.Spec PyProof.Rows L2
local macro_rules | `(tactic| walk_at "vc") => `(tactic| (first | simp only [hueD_n, hueD_s, kOoNew, kOoApp, Slot.oo.injEq, c_0, c_1, c_2, c_3, eq_self, kLenSet, kFldC, kMeth, kOwn, kApp, kExt, kIns, kPop, kPut, kAugA, kPar, kDk0, kDk1, kDkPut, kDt0, kDtPut, kUpd, kInDk, kInDt, kSorted, kTapeSet, kSwap, kCount, kIndex, kLstR, kCallF, kBinF, catP, listP, max2P, min2P, intBP, absP, tupleP, Slot.dk.injEq, Slot.dt.injEq, reduceCtorEq, false_and, exists_false, and_assoc, lenP, seq_l, seq_t, seq_s, natsD, natsT, rowD, num_nat, Nat.reduceLeDiff, inP, ninP, ni_i, ni_n, ni_hue, eqN_ih, eqN_ii, eqN_nn, eqN_ni, eqN_in, any_nats', any_hues_n, any_hues_i, all_ni, all_niH, beq_nat, List.all_cons, List.all_nil, List.any_cons, List.any_nil, Bool.or_false, Bool.and_true, Bool.true_and, at0, at1, at2, at3, kSl, koN, koS, slP, kItET, kItE, kItS, kItR1, kItR2, kItZ, kItZM, webD, nat, tieD, le0, lt_nat, le_nat, eq_nat, decide_true, decide_false, decide_eq_true_eq, kSeq, kNext, kRet, kSet, kDrop, kTgt, ksIf, kVar, kVarB, rdB_p, rdB_o, kC, kBin, kF, q_add_ii, q_add_ll, q_add_tt, q_sub_ii, q_mul_ii, q_mul_li, q_mod_ii, q_fdiv_ii, q_pow_ii, q_ix_l, q_ix_t, q_ix_s, q_ix_tp, q_ii, q_is_bb, q_is_n, q_nis_bb, q_nis_n, q_eq_ii, q_eq_ni, q_eq_in, q_eq_nn, q_eq_ss, q_eq_tt, q_eq_ll, q_isN_n, q_isN_i, q_isN_t, q_isN_l, q_isN_b, kNeg, kCmp, kCmpT, kChain, kBo, neP, kAnd, kOr, kNot, tkAnd, tkOr, tkNot, tkV, kIf, kNil, kCons, kTup, kLst, kCall, kIsi, gkName, gkTup, gkCons, gkNil, tkYes, relP, kRel, wipeP, startP, List.map_cons, List.map_nil, List.length_cons, List.length_nil, List.replicate_succ, List.replicate_zero, List.cons_append, List.nil_append, List.append_nil, Nat.reduceSub, Nat.reduceAdd, Nat.sub_self, List.getElem?_cons_zero, List.getElem?_cons_succ, List.getElem?_nil, List.set_cons_zero, List.set_cons_succ, List.set_nil, Option.some.injEq, Slot.p.injEq, Slot.o.injEq, D.tup.injEq, D.lst.injEq, D.int.injEq, D.bl.injEq, D.str.injEq, exists_eq_left', exists_eq_left, exists_eq_right, exists_eq_right', exists_and_left, exists_eq', exists_eq, and_true, true_and, Bool.not_true, Bool.not_false, if_true, if_false, Bool.false_eq_true, ite_true, ite_false, reduceIte, List.cons.injEq, List.length_map] | skip))
section
variable {P : Program} {w : World} {K : PySem.W.Frag} {mg : Str → Option Value} {base : Heap} {k : Nat} {cLists : Addr}
/-! ### trees out of lists: the checker -/
def q_hues_left : PSp := fun ds P => ∃ n ts h way i, ds = [webD n ts, listsL ts.length h, wayD way, nat i] ∧ WayOk ts way ∧ i < ts.length ∧ h ≤ 1000 ∧ P (natsD (leftW ts h way i))
theorem ok_hues_left (T : Tx K mg) (L : Lo K mg "hues_left" S_hues_left) : Callee P w K mg base (k + 1) "hues_left" q_hues_left := by
  refine mk_callee L sc_hues_left b_hues_left (fun tw => d_hues_left T) (fun ds P ⟨n, ts, hh, way, i, e, _⟩ => by rw [e]; rfl) fun ds P ⟨n, ts, hh, way, i, e, hw, hi, hh0, h⟩ => ?_
  subst e
  unfold k_hues_left wayD
  walk_at "vc"
  rw [at_tie hi]
  refine ⟨_, rfl, ?_⟩
  walk_at "vc"
  refine lc_map way tieD (fun Q hQ => ?_) (fun kh => meet (tie ts kh.1) (tie ts i)) (fun kh => nat kh.2) (fun kh hkh Q A h1 h2 => ?_) ?_
  · walk_at "vc"
    exact hQ
  · have hk := hw.2 kh hkh
    walk_at "vc"
    rw [at_tie hk]
    refine ⟨_, rfl, ?_⟩
    walk_at "vc"
    exact fin_or h1 h2
  · rw [show (way.filter fun kh => meet (tie ts kh.1) (tie ts i)).map (fun kh => nat kh.2) = (taken ts way i).map nat from by unfold taken; rw [List.map_map]; rfl]
    walk_at "vc"
    refine lc_map (List.range hh) nat (fun Q hQ => ?_) (fun x => !(taken ts way i).contains x) nat (fun x hx Q A h1 h2 => ?_) h
    · unfold listsL
      walk_at "vc"
      exact ⟨_, at_repl hi, hQ⟩
    · walk_at "vc"
      exact fin_if h1 h2
def q_is_bare : PSp := fun ds P => ∃ n ts way i, ds = [webD n ts, wayD way, nat i] ∧ P (.bl (decide (i < ts.length) && !(way.map (·.1)).contains i))
theorem ok_is_bare (T : Tx K mg) (L : Lo K mg "is_bare" S_is_bare) (c_is_number : Callee P w K mg base k "is_number" q_is_number) : Callee P w K mg base (k + 1) "is_bare" q_is_bare := by
  refine mk_callee L sc_is_bare b_is_bare (fun tw => d_is_bare T c_is_number) (fun ds P ⟨n, ts, way, i, e, _⟩ => by rw [e]; rfl) fun ds P ⟨n, ts, way, i, e, h⟩ => ?_
  subst e
  unfold k_is_bare wayD
  walk_at "vc"
  refine ⟨_, rfl, pl_int, ?_⟩
  walk_at "vc"
  split
  · rename_i hi
    rw [decide_eq_true hi, Bool.true_and] at h
    refine lc_map way tieD (fun Q hQ => ?_) (fun _ => true) (fun kh => nat kh.1) (fun kh hkh Q A h1 h2 => ?_) ?_
    · walk_at "vc"
      exact hQ
    · walk_at "vc"
      exact h1 rfl
    · rw [List.filter_eq_self.mpr fun _ _ => rfl, show way.map (fun kh => nat kh.1) = (way.map (·.1)).map nat from by rw [List.map_map]; rfl]
      walk_at "vc"
      exact h
  · rename_i hi
    rw [decide_eq_false hi, Bool.false_and] at h
    exact h
def q_ends_all (f : Nat) : PSp := fun ds P => ∃ n ts h way d, ds = [webD n ts, listsL ts.length h, wayD way, d] ∧ WayOk ts way ∧ way.length + f ≤ 40 ∧ h ≤ 1000 ∧ TreeD f d ∧ P (.bl (isE ts h f way d))
theorem ok_ends_all (T : Tx K mg) (L : Lo K mg "ends_all" S_ends_all) (f : Nat) (c_is_bare : Callee P w K mg base (k + f) "is_bare" q_is_bare) (c_hues_left : Callee P w K mg base (k + f) "hues_left" q_hues_left) (ih : Callee P w K mg base (k + f) "ends_all" (q_ends_all f)) : Callee P w K mg base (k + f + 1) "ends_all" (q_ends_all (f + 1)) := by
  refine mk_callee L sc_ends_all b_ends_all (fun tw => d_ends_all T c_is_bare c_hues_left ih) (fun ds P ⟨n, ts, hh, way, d, e, _⟩ => by rw [e]; rfl) fun ds P ⟨n, ts, hh, way, d, e, hw, hl, hh0, ht, h⟩ => ?_
  subst e
  obtain ⟨i, ks, rfl, hz, hk⟩ := ht
  rw [isE_at] at h
  unfold k_ends_all wayD
  walk_at "vc"
  refine ⟨_, isi_tup, ?_⟩
  walk_at "vc"
  refine ⟨n, ts, way, i, rfl, ?_⟩
  walk_at "vc"
  have hmem : ∀ kh ∈ way, kh.1 < ts.length := hw.2
  cases hb : (decide (i < ts.length) && !(way.map (·.1)).contains i) with
  | false =>
    rw [hb, Bool.false_and, Bool.false_and] at h
    walk_at "vc"
    exact h
  | true =>
    rw [hb, Bool.true_and] at h
    have hi : i < ts.length := of_decide_eq_true (Bool.and_eq_true_iff.mp hb).1
    walk_at "vc"
    refine ⟨n, ts, hh, way, i, rfl, hw, hi, hh0, ?_⟩
    walk_at "vc"
    refine ⟨_, isi_tup, ?_⟩
    walk_at "vc"
    by_cases hle : ks.length = (leftW ts hh way i).length
    · rw [decide_eq_true hle, Bool.true_and] at h
      rw [if_neg (by rw [decide_eq_true hle]; decide)]
      refine lc_rng ks.length (fun j => .tup [nat ((leftW ts hh way i).getD j 0), ks.getD j .non]) (fun Q hQ => ?_) (fun _ => true) (fun j => .bl (isE ts hh f (way ++ [(i, (leftW ts hh way i).getD j 0)]) (ks.getD j .non))) (fun j hj Q A h1 _ => ?_) ?_
      · walk_at "vc"
        refine ⟨by rw [hle], ?_⟩
        have e : zipD ((leftW ts hh way i).map nat) ks = (List.range ks.length).map fun j => .tup [nat ((leftW ts hh way i).getD j 0), ks.getD j .non] := by
          unfold zipD
          rw [List.length_map, ← hle, Nat.min_self]
          refine List.map_congr_left fun j hj => ?_
          have hj := List.mem_range.mp hj
          rw [show ((leftW ts hh way i).map nat).getD j .non = nat ((leftW ts hh way i).getD j 0) by simp [hle ▸ hj]]
        rw [e]
        exact hQ
      · walk_at "vc"
        refine ⟨?_, ?_⟩
        · have := hw.1
          exact Nat.le_of_lt (small1000 (by omega))
        · refine ⟨n, ts, hh, way ++ [(i, (leftW ts hh way i).getD j 0)], ks.getD j .non, ?_, ⟨?_, fun kh hkh => ?_⟩, ?_, hh0, ?_, h1 rfl⟩
          · unfold wayD
            rw [List.map_append]; rfl
          · rw [List.length_append]; simp; omega
          · rcases List.mem_append.mp hkh with z | z
            · exact hmem kh z
            · rw [List.mem_singleton.mp z]; exact hi
          · rw [List.length_append]; simp; omega
          · refine hk _ ?_
            rw [show ks.getD j .non = ks[j] by simp [hj]]
            exact List.getElem_mem hj
      · refine ⟨(List.range ks.length).map fun j => isE ts hh f (way ++ [(i, (leftW ts hh way i).getD j 0)]) (ks.getD j .non), by rw [List.filter_eq_self.mpr fun _ _ => rfl, List.map_map]; rfl, ?_⟩
        rw [List.all_map]
        exact h
    · rw [decide_eq_false hle, Bool.false_and] at h
      rw [if_pos (by rw [decide_eq_false hle]; rfl)]
      exact h
theorem ok_ends_allF (T : Tx K mg) (L : Lo K mg "ends_all" S_ends_all) (c_is_bare : Callee P w K mg base k "is_bare" q_is_bare) (c_hues_left : Callee P w K mg base k "hues_left" q_hues_left) : ∀ f, Callee P w K mg base (k + f) "ends_all" (q_ends_all f)
  | 0 => by
    obtain ⟨f, fd, h1, F⟩ := L.ex
    exact ⟨f, fd, ["web", "lists", "way", "node"], h1, F.kp, b_ends_all F, ⟨fun vs H Q E ⟨_, _, ds, _, _, _, _, _, ⟨_, _, _, _, _, _, _, _, _, z, _⟩, _⟩ => z.elim, fun A outer s H args us vs Q E _ _ _ _ ⟨_, _, ds, _, _, _, _, _, ⟨_, _, _, _, _, _, _, _, _, z, _⟩, _⟩ => z.elim⟩⟩
  | f + 1 => ok_ends_all T L f (c_is_bare.mono (by omega)) (c_hues_left.mono (by omega)) (ok_ends_allF T L c_is_bare c_hues_left f)
/-! ### shows_lists, shows_filled -/
inductive Fld where
  | hueing (r : List (Option Nat)) | none (d : D)
def fldD : Fld → D
  | .hueing r => .tup [.str "hueing", rowD r]
  | .none d => .tup [.str "none", d]
def FldOk (ts : List Tie) (h : Nat) : Fld → Prop
  | .hueing r => Whole ts r h
  | .none d => TreeD 20 d ∧ isE ts h 20 [] d = true
def q_shows_lists : PSp := fun ds P => ∃ n ts h fl, ds = [webD n ts, listsL ts.length h, fldD fl] ∧ Web n ts ∧ h ≤ 1000 ∧ FldOk ts h fl ∧ P (.bl true)
theorem whole_no {ts : List Tie} {r : List (Option Nat)} {h : Nat} (hw : Whole ts r h) : r.contains none = false := Bool.eq_false_iff.mpr fun z => by
  obtain ⟨i, hi, e⟩ := List.mem_iff_getElem.mp (List.contains_iff_mem.mp z)
  obtain ⟨c, ec, _⟩ := hw.2 i (by rw [← hw.1.1]; exact hi)
  have : hue r i = r[i] := by show r.getD i none = _; rw [List.getD_eq_getElem?_getD, List.getElem?_eq_getElem hi]; rfl
  rw [this, e] at ec; cases ec
theorem ok_shows_lists (T : Tx K mg) (L : Lo K mg "shows_lists" S_shows_lists) (c_is_whole : Callee P w K mg base k "is_whole" q_is_whole) (c_ends_all : Callee P w K mg base k "ends_all" (q_ends_all 20)) : Callee P w K mg base (k + 1) "shows_lists" q_shows_lists := by
  refine mk_callee L sc_shows_lists b_shows_lists (fun tw => d_shows_lists T c_is_whole c_ends_all) (fun ds P ⟨n, ts, hh, fl, e, _⟩ => by rw [e]; rfl) fun ds P ⟨n, ts, hh, fl, e, W, hz, ho, h⟩ => ?_
  subst e
  unfold k_shows_lists
  cases fl with
  | hueing r =>
    unfold fldD
    walk_at "vc"
    refine ⟨_, isi_tup, ?_⟩
    walk_at "vc"
    refine ⟨n, ts, r, rfl, W, ho.1, ?_⟩
    rw [whole_no ho]
    refine ⟨_, rfl, ?_⟩
    walk_at "vc"
    have hr : r.length = ts.length := ho.1.1
    refine lc_rng ts.length (fun j => .tup [hueD (hue r j), natsD (List.range hh)]) (fun Q hQ => ?_) (fun _ => true) (fun _ => .bl true) (fun j hj Q A h1 _ => ?_) ?_
    · unfold listsL
      walk_at "vc"
      have e : zipD (r.map hueD) (List.replicate ts.length (natsD (List.range hh))) = (List.range ts.length).map fun j => .tup [hueD (hue r j), natsD (List.range hh)] := by
        unfold zipD
        rw [List.length_map, List.length_replicate, hr, Nat.min_self]
        refine List.map_congr_left fun j hj => ?_
        have hj := List.mem_range.mp hj
        rw [show (r.map hueD).getD j .non = hueD (hue r j) by simp [hr ▸ hj], show (List.replicate ts.length (natsD (List.range hh))).getD j .non = natsD (List.range hh) by simp [hj]]
      unfold natsD at e
      rw [e]
      exact hQ
    · obtain ⟨c, ec, hc⟩ := ho.2 j hj
      rw [ec]
      walk_at "vc"
      rw [show (List.range hh).contains c = true from List.contains_iff_mem.mpr (List.mem_range.mpr hc)]
      exact h1 rfl
    · refine ⟨((List.range ts.length).filter fun _ => true).map fun _ => true, by rw [List.map_map]; rfl, ?_⟩
      rw [show (((List.range ts.length).filter fun _ => true).map fun _ => true).all id = true from by rw [List.all_map]; exact List.all_eq_true.mpr fun _ _ => rfl]
      exact h
  | none d =>
    unfold fldD
    walk_at "vc"
    refine ⟨_, isi_tup, ?_⟩
    walk_at "vc"
    rw [if_neg (by decide)]
    refine ⟨n, ts, hh, [], d, rfl, ⟨by decide, fun kh z => absurd z (by simp)⟩, by decide, hz, ho.1, ?_⟩
    rw [ho.2]
    exact h
def q_shows_filled : PSp := fun ds P => ∃ n ts h fl, ds = [webD n ts, rowD (List.replicate ts.length none), nat h, fldD fl] ∧ Web n ts ∧ h ≤ 1000 ∧ FldOk ts h fl ∧ P (.bl true)
theorem ok_shows_filled (T : Tx K mg) (L : Lo K mg "shows_filled" S_shows_filled) (c_shows_lists : Callee P w K mg base k "shows_lists" q_shows_lists) (c_lists_for : Callee P w K mg base k "lists_for" q_lists_for) : Callee P w K mg base (k + 1) "shows_filled" q_shows_filled := by
  refine mk_callee L sc_shows_filled b_shows_filled (fun tw => d_shows_filled T c_shows_lists c_lists_for) (fun ds P ⟨n, ts, hh, fl, e, _⟩ => by rw [e]; rfl) fun ds P ⟨n, ts, hh, fl, e, W, hz, ho, h⟩ => ?_
  subst e
  unfold k_shows_filled
  walk_at "vc"
  refine ⟨ts.length, hh, rfl, hz, ?_⟩
  walk_at "vc"
  exact ⟨n, ts, hh, fl, rfl, W, hz, ho, h⟩
end
end U
set_option Elab.async false
set_option linter.all false
set_option maxRecDepth 100000
set_option maxHeartbeats 1000000
namespace U
open PySem PySem.Spec PyProof.Rows L2
local macro_rules | `(tactic| walk_at "vc") => `(tactic| (first | simp only [hueD_n, hueD_s, kOoNew, kOoApp, Slot.oo.injEq, c_0, c_1, c_2, c_3, eq_self, kLenSet, kFldC, kMeth, kOwn, kApp, kExt, kIns, kPop, kPut, kAugA, kPar, kDk0, kDk1, kDkPut, kDt0, kDtPut, kUpd, kInDk, kInDt, kSorted, kTapeSet, kSwap, kCount, kIndex, kLstR, kCallF, kBinF, catP, listP, max2P, min2P, intBP, absP, tupleP, Slot.dk.injEq, Slot.dt.injEq, reduceCtorEq, false_and, exists_false, and_assoc, lenP, seq_l, seq_t, seq_s, natsD, natsT, rowD, num_nat, Nat.reduceLeDiff, inP, ninP, ni_i, ni_n, ni_hue, eqN_ih, eqN_ii, eqN_nn, eqN_ni, eqN_in, any_nats', any_hues_n, any_hues_i, all_ni, all_niH, beq_nat, List.all_cons, List.all_nil, List.any_cons, List.any_nil, Bool.or_false, Bool.and_true, Bool.true_and, at0, at1, at2, at3, kSl, koN, koS, slP, kItET, kItE, kItS, kItR1, kItR2, kItZ, kItZM, webD, nat, tieD, le0, lt_nat, le_nat, eq_nat, decide_true, decide_false, decide_eq_true_eq, kSeq, kNext, kRet, kSet, kDrop, kTgt, ksIf, kVar, kVarB, rdB_p, rdB_o, kC, kBin, kF, q_add_ii, q_add_ll, q_add_tt, q_sub_ii, q_mul_ii, q_mul_li, q_mod_ii, q_fdiv_ii, q_pow_ii, q_ix_l, q_ix_t, q_ix_s, q_ix_tp, q_ii, q_is_bb, q_is_n, q_nis_bb, q_nis_n, q_eq_ii, q_eq_ni, q_eq_in, q_eq_nn, q_eq_ss, q_eq_tt, q_eq_ll, q_isN_n, q_isN_i, q_isN_t, q_isN_l, q_isN_b, kNeg, kCmp, kCmpT, kChain, kBo, neP, kAnd, kOr, kNot, tkAnd, tkOr, tkNot, tkV, kIf, kNil, kCons, kTup, kLst, kCall, kIsi, gkName, gkTup, gkCons, gkNil, tkYes, relP, kRel, wipeP, startP, List.map_cons, List.map_nil, List.length_cons, List.length_nil, List.replicate_succ, List.replicate_zero, List.cons_append, List.nil_append, List.append_nil, Nat.reduceSub, Nat.reduceAdd, Nat.sub_self, List.getElem?_cons_zero, List.getElem?_cons_succ, List.getElem?_nil, List.set_cons_zero, List.set_cons_succ, List.set_nil, Option.some.injEq, Slot.p.injEq, Slot.o.injEq, D.tup.injEq, D.lst.injEq, D.int.injEq, D.bl.injEq, D.str.injEq, exists_eq_left', exists_eq_left, exists_eq_right, exists_eq_right', exists_and_left, exists_eq', exists_eq, and_true, true_and, Bool.not_true, Bool.not_false, if_true, if_false, Bool.false_eq_true, ite_true, ite_false, reduceIte, List.cons.injEq, List.length_map] | skip))
section
variable {P : Program} {w : World} {K : PySem.W.Frag} {mg : Str → Option Value} {base : Heap} {k : Nat}
/-- cut behind a statement -/
theorem cutS {a b : KS} {ρ : PSt} {N : PSt → Prop} {Rt : D → Prop} (Mid : PSt → Prop) (h1 : ∀ R : PSt → Prop, (∀ ρ', Mid ρ' → R ρ') → a ρ R Rt) (h2 : ∀ ρ', Mid ρ' → b ρ' N Rt) : kSeq a b ρ N Rt := h1 _ h2
/-! ### the law's tape -/
def k__law_tapeF : KSF := kSeqF (kSet 2 (kC (.int 0))) (kSeqF (ksIf (kCmpT ltP (kVarB 1) (kCall lenP (kCons (kVarB 0) (kNil)))) (kSeq (kSet 2 (kBin ixP (kVarB 0) (kVarB 1))) (kNext)) (kNext)) (kSeqF (kSet 3 (kBin mulP (kCall absP (kCons (kVarB 2) (kNil))) (kCall intBP (kCons (kCmp geP (kCall absP (kCons (kVarB 2) (kNil))) (kBin powP (kC (.int 10)) (kC (.int 18)))) (kNil))))) (kLst (kCons (kVar 3) (kCons (kBin modP (kBin mulP (kBin modP (kBin addP (kBin addP (kVarB 2) (kBin mulP (kC (.int 7919)) (kVarB 1))) (kC (.int 1))) (kC (.int 2147483647))) (kC (.int 48271))) (kC (.int 2147483647))) (kNil))))))
theorem d__law_tapeF {tw : AD} (T : Tx K mg) : SlF ⟨P, w, K, mg, base, N__law_tape, defScope S__law_tape, fun _ => true, k, tw, fun _ => True⟩ (defBody S__law_tape) k__law_tapeF :=
  f_cons (s_set 2 nd__law_tape (by rfl) (by first | exact Or.inl rfl | exact Or.inr ⟨rfl, rfl⟩) (r_int)) (f_cons (s_if (t_cmp cd_lt (vb 1) (EvR.b (r_callB bd_len (by rfl) T.b_len (by rfl) (ab_cons (vb 0) (ab_nil)))) (by rfl)) (l_cons (s_set 2 nd__law_tape (by rfl) (by first | exact Or.inl rfl | exact Or.inr ⟨rfl, rfl⟩) (r_ix (vb 0) (vb 1))) (l_nil)) (l_nil)) (f_cons (s_set 3 nd__law_tape (by rfl) (by first | exact Or.inl rfl | exact Or.inr ⟨rfl, rfl⟩) (r_bin od_mul (EvR.b (r_callB bd_abs (by rfl) T.b_abs (by rfl) (ab_cons (vb 2) (ab_nil)))) (EvR.b (r_callT bd_intB (by rfl) T.b_int (by rfl) (ab_cons (EvR.b (r_cmp cd_ge (EvR.b (r_callB bd_abs (by rfl) T.b_abs (by rfl) (ab_cons (vb 2) (ab_nil)))) (EvR.b (r_bin od_pow (EvR.b (r_int)) (EvR.b (r_int)))) (by rfl))) (ab_nil)))))) (f_ret (r_lst (a_cons (v 3) (a_cons (r_bin od_mod (EvR.b (r_bin od_mul (EvR.b (r_bin od_mod (EvR.b (r_bin od_add (EvR.b (r_bin od_add (vb 2) (EvR.b (r_bin od_mul (EvR.b (r_int)) (vb 1))))) (EvR.b (r_int)))) (EvR.b (r_int)))) (EvR.b (r_int)))) (EvR.b (r_int))) (a_nil)))))))
def q__law_tape : FSp := fun ds P => ∃ ns k, ds = [.scr ns, nat k] ∧ ns.length ≤ 1000000 ∧ k < 1000 ∧ ∀ a b : Int, P [.int a, .int b]
theorem ok__law_tape (T : Tx K mg) (L : Lo K mg "_law_tape" S__law_tape) : CalleeF P w K mg base (k + 1) "_law_tape" q__law_tape := by
  refine mk_calleeF L.ex sc__law_tape b__law_tape (fun tw => d__law_tapeF T) (fun ds P ⟨n, ts, e, _⟩ => by rw [e]; rfl) fun ds P ⟨ns, i, e, hn, hi, h⟩ => ?_
  subst e
  unfold k__law_tapeF
  unfold kSeqF
  walk_at "vc"
  have pw : CPow 10 18 := ⟨by decide, by decide, by decide⟩
  have c1 : ∀ (a : Int) (b : Prop) [Decidable b], CMul a (if b then 1 else 0) := fun a b _ => .inr (by split <;> decide)
  have c2 : CMul 7919 (i : Int) := .inl ⟨by decide, by decide⟩
  have c3 : ∀ a : Int, CMul a 48271 := fun a => .inr ⟨by decide, by decide⟩
  split
  · rename_i hl
    exact ⟨ns[i], atI_nat (List.getElem?_eq_getElem hl), pw, c1 _ _, c2, by decide, c3 _, by decide, h _ _⟩
  · exact ⟨pw, c1 _ _, c2, by decide, c3 _, by decide, h _ _⟩
def q__law_draw : PSp := fun ds P => ∃ a m, ds = [.tp a, nat m] ∧ 0 < m ∧ m < 1000000 ∧ ∀ r, r < m → P (nat r)
theorem ok__law_draw (T : Tx K mg) (L : Lo K mg "_law_draw" S__law_draw) : Callee P w K mg base (k + 1) "_law_draw" q__law_draw := by
  refine mk_callee L sc__law_draw b__law_draw (fun tw => d__law_draw T) (fun ds P ⟨n, ts, e, _⟩ => by rw [e]; rfl) fun ds P ⟨a, m, e, hm, hm2, h⟩ => ?_
  subst e
  have key : ∀ i : Int, P (.int (i % (m : Int))) := fun i => by
    have h1 : 0 ≤ i % (m : Int) := Int.emod_nonneg _ (by omega)
    have h2 : i % (m : Int) < m := Int.emod_lt_of_pos _ (by omega)
    have := h (i % (m : Int)).toNat (by omega)
    unfold nat at this
    rw [Int.toNat_of_nonneg h1] at this
    exact this
  unfold k__law_draw
  walk_at "vc"
  have hm3 : (0 : Int) < m := by omega
  have c3 : ∀ a : Int, CMul a 48271 := fun a => .inr ⟨by decide, by decide⟩
  have c4 : ∀ a b : Int, CMul a (b % 1009 + 3) := fun a b => .inr ⟨by omega, by omega⟩
  have c5 : ∀ a b : Int, CMul a (b % 997 + 5) := fun a b => .inr ⟨by omega, by omega⟩
  refine ⟨.inl trivial, fun n0 => ?_⟩
  split
  · exact ⟨.inl trivial, fun n1 => ⟨hm3, a, rfl, .inl trivial, fun n2 => ⟨⟨hm3, by omega⟩, .inl trivial, key _⟩⟩⟩
  · exact ⟨a, rfl, .inr trivial, fun n1 => ⟨c3 _, by decide, .inr trivial, .inr trivial, fun n2 => ⟨.inr trivial, fun n3 => ⟨by decide, c4 _ _, by decide, by decide, c5 _ _, by decide, hm3, key _⟩⟩⟩⟩
/-! ### the pairs of places -/
structure PairsOk (n : Nat) (ps : List Tie) : Prop where
  ne : ∀ p ∈ ps, p.1 ≠ p.2 ∧ p.1 < n ∧ p.2 < n
  n12 : n ≤ 12
  len : ps.length ≤ 1000
theorem mod_nat (x n : Nat) : ((x : Nat) : Int) % (n : Int) = ((x % n : Nat) : Int) := (Int.natCast_emod x n).symm
theorem rng_from (s n : Nat) : rngD (s : Int) (n : Int) = (List.range (n - s)).map fun i => nat (s + i) := by
  unfold rngD
  rw [show ((n : Int) - (s : Int)).toNat = n - s by omega]
  refine List.map_congr_left fun i _ => ?_
  rfl
theorem pairs_nil {n : Nat} (h : n ≤ 12) : PairsOk n [] := ⟨fun _ z => (by cases z), h, Nat.zero_le _⟩
theorem PairsOk.app {n : Nat} {ps qs : List Tie} (h : PairsOk n ps) (hq : ∀ p ∈ qs, p.1 ≠ p.2 ∧ p.1 < n ∧ p.2 < n) (hl : (ps ++ qs).length ≤ 1000) : PairsOk n (ps ++ qs) := ⟨fun p hp => (List.mem_append.mp hp).elim (h.ne p) (hq p), h.n12, hl⟩
def q__law_pairs_by : PSp := fun ds P => ∃ a b, ds = [.tp a, .bl b] ∧ ∀ n ps, PairsOk n ps → P (.tup [nat n, .lst (ps.map tieD)])
theorem ok__law_pairs_by (T : Tx K mg) (L : Lo K mg "_law_pairs_by" S__law_pairs_by) (c_draw : Callee P w K mg base k "_law_draw" q__law_draw) : Callee P w K mg base (k + 1) "_law_pairs_by" q__law_pairs_by := by
  refine mk_callee L sc__law_pairs_by b__law_pairs_by (fun tw => d__law_pairs_by T c_draw) (fun ds P ⟨n, ts, e, _⟩ => by rw [e]; rfl) fun ds P ⟨a, b, e, h⟩ => ?_
  subst e
  unfold k__law_pairs_by
  refine cutS (fun ρ => ∃ way, way < 8 ∧ ρ = [.p (.tp a), .p (.bl b), .p (nat way), .any, .any, .any, .any, .any, .any, .any]) (fun R hR => ?_) fun ρ ⟨way, hway, e⟩ => ?_
  · walk_at "vc"
    exact ⟨a, 8, rfl, by decide, by decide, fun r hr => hR _ ⟨r, hr, rfl⟩⟩
  subst e
  refine cutS (fun ρ => ∃ n, n ≤ 12 ∧ ρ = [.p (.tp a), .p (.bl b), .p (nat way), .p (nat n), .any, .any, .any, .any, .any, .any]) (fun R hR => ?_) fun ρ ⟨n, hn, e⟩ => ?_
  · walk_at "vc"
    refine ⟨a, 7, rfl, by decide, by decide, fun r hr => ⟨a, 6, rfl, by decide, by decide, fun r2 hr2 => ?_⟩⟩
    walk_at "vc"
    cases b with
    | false => exact ⟨nat r, at0, hR _ ⟨r, by omega, rfl⟩⟩
    | true => exact ⟨nat (7 + r2), at1, hR _ ⟨7 + r2, by omega, rfl⟩⟩
  subst e
  refine cutS (fun ρ => ∃ p, ρ = [.p (.tp a), .p (.bl b), .p (nat way), .p (nat n), .o p [], .any, .any, .any, .any, .any]) (fun R hR => ?_) fun ρ ⟨p0, e⟩ => ?_
  · walk_at "vc"
    exact fun p => hR _ ⟨p, rfl⟩
  subst e
  -- way below three
  refine cutS (fun ρ => ∃ (p : Addr) (ps : List Tie) (s5 s6 s7 s8 s9 : Slot), PairsOk n ps ∧ (3 ≤ way → ps = []) ∧ ρ = [.p (.tp a), .p (.bl b), .p (nat way), .p (nat n), .o p (ps.map tieD), s5, s6, s7, s8, s9]) (fun R hR => ?_) fun ρ ⟨p, ps, s5, s6, s7, s8, s9, hps, h3, e⟩ => ?_
  · walk_at "vc"
    split
    · rename_i hw3
      split
      · rename_i hn1
        have c2 : CMul 2 (n : Int) := .inl ⟨by decide, by decide⟩
        refine for_of (Pre := fun ds => ∃ r, r < 2 * n + 1 ∧ ds = (List.range r).map nat) (fun Q hQ => ?_) fun ds ⟨r, hr, ed⟩ it' hit' => ?_
        · walk_at "vc"
          refine ⟨c2, a, 2 * n + 1, rfl, by omega, by omega, fun r hr => ?_⟩
          walk_at "vc"
          exact ⟨by omega, by omega, hQ _ ⟨r, hr, rng_nat r⟩⟩
        subst ed
        refine for_rng r nat hit' (fun j ρ => ∃ (ps : List Tie) (s5 s8 : Slot), PairsOk n ps ∧ ps.length ≤ j ∧ ρ = [.p (.tp a), .p (.bl b), .p (nat way), .p (nat n), .o p0 (ps.map tieD), s5, .any, .any, s8, .any]) ⟨[], _, _, pairs_nil hn, Nat.le_refl _, rfl⟩ (fun j ρ hj ⟨ps, s5, s8, hps, hl, e⟩ => ?_) fun ρ ⟨ps, s5, s8, hps, hl, e⟩ => hR _ ⟨p0, ps, s5, _, _, s8, _, hps, fun z => (by omega), e⟩
        subst e
        walk_at "vc"
        refine ⟨a, n, rfl, by omega, by omega, fun o ho => ?_⟩
        walk_at "vc"
        refine ⟨by omega, a, n - 1, by rw [show ((n : Int) - 1) = ((n - 1 : Nat) : Int) by omega]; rfl, by omega, by omega, fun q hq => ?_⟩
        walk_at "vc"
        have e1 : ((o : Int) + 1 + (q : Int)) % (n : Int) = (((o + 1 + q) % n : Nat) : Int) := mod_nat (o + 1 + q) n
        refine ⟨by omega, ps ++ [(o, (o + 1 + q) % n)], hps.app (fun x hx => ?_) (by simp; omega), by simp; omega, ?_⟩
        · rw [List.mem_singleton.mp hx]
          have lt : (o + 1 + q) % n < n := Nat.mod_lt _ (by omega)
          refine ⟨?_, ho, lt⟩
          show o ≠ (o + 1 + q) % n
          by_cases hlt : o + 1 + q < n
          · rw [Nat.mod_eq_of_lt hlt]; omega
          · rw [Nat.mod_eq_sub_mod (by omega), Nat.mod_eq_of_lt (by omega)]; omega
        · rw [e1, List.map_append]; rfl
      · exact hR _ ⟨p0, [], _, _, _, _, _, pairs_nil hn, fun _ => rfl, rfl⟩
    · exact hR _ ⟨p0, [], _, _, _, _, _, pairs_nil hn, fun _ => rfl, rfl⟩
  subst e
  refine cutS (fun ρ => ∃ (p : Addr) (ps : List Tie) (s5 s6 s7 s8 s9 : Slot), PairsOk n ps ∧ (4 ≤ way → ps = []) ∧ ρ = [.p (.tp a), .p (.bl b), .p (nat way), .p (nat n), .o p (ps.map tieD), s5, s6, s7, s8, s9]) (fun R hR => ?_) fun ρ ⟨p, ps, s5, s6, s7, s8, s9, hps, h3, e⟩ => ?_
  · walk_at "vc"
    have keep : way ≠ 3 ∨ n ≤ 2 → R [.p (.tp a), .p (.bl b), .p (nat way), .p (nat n), .o p (ps.map tieD), s5, s6, s7, s8, s9] := fun z => hR _ ⟨p, ps, s5, s6, s7, s8, s9, hps, fun z2 => h3 (by omega), rfl⟩
    split
    · rename_i hw3
      split
      · rename_i hn2
        have n12 := hps.n12
        refine lc_rng n nat (fun Q hQ => ?_) (fun _ => true) (fun k => tieD (k, (k + 1) % n)) (fun k hk Q A h1 _ => ?_) ?_
        · walk_at "vc"
          exact ⟨by omega, by omega, by rw [rng_nat]; exact hQ⟩
        · walk_at "vc"
          have e1 : ((k : Int) + 1) % (n : Int) = (((k + 1) % n : Nat) : Int) := mod_nat (k + 1) n
          rw [e1]
          exact ⟨by omega, h1 rfl⟩
        · rw [List.filter_eq_self.mpr fun _ _ => rfl]
          refine ⟨a, n - 1, by rw [show ((n : Int) - 1) = ((n - 1 : Nat) : Int) by omega]; rfl, by omega, by omega, fun q hq => ?_⟩
          walk_at "vc"
          have sz : sizeLine = 16777216 := rfl
          refine ⟨by rw [List.length_range]; omega, fun p' => hR _ ⟨p', (List.range n).map (fun k => (k, (k + 1) % n)) ++ [(0, q + 1)], s5, s6, s7, s8, s9, ⟨fun x hx => ?_, n12, by simp; omega⟩, fun z => (by omega), ?_⟩⟩
          · rcases List.mem_append.mp hx with z | z
            · obtain ⟨k, hk, rfl⟩ := List.mem_map.mp z
              have hk := List.mem_range.mp hk
              have lt : (k + 1) % n < n := Nat.mod_lt _ (by omega)
              refine ⟨?_, hk, lt⟩
              show k ≠ (k + 1) % n
              by_cases hlt : k + 1 < n
              · rw [Nat.mod_eq_of_lt hlt]; omega
              · rw [show k + 1 = n by omega, Nat.mod_self]; omega
            · rw [List.mem_singleton.mp z]
              exact ⟨by show 0 ≠ q + 1; omega, by show 0 < n; omega, by show q + 1 < n; omega⟩
          · rw [List.map_append, List.map_map]
            rfl
      · exact keep (by omega)
    · exact keep (by omega)
  subst e
  refine cutS (fun ρ => ∃ (p : Addr) (ps : List Tie) (s5 s6 s7 s8 s9 : Slot), PairsOk n ps ∧ (5 ≤ way → ps = []) ∧ ρ = [.p (.tp a), .p (.bl b), .p (nat way), .p (nat n), .o p (ps.map tieD), s5, s6, s7, s8, s9]) (fun R hR => ?_) fun ρ ⟨p, ps, s5, s6, s7, s8, s9, hps, h3, e⟩ => ?_
  · walk_at "vc"
    have keep : way ≠ 4 ∨ n ≤ 1 → R [.p (.tp a), .p (.bl b), .p (nat way), .p (nat n), .o p (ps.map tieD), s5, s6, s7, s8, s9] := fun z => hR _ ⟨p, ps, s5, s6, s7, s8, s9, hps, fun z2 => h3 (by omega), rfl⟩
    split
    · rename_i hw4
      split
      · rename_i hn2
        have n12 := hps.n12
        refine lc_rng (n - 1) (fun i => nat (1 + i)) (fun Q hQ => ?_) (fun _ => true) (fun i => tieD (0, 1 + i)) (fun k hk Q A h1 _ => ?_) ?_
        · walk_at "vc"
          have := rng_from 1 n
          rw [show ((1 : Nat) : Int) = 1 from rfl] at this
          refine ⟨by decide, by decide, by omega, by omega, ?_⟩
          rw [this]
          exact hQ
        · walk_at "vc"
          exact h1 rfl
        · intro p'
          refine hR _ ⟨p', (List.range (n - 1)).map (fun i => (0, 1 + i)), s5, s6, s7, s8, s9, ⟨fun x hx => ?_, n12, by simp; omega⟩, fun z => (by omega), ?_⟩
          · obtain ⟨i, hi, rfl⟩ := List.mem_map.mp hx
            have := List.mem_range.mp hi
            exact ⟨by show 0 ≠ 1 + i; omega, by show 0 < n; omega, by show 1 + i < n; omega⟩
          · rw [List.filter_eq_self.mpr fun _ _ => rfl, List.map_map]
            rfl
      · exact keep (by omega)
    · exact keep (by omega)
  subst e
  refine cutS (fun ρ => ∃ (n : Nat) (p : Addr) (ps : List Tie) (s5 s6 s7 s8 s9 : Slot), PairsOk n ps ∧ (6 ≤ way → ps = []) ∧ ρ = [.p (.tp a), .p (.bl b), .p (nat way), .p (nat n), .o p (ps.map tieD), s5, s6, s7, s8, s9]) (fun R hR => ?_) fun ρ ⟨n, p, ps, s5, s6, s7, s8, s9, hps, h3, e⟩ => ?_
  · walk_at "vc"
    split
    · rename_i hw5
      have e0 := h3 (by omega)
      subst e0
      have n12 := hps.n12
      obtain ⟨m, hm, em⟩ : ∃ m : Nat, m ≤ 6 ∧ min (n : Int) (5 + if b = true then 1 else 0) = (m : Int) := by
        cases b
        · exact ⟨min n 5, by omega, by simp; omega⟩
        · exact ⟨min n 6, by omega, by simp; omega⟩
      rw [em]
      refine for_rng m nat (fun Q hQ => ?_) (fun j ρ => ∃ (ps : List Tie) (s6 s9 : Slot), PairsOk m ps ∧ ps.length ≤ 12 * j ∧ ρ = [.p (.tp a), .p (.bl b), .p (nat way), .p (nat m), .o p (ps.map tieD), s5, s6, s7, s8, s9]) ⟨[], s6, s9, pairs_nil (by omega), Nat.le_refl _, rfl⟩ (fun j ρ hj ⟨ps, s6, s9, hps, hl, e⟩ => ?_) fun ρ ⟨ps, s6, s9, hps, hl, e⟩ => hR _ ⟨m, p, ps, s5, s6, s7, s8, s9, hps, fun z => (by omega), e⟩
      · walk_at "vc"
        exact ⟨by omega, by omega, by rw [rng_nat]; exact hQ⟩
      · subst e
        walk_at "vc"
        refine lc_rng j nat (fun Q hQ => ?_) (fun _ => true) (fun i => tieD (i, j)) (fun i hi Q A h1 _ => ?_) ?_
        · walk_at "vc"
          exact ⟨by omega, by omega, by rw [rng_nat]; exact hQ⟩
        · walk_at "vc"
          exact h1 rfl
        · rw [List.filter_eq_self.mpr fun _ _ => rfl]
          walk_at "vc"
          rw [List.length_range]
          refine ⟨by omega, ps ++ (List.range j).map (fun i => (i, j)), hps.app (fun x hx => ?_) (by simp; omega), by simp; omega, by rw [List.map_append, List.map_map]; rfl⟩
          obtain ⟨i, hi, rfl⟩ := List.mem_map.mp hx
          have := List.mem_range.mp hi
          exact ⟨by show i ≠ j; omega, by show i < m; omega, hj⟩
    · exact hR _ ⟨n, p, ps, s5, s6, s7, s8, s9, hps, fun z2 => h3 (by omega), rfl⟩
  subst e
  refine cutS (fun ρ => ∃ (n : Nat) (p : Addr) (ps : List Tie) (s5 s6 s7 s8 s9 : Slot), PairsOk n ps ∧ (7 ≤ way → ps = []) ∧ ρ = [.p (.tp a), .p (.bl b), .p (nat way), .p (nat n), .o p (ps.map tieD), s5, s6, s7, s8, s9]) (fun R hR => ?_) fun ρ ⟨n, p, ps, s5, s6, s7, s8, s9, hps, h3, e⟩ => ?_
  · walk_at "vc"
    split
    · rename_i hw6
      have e0 := h3 (by omega)
      subst e0
      have n12 := hps.n12
      refine ⟨⟨by decide, by decide⟩, ?_⟩
      obtain ⟨sd, hsd⟩ : ∃ sd : Nat, sd = 1 + n / 2 := ⟨_, rfl⟩
      have em : 1 + (n : Int) / 2 = (sd : Int) := by omega
      rw [em]
      refine for_rng sd nat (fun Q hQ => ?_) (fun j ρ => ∃ (ps : List Tie) (s6 s9 : Slot), PairsOk n ps ∧ ps.length ≤ 12 * j ∧ ρ = [.p (.tp a), .p (.bl b), .p (nat way), .p (nat n), .o p (ps.map tieD), s5, s6, .p (nat sd), s8, s9]) ⟨[], s6, s9, pairs_nil (by omega), Nat.le_refl _, rfl⟩ (fun j ρ hj ⟨ps, s6, s9, hps, hl, e⟩ => ?_) fun ρ ⟨ps, s6, s9, hps, hl, e⟩ => hR _ ⟨n, p, ps, s5, s6, _, s8, s9, hps, fun z => (by omega), e⟩
      · walk_at "vc"
        exact ⟨by omega, by omega, by rw [rng_nat]; exact hQ⟩
      · subst e
        walk_at "vc"
        refine lc_inv ((List.range (n - sd)).map fun i => nat (sd + i)) (fun Q hQ => ?_) (fun i acc => ∃ qs : List Tie, acc = qs.map tieD ∧ qs.length ≤ i ∧ ∀ x ∈ qs, x.1 = j ∧ sd ≤ x.2 ∧ x.2 < n) ⟨[], rfl, Nat.le_refl _, fun _ z => (by cases z)⟩ (fun i d acc hd ⟨qs, e, hq, hx⟩ => ?_) fun acc ⟨qs, e, hq, hx⟩ => ?_
        · walk_at "vc"
          refine ⟨by omega, by omega, by omega, by omega, ?_⟩
          rw [rng_from]
          exact hQ
        · rw [List.getElem?_map] at hd
          cases hi : (List.range (n - sd))[i]? with
          | none => rw [hi] at hd; cases hd
          | some y =>
            rw [hi] at hd
            cases hd
            have hy := List.mem_range.mp (List.mem_of_getElem? hi)
            walk_at "vc"
            refine ⟨a, 3, rfl, by decide, by decide, fun r hr => ?_⟩
            walk_at "vc"
            split
            · refine ⟨qs ++ [(j, sd + y)], by rw [e, List.map_append]; rfl, by simp; omega, fun x hx' => ?_⟩
              rcases List.mem_append.mp hx' with z | z
              · exact hx x z
              · rw [List.mem_singleton.mp z]
                exact ⟨rfl, by show sd ≤ sd + y; omega, by show sd + y < n; omega⟩
            · exact ⟨qs, e, by omega, hx⟩
        · rw [List.length_map, List.length_range] at hq
          subst e
          walk_at "vc"
          refine ⟨by omega, ps ++ qs, hps.app (fun x hx' => ?_) (by simp; omega), by simp; omega, by rw [List.map_append]⟩
          have := hx x hx'
          exact ⟨by omega, by omega, this.2.2⟩
    · exact hR _ ⟨n, p, ps, s5, s6, s7, s8, s9, hps, fun z2 => h3 (by omega), rfl⟩
  subst e
  refine cutS (fun ρ => ∃ (n : Nat) (p : Addr) (ps : List Tie) (s5 s6 s7 s8 s9 : Slot), PairsOk n ps ∧ (8 ≤ way → ps = []) ∧ ρ = [.p (.tp a), .p (.bl b), .p (nat way), .p (nat n), .o p (ps.map tieD), s5, s6, s7, s8, s9]) (fun R hR => ?_) fun ρ ⟨n, p, ps, s5, s6, s7, s8, s9, hps, h3, e⟩ => ?_
  · walk_at "vc"
    split
    · rename_i hw7
      have e0 := h3 (by omega)
      subst e0
      have n12 := hps.n12
      refine ⟨⟨by decide, by decide⟩, ?_⟩
      obtain ⟨m, hm⟩ : ∃ m : Nat, m = 3 + n / 3 := ⟨_, rfl⟩
      have em : 3 + (n : Int) / 3 = (m : Int) := by omega
      rw [em]
      refine for_rng 3 nat (fun Q hQ => ?_) (fun j ρ => ∃ (ps : List Tie) (s6 : Slot), PairsOk m ps ∧ ps.length ≤ 12 * j ∧ ρ = [.p (.tp a), .p (.bl b), .p (nat way), .p (nat m), .o p (ps.map tieD), s5, s6, s7, s8, s9]) ⟨[], s6, pairs_nil (by omega), Nat.le_refl _, rfl⟩ (fun j ρ hj ⟨ps, s6, hps, hl, e⟩ => ?_) fun ρ ⟨ps, s6, hps, hl, e⟩ => hR _ ⟨m, p, ps, s5, s6, s7, s8, s9, hps, fun z => (by omega), e⟩
      · walk_at "vc"
        have := rng_nat 3
        rw [show ((3 : Nat) : Int) = 3 from rfl] at this
        exact ⟨by decide, by decide, by rw [this]; exact hQ⟩
      · subst e
        walk_at "vc"
        have e1 : ((j : Int) + 1) % 3 = (((j + 1) % 3 : Nat) : Int) := by omega
        have sz : sizeLine = 16777216 := rfl
        refine ⟨by decide, a, 3, rfl, by decide, by decide, fun r hr => ?_⟩
        walk_at "vc"
        rw [show ((1 : Int) + (r : Int)) = ((1 + r : Nat) : Int) by omega, Int.toNat_natCast, e1]
        refine ⟨by omega, by omega, by omega, ?_⟩
        have ef : ∀ (q : Nat) (d : D), (List.replicate q [d]).flatten = List.replicate q d := fun q d => by
          induction q with
          | zero => rfl
          | succ q ih => rw [List.replicate_succ, List.flatten_cons, ih, List.replicate_succ]; rfl
        rw [ef]
        rw [List.length_replicate]
        refine ⟨by omega, ps ++ List.replicate (1 + r) (j, (j + 1) % 3), hps.app (fun x hx' => ?_) (by simp; omega), by simp; omega, by rw [List.map_append, List.map_replicate]; rfl⟩
        rw [(List.mem_replicate.mp hx').2]
        exact ⟨by show j ≠ (j + 1) % 3; omega, by show j < m; omega, by show (j + 1) % 3 < m; omega⟩
    · exact hR _ ⟨n, p, ps, s5, s6, s7, s8, s9, hps, fun z2 => h3 (by omega), rfl⟩
  subst e
  walk_at "vc"
  exact h n ps hps
end
end U
set_option Elab.async false
set_option linter.all false
set_option maxRecDepth 100000
set_option maxHeartbeats 1000000
namespace U
open PySem PySem.Spec PyProof.Rows L2
local macro_rules | `(tactic| walk_at "vc") => `(tactic| (first | simp only [hueD_n, hueD_s, kOoNew, kOoApp, Slot.oo.injEq, c_0, c_1, c_2, c_3, eq_self, kLenSet, kFldC, kMeth, kOwn, kApp, kExt, kIns, kPop, kPut, kAugA, kPar, kDk0, kDk1, kDkPut, kDt0, kDtPut, kUpd, kInDk, kInDt, kSorted, kTapeSet, kSwap, kCount, kIndex, kLstR, kCallF, kBinF, catP, listP, max2P, min2P, intBP, absP, tupleP, Slot.dk.injEq, Slot.dt.injEq, reduceCtorEq, false_and, exists_false, and_assoc, lenP, seq_l, seq_t, seq_s, natsD, natsT, rowD, num_nat, Nat.reduceLeDiff, inP, ninP, ni_i, ni_n, ni_hue, eqN_ih, eqN_ii, eqN_nn, eqN_ni, eqN_in, any_nats', any_hues_n, any_hues_i, all_ni, all_niH, beq_nat, List.all_cons, List.all_nil, List.any_cons, List.any_nil, Bool.or_false, Bool.and_true, Bool.true_and, at0, at1, at2, at3, kSl, koN, koS, slP, kItET, kItE, kItS, kItR1, kItR2, kItZ, kItZM, webD, nat, tieD, le0, lt_nat, le_nat, eq_nat, decide_true, decide_false, decide_eq_true_eq, kSeq, kNext, kRet, kSet, kDrop, kTgt, ksIf, kVar, kVarB, rdB_p, rdB_o, kC, kBin, kF, q_add_ii, q_add_ll, q_add_tt, q_sub_ii, q_mul_ii, q_mul_li, q_mod_ii, q_fdiv_ii, q_pow_ii, q_ix_l, q_ix_t, q_ix_s, q_ix_tp, q_ii, q_is_bb, q_is_n, q_nis_bb, q_nis_n, q_eq_ii, q_eq_ni, q_eq_in, q_eq_nn, q_eq_ss, q_eq_tt, q_eq_ll, q_isN_n, q_isN_i, q_isN_t, q_isN_l, q_isN_b, kNeg, kCmp, kCmpT, kChain, kBo, neP, kAnd, kOr, kNot, tkAnd, tkOr, tkNot, tkV, kIf, kNil, kCons, kTup, kLst, kCall, kIsi, gkName, gkTup, gkCons, gkNil, tkYes, relP, kRel, wipeP, startP, List.map_cons, List.map_nil, List.length_cons, List.length_nil, List.replicate_succ, List.replicate_zero, List.cons_append, List.nil_append, List.append_nil, Nat.reduceSub, Nat.reduceAdd, Nat.sub_self, List.getElem?_cons_zero, List.getElem?_cons_succ, List.getElem?_nil, List.set_cons_zero, List.set_cons_succ, List.set_nil, Option.some.injEq, Slot.p.injEq, Slot.o.injEq, D.tup.injEq, D.lst.injEq, D.int.injEq, D.bl.injEq, D.str.injEq, exists_eq_left', exists_eq_left, exists_eq_right, exists_eq_right', exists_and_left, exists_eq', exists_eq, and_true, true_and, Bool.not_true, Bool.not_false, if_true, if_false, Bool.false_eq_true, ite_true, ite_false, reduceIte, List.cons.injEq, List.length_map] | skip))
section
variable {P : Program} {w : World} {K : PySem.W.Frag} {mg : Str → Option Value} {base : Heap} {k : Nat}
/-! ### webs that are drawn -/
structure WebL (n : Nat) (ts : List Tie) : Prop where
  lt : ∀ t ∈ ts, t.1 < t.2 ∧ t.2 < n
  n12 : n ≤ 12
  len : ts.length ≤ 2000
theorem mem_ins {ts : List Tie} {i : Nat} {t x : Tie} (h : x ∈ ts.take i ++ [t] ++ ts.drop i) : x = t ∨ x ∈ ts := by
  rcases List.mem_append.mp h with h | h
  · rcases List.mem_append.mp h with h | h
    · exact .inr (List.mem_of_mem_take h)
    · exact .inl (List.mem_singleton.mp h)
  · exact .inr (List.mem_of_mem_drop h)
theorem len_ins {ts : List Tie} {i : Nat} {t : Tie} : (ts.take i ++ [t] ++ ts.drop i).length = ts.length + 1 := by
  rw [List.length_append, List.length_append, List.length_take, List.length_drop, List.length_singleton]
  omega
theorem lc_of {it : KF} {g : KG} {tt : KT} {te : KE} {vs : List Nat} {ρ : PSt} {P : List D → Prop} {Pre : List D → Prop} (hit : ∀ Q : List D → Prop, (∀ ds, Pre ds → Q ds) → it ρ Q) (h : ∀ ds, Pre ds → ∀ it' : KF, (∀ Q : List D → Prop, Q ds → it' ρ Q) → kLc it' g tt te vs ρ P) : kLc it g tt te vs ρ P :=
  hit _ fun ds hd => h ds hd (fun _ Q => Q ds) fun _ hq => hq
theorem min_nat (a b : Nat) : min (a : Int) (b : Int) = ((min a b : Nat) : Int) := by omega
theorem max_nat (a b : Nat) : max (a : Int) (b : Int) = ((max a b : Nat) : Int) := by omega
theorem all_dat (ps : List Tie) : (ps.map tieD).all dat1 = true := by
  rw [List.all_map]
  exact List.all_eq_true.mpr fun _ _ => rfl
def q__law_web : PSp := fun ds P => ∃ a b, ds = [.tp a, .bl b] ∧ ∀ n ts, WebL n ts → P (webD n ts)
theorem ok__law_web (T : Tx K mg) (L : Lo K mg "_law_web" S__law_web) (c_pairs : Callee P w K mg base k "_law_pairs_by" q__law_pairs_by) (c_draw : Callee P w K mg base k "_law_draw" q__law_draw) : Callee P w K mg base (k + 1) "_law_web" q__law_web := by
  refine mk_callee L sc__law_web b__law_web (fun tw => d__law_web T c_pairs c_draw) (fun ds P ⟨n, ts, e, _⟩ => by rw [e]; rfl) fun ds P ⟨a, b, e, h⟩ => ?_
  subst e
  unfold k__law_web
  refine cutS (fun ρ => ∃ n ps, PairsOk n ps ∧ ρ = [.p (.tp a), .p (.bl b), .any, .p (nat n), .p (.lst (ps.map tieD)), .any, .any, .any]) (fun R hR => ?_) fun ρ ⟨n, ps, hps, e⟩ => ?_
  · unfold kTgt
    walk_at "vc"
    refine ⟨a, b, rfl, fun n ps hps => ?_⟩
    walk_at "vc"
    exact hR _ ⟨n, ps, hps, rfl⟩
  subst e
  refine cutS (fun ρ => ∃ (ps : List Tie), (∀ p ∈ ps, p.1 ≠ p.2 ∧ p.1 < n ∧ p.2 < n) ∧ ps.length ≤ 1010 ∧ ρ = [.p (.tp a), .p (.bl b), .any, .p (nat n), .p (.lst (ps.map tieD)), .any, .any, .any]) (fun R hR => ?_) fun ρ ⟨ps, hne, hl, e⟩ => ?_
  · walk_at "vc"
    refine ⟨all_dat ps, fin_if (fun hn0 => ?_) fun _ => hR _ ⟨ps, hps.ne, by have := hps.len; omega, rfl⟩⟩
    refine ⟨a, 4, rfl, by decide, by decide, fun r hr => ?_⟩
    walk_at "vc"
    split
    · refine lc_of (Pre := fun ds => ∃ q, q ≤ 3 ∧ ds = (List.range q).map nat) (fun Q hQ => ?_) fun ds ⟨q, hq, ed⟩ it' hit' => ?_
      · walk_at "vc"
        refine ⟨a, 3, rfl, by decide, by decide, fun q hq => ?_⟩
        walk_at "vc"
        rw [show ((1 : Int) + (q : Int)) = ((1 + q : Nat) : Int) by omega]
        exact ⟨by omega, by omega, hQ _ ⟨1 + q, by omega, rng_nat _⟩⟩
      subst ed
      refine lc_inv _ hit' (fun i acc => ∃ qs : List Tie, acc = qs.map tieD ∧ qs.length ≤ i ∧ ∀ x ∈ qs, x ∈ ps) ⟨[], rfl, Nat.le_refl _, fun _ z => (by cases z)⟩ (fun i d acc hd ⟨qs, e, hl, hx⟩ => ?_) fun acc ⟨qs, e, hl, hx⟩ => ?_
      · rw [List.getElem?_map] at hd
        cases hi : (List.range q)[i]? with
        | none => rw [hi] at hd; cases hd
        | some y =>
          rw [hi] at hd
          cases hd
          have hpl := hps.len
          have hp0 : 0 < ps.length := by
            cases ps with
            | nil => cases hn0
            | cons _ _ => exact Nat.succ_pos _
          walk_at "vc"
          refine ⟨a, ps.length, rfl, hp0, by omega, fun r hr => ?_⟩
          show ∃ d, atI (ps.map tieD) (r : Int) = some d ∧ _
          refine ⟨_, at_map (List.getElem?_eq_getElem hr), qs ++ [ps[r]], by rw [e, List.map_append]; rfl, by simp; omega, fun x hx' => ?_⟩
          rcases List.mem_append.mp hx' with z | z
          · exact hx x z
          · rw [List.mem_singleton.mp z]; exact List.getElem_mem hr
      · rw [List.length_map, List.length_range] at hl
        subst e
        have sz : sizeLine = 16777216 := rfl
        have hpl := hps.len
        rw [List.length_map]
        refine ⟨by omega, hR _ ⟨ps ++ qs, fun x hx' => ?_, by simp; omega, by rw [List.map_append]; rfl⟩⟩
        rcases List.mem_append.mp hx' with z | z
        · exact hps.ne x z
        · exact hps.ne x (hx x z)
    · exact hR _ ⟨ps, hps.ne, by have := hps.len; omega, rfl⟩
  subst e
  walk_at "vc"
  intro p0
  refine for_map ps tieD (fun Q hQ => ?_) (fun j ρ => ∃ (ts : List Tie) (s5 s6 : Slot), (∀ t ∈ ts, t.1 < t.2 ∧ t.2 < n) ∧ ts.length = j ∧ ρ = [.p (.tp a), .p (.bl b), .o p0 (ts.map tieD), .p (nat n), .p (.lst (ps.map tieD)), s5, s6, .any]) ⟨[], _, _, fun _ z => (by cases z), rfl, rfl⟩ (fun j x ρ hx ⟨ts, s5, s6, hts, hj, e⟩ => ?_) fun ρ ⟨ts, s5, s6, hts, hj, e⟩ => ?_
  · walk_at "vc"
    exact hQ
  · subst e
    walk_at "vc"
    have hjl := (List.getElem?_eq_some_iff.mp hx).1
    have hxm := hne x (List.mem_of_getElem? hx)
    refine ⟨by omega, a, ts.length + 1, rfl, by omega, by omega, fun r hr => ⟨(r : Int), rfl, by omega, by omega, ts.take r ++ [(min x.1 x.2, max x.1 x.2)] ++ ts.drop r, fun t ht => ?_, by rw [len_ins, hj], ?_⟩⟩
    · rcases mem_ins ht with z | z
      · rw [z]
        exact ⟨by show min x.1 x.2 < max x.1 x.2; omega, by show max x.1 x.2 < n; omega⟩
      · exact hts t z
    · rw [Int.toNat_natCast, min_nat, max_nat, List.map_append, List.map_append, List.map_take, List.map_drop]
      rfl
  · subst e
    walk_at "vc"
    exact h n ts ⟨hts, hps.n12, by omega⟩
/-! ### at most sixteen of them -/
theorem cut_nat {xs : List D} (m : Nat) : cutD xs none (some (m : Int)) = xs.take m := by
  unfold cutD
  rw [HT.sIx_none, HT.sIx_nat, List.drop_zero, Nat.sub_zero]
  by_cases h : m ≤ xs.length
  · rw [Nat.min_eq_left h]
  · rw [Nat.min_eq_right (by omega), List.take_length, List.take_of_length_le (by omega)]
def q__law_small : PSp := fun ds P => ∃ a, ds = [.tp a, nat 16] ∧ ∀ n ts, Web n ts → P (webD n ts)
theorem ok__law_small (T : Tx K mg) (L : Lo K mg "_law_small" S__law_small) (c_web : Callee P w K mg base k "_law_web" q__law_web) (c_draw : Callee P w K mg base k "_law_draw" q__law_draw) : Callee P w K mg base (k + 1) "_law_small" q__law_small := by
  refine mk_callee L sc__law_small b__law_small (fun tw => d__law_small T c_web c_draw) (fun ds P ⟨a, e, _⟩ => by rw [e]; rfl) fun ds P ⟨a, e, h⟩ => ?_
  subst e
  unfold k__law_small
  refine cutS (fun ρ => ∃ n ts, WebL n ts ∧ ρ = [.p (.tp a), .p (nat 16), .p (webD n ts), .any]) (fun R hR => ?_) fun ρ ⟨n, ts, hw, e⟩ => ?_
  · walk_at "vc"
    refine ⟨a, 12, rfl, by decide, by decide, fun r hr => ?_⟩
    walk_at "vc"
    exact ⟨a, _, rfl, fun n ts hw => hR _ ⟨n, ts, hw, rfl⟩⟩
  subst e
  refine cutS (fun ρ => ∃ n ts s3, WebL n ts ∧ ρ = [.p (.tp a), .p (nat 16), .p (webD n ts), s3]) (fun R hR => ?_) fun ρ ⟨n, ts, s3, hw, e⟩ => ?_
  · refine for_of (Pre := fun ds => ∃ r, r < 4 ∧ ds = (List.range r).map nat) (fun Q hQ => ?_) fun ds ⟨r, hr, ed⟩ it' hit' => ?_
    · walk_at "vc"
      refine ⟨a, 4, rfl, by decide, by decide, fun r hr => ?_⟩
      walk_at "vc"
      exact ⟨by omega, by omega, hQ _ ⟨r, hr, rng_nat r⟩⟩
    subst ed
    refine for_rng r nat hit' (fun j ρ => ∃ n ts s3, WebL n ts ∧ ρ = [.p (.tp a), .p (nat 16), .p (webD n ts), s3]) ⟨n, ts, _, hw, rfl⟩ (fun j ρ hj ⟨n, ts, s3, hw, e⟩ => ?_) fun ρ h => hR ρ h
    subst e
    walk_at "vc"
    refine ⟨all_dat ts, fin_if (fun _ => ?_) fun _ => ⟨n, ts, hw, rfl, rfl⟩⟩
    exact ⟨a, _, rfl, fun n ts hw => ⟨n, ts, hw, rfl⟩⟩
  subst e
  walk_at "vc"
  refine ⟨a, 4, rfl, by decide, by decide, fun r hr => ?_⟩
  have fin : ∀ m : Nat, m ≤ 16 → P (.tup [.int (n : Int), .tup (cutD (ts.map tieD) none (some (m : Int)))]) := fun m hm => by
    rw [cut_nat, ← List.map_take]
    refine h n (ts.take m) ⟨fun t ht => hw.lt t (List.mem_of_mem_take ht), hw.n12, ?_⟩
    rw [List.length_take]
    omega
  have : r = 0 ∨ r = 1 ∨ r = 2 ∨ r = 3 := by omega
  rcases this with rfl | rfl | rfl | rfl
  · exact ⟨_, at0, 9, rfl, fin 9 (by decide)⟩
  · exact ⟨_, at1, 9, rfl, fin 9 (by decide)⟩
  · exact ⟨_, at2, 9, rfl, fin 9 (by decide)⟩
  · exact ⟨_, at3, 16, rfl, fin 16 (by decide)⟩
/-! ### the web of ten places -/
def ten1 : List Tie := ((List.range 5).map fun k => (k, (k + 1) % 5)) ++ ((List.range 5).map fun k => (k, k + 5))
def ten2 : List Tie := ten1 ++ ((List.range 5).map fun k => (5 + k, 5 + (k + 2) % 5))
def q__law_ten : PSp := fun ds P => ds = [] ∧ ∀ ts, Web 10 ts → P (webD 10 ts)
theorem ok__law_ten (T : Tx K mg) (L : Lo K mg "_law_ten" S__law_ten) : Callee P w K mg base (k + 1) "_law_ten" q__law_ten := by
  refine mk_callee L sc__law_ten b__law_ten (fun tw => d__law_ten T) (fun ds P ⟨e, _⟩ => by rw [e]; rfl) fun ds P ⟨e, h⟩ => ?_
  subst e
  unfold k__law_ten
  have r5 : ∀ Q : List D → Prop, Q ((List.range 5).map nat) → Q (rngD 0 5) := fun Q h => by
    have := rng_nat 5
    rw [show ((5 : Nat) : Int) = 5 from rfl] at this
    rw [this]; exact h
  refine cutS (fun ρ => ∃ s1, ρ = [.p (.lst (ten1.map tieD)), s1, .any]) (fun R hR => ?_) fun ρ ⟨s1, e⟩ => ?_
  · walk_at "vc"
    refine lc_rng 5 nat (fun Q hQ => ?_) (fun _ => true) (fun k => tieD (k, (k + 1) % 5)) (fun k hk Q A h1 _ => ?_) ?_
    · walk_at "vc"
      exact ⟨by decide, by decide, r5 _ hQ⟩
    · walk_at "vc"
      have e1 : ((k : Int) + 1) % 5 = (((k + 1) % 5 : Nat) : Int) := by omega
      rw [e1]
      exact ⟨by decide, h1 rfl⟩
    · refine lc_rng 5 nat (fun Q hQ => ?_) (fun _ => true) (fun k => tieD (k, k + 5)) (fun k hk Q A h1 _ => ?_) ?_
      · walk_at "vc"
        exact ⟨by decide, by decide, r5 _ hQ⟩
      · walk_at "vc"
        exact h1 rfl
      · exact ⟨by decide, hR _ ⟨_, rfl⟩⟩
  subst e
  refine cutS (fun ρ => ∃ s1, ρ = [.p (.lst (ten2.map tieD)), s1, .any]) (fun R hR => ?_) fun ρ ⟨s1, e⟩ => ?_
  · walk_at "vc"
    refine lc_rng 5 nat (fun Q hQ => ?_) (fun _ => true) (fun k => tieD (5 + k, 5 + (k + 2) % 5)) (fun k hk Q A h1 _ => ?_) ?_
    · walk_at "vc"
      exact ⟨by decide, by decide, r5 _ hQ⟩
    · walk_at "vc"
      have e1 : 5 + ((k : Int) + 2) % 5 = ((5 + (k + 2) % 5 : Nat) : Int) := by omega
      rw [e1]
      exact ⟨by decide, h1 rfl⟩
    · exact ⟨by decide, hR _ ⟨_, rfl⟩⟩
  subst e
  walk_at "vc"
  refine lc_map ten2 tieD (fun Q hQ => ?_) (fun _ => true) (fun t => tieD (min t.1 t.2, max t.1 t.2)) (fun t ht Q A h1 _ => ?_) ?_
  · walk_at "vc"
    exact hQ
  · walk_at "vc"
    exact ⟨_, _, rfl, _, _, rfl, by rw [min_nat, max_nat]; exact h1 rfl⟩
  · have e : ((ten2.filter fun _ => true).map fun t => tieD (min t.1 t.2, max t.1 t.2)) = (ten2.map fun t => (min t.1 t.2, max t.1 t.2)).map tieD := by
      rw [List.filter_eq_self.mpr fun _ _ => rfl, List.map_map]; rfl
    rw [e]
    walk_at "vc"
    exact h (ten2.map fun t => (min t.1 t.2, max t.1 t.2)) ⟨by decide, by decide, by decide⟩
/-! ### turned about -/
structure Names (n : Nat) (f : Nat → Nat) : Prop where
  lt : ∀ i, i < n → f i < n
  inj : ∀ i j, i < n → j < n → f i = f j → i = j
def swapF (f : Nat → Nat) (na nb i : Nat) : Nat := if i = nb then f na else if i = na then f nb else f i
theorem Names.swap {n : Nat} {f : Nat → Nat} (h : Names n f) {na nb : Nat} (ha : na < n) (hb : nb < n) : Names n (swapF f na nb) := by
  refine ⟨fun i hi => ?_, fun i j hi hj e => ?_⟩
  · unfold swapF
    split
    · exact h.lt _ ha
    · split
      · exact h.lt _ hb
      · exact h.lt _ hi
  · have key : ∀ i, i < n → ∃ i', i' < n ∧ swapF f na nb i = f i' ∧ ((i = nb ∧ i' = na) ∨ (i ≠ nb ∧ i = na ∧ i' = nb) ∨ (i ≠ nb ∧ i ≠ na ∧ i' = i)) := fun i hi => by
      unfold swapF
      by_cases h1 : i = nb
      · exact ⟨na, ha, by rw [if_pos h1], .inl ⟨h1, rfl⟩⟩
      · by_cases h2 : i = na
        · exact ⟨nb, hb, by rw [if_neg h1, if_pos h2], .inr (.inl ⟨h1, h2, rfl⟩)⟩
        · exact ⟨i, hi, by rw [if_neg h1, if_neg h2], .inr (.inr ⟨h1, h2, rfl⟩)⟩
    obtain ⟨i', hi', e1, c1⟩ := key i hi
    obtain ⟨j', hj', e2, c2⟩ := key j hj
    rw [e1, e2] at e
    have := h.inj i' j' hi' hj' e
    omega
theorem names_set {n : Nat} {f : Nat → Nat} {na nb : Nat} (ha : na < n) (hb : nb < n) : ((((List.range n).map fun i => nat (f i)).set na (nat (f nb))).set nb (nat (f na))) = (List.range n).map fun i => nat (swapF f na nb i) := by
  refine List.ext_getElem? fun i => ?_
  unfold swapF
  rw [List.getElem?_set, List.getElem?_set, List.getElem?_map, List.getElem?_map, List.length_set, List.length_map, List.length_range]
  by_cases hi : i < n
  · rw [List.getElem?_range hi]
    by_cases h1 : nb = i
    · rw [if_pos h1, if_pos hb]
      show _ = some (nat _)
      rw [if_pos h1.symm]
    · rw [if_neg h1]
      by_cases h2 : na = i
      · rw [if_pos h2, if_pos ha]
        show _ = some (nat _)
        rw [if_neg (fun z => h1 z.symm), if_pos h2.symm]
      · rw [if_neg h2]
        show _ = some (nat _)
        rw [if_neg (fun z => h1 z.symm), if_neg (fun z => h2 z.symm)]; rfl
  · rw [if_neg (by omega), if_neg (by omega)]
    rw [List.getElem?_eq_none (by rw [List.length_range]; omega)]
    rfl
def q__law_turned : PSp := fun ds P => ∃ a n ts, ds = [.tp a, webD n ts] ∧ Web n ts ∧ ∀ ts', Web n ts' → P (webD n ts')
theorem ok__law_turned (T : Tx K mg) (L : Lo K mg "_law_turned" S__law_turned) (c_draw : Callee P w K mg base k "_law_draw" q__law_draw) : Callee P w K mg base (k + 1) "_law_turned" q__law_turned := by
  refine mk_callee L sc__law_turned b__law_turned (fun tw => d__law_turned T c_draw) (fun ds P ⟨a, n, ts, e, _⟩ => by rw [e]; rfl) fun ds P ⟨a, n, ts, e, W, h⟩ => ?_
  subst e
  have n12 := W.n12
  have t16 := W.t16
  unfold k__law_turned
  refine cutS (fun ρ => ∃ p, ρ = [.p (.tp a), .p (webD n ts), .o p ((List.range n).map nat), .any, .any, .any, .any, .any]) (fun R hR => ?_) fun ρ ⟨p0, e⟩ => ?_
  · walk_at "vc"
    refine ⟨by omega, by omega, fun p => ?_⟩
    rw [rng_nat]
    exact hR _ ⟨p, rfl⟩
  subst e
  refine cutS (fun ρ => ∃ f s3 s5, Names n f ∧ ρ = [.p (.tp a), .p (webD n ts), .o p0 ((List.range n).map fun i => nat (f i)), s3, .any, s5, .any, .any]) (fun R hR => ?_) fun ρ ⟨f, s3, s5, hf, e⟩ => ?_
  · walk_at "vc"
    refine for_rng n nat (fun Q hQ => ?_) (fun j ρ => ∃ f s3 s5, Names n f ∧ ρ = [.p (.tp a), .p (webD n ts), .o p0 ((List.range n).map fun i => nat (f i)), s3, .any, s5, .any, .any]) ⟨id, _, _, ⟨fun i hi => hi, fun i j _ _ e => e⟩, rfl⟩ (fun j ρ hj ⟨f, s3, s5, hf, e⟩ => ?_) fun ρ h => hR ρ h
    · walk_at "vc"
      exact ⟨by omega, by omega, by rw [rng_nat]; exact hQ⟩
    · subst e
      walk_at "vc"
      refine ⟨a, n, rfl, by omega, by omega, fun r hr => ?_⟩
      have at_ : ∀ i, i < n → ((List.range n).map fun i => D.int (f i : Int))[i]? = some (D.int (f i : Int)) := fun i hi => by
        rw [List.getElem?_map, List.getElem?_range hi]; rfl
      exact ⟨j, rfl, r, rfl, _, at_ j hj, _, at_ r hr, swapF f j r, hf.swap hj hr, names_set hj hr⟩
  subst e
  walk_at "vc"
  intro p1
  refine for_map ts tieD (fun Q hQ => ?_) (fun j ρ => ∃ (us : List Tie) (s5 s6 s7 : Slot), (∀ t ∈ us, t.1 < t.2 ∧ t.2 < n) ∧ us.length = j ∧ ρ = [.p (.tp a), .p (webD n ts), .o p0 ((List.range n).map fun i => nat (f i)), s3, .o p1 (us.map tieD), s5, s6, s7]) ⟨[], _, _, _, fun _ z => (by cases z), rfl, rfl⟩ (fun j x ρ hx ⟨us, s5, s6, s7, hus, hj, e⟩ => ?_) fun ρ ⟨us, s5, s6, s7, hus, hj, e⟩ => ?_
  · walk_at "vc"
    exact hQ
  · subst e
    walk_at "vc"
    have hjl := (List.getElem?_eq_some_iff.mp hx).1
    have hxm := W.lt x (List.mem_of_getElem? hx)
    have at_ : ∀ i, i < n → atI ((List.range n).map fun i => D.int (f i : Int)) (i : Int) = some (D.int (f i : Int)) := fun i hi => at_map (xs := List.range n) (enc := fun i => D.int (f i : Int)) (by rw [List.getElem?_range hi])
    have a1 := at_ x.1 (by omega)
    have a2 := at_ x.2 hxm.2
    refine ⟨_, a1, _, a2, _, rfl, _, rfl, _, a1, _, a2, _, rfl, _, rfl, by omega, a, us.length + 1, rfl, by omega, by omega, fun r hr => ⟨(r : Int), rfl, by omega, by omega, us.take r ++ [(min (f x.1) (f x.2), max (f x.1) (f x.2))] ++ us.drop r, fun t ht => ?_, by rw [len_ins, hj], ?_⟩⟩
    · rcases mem_ins ht with z | z
      · rw [z]
        have i1 := hf.lt x.1 (by omega)
        have i2 := hf.lt x.2 hxm.2
        have i3 : f x.1 ≠ f x.2 := fun e => by have := hf.inj x.1 x.2 (by omega) hxm.2 e; omega
        exact ⟨by show min (f x.1) (f x.2) < max (f x.1) (f x.2); omega, by show max (f x.1) (f x.2) < n; omega⟩
      · exact hus t z
    · rw [Int.toNat_natCast, min_nat, max_nat, List.map_append, List.map_append, List.map_take, List.map_drop]
      rfl
  · subst e
    walk_at "vc"
    exact h us ⟨hus, n12, by omega⟩
/-! ### any of these webs -/
def q__law_any : PSp := fun ds P => ∃ a, ds = [.tp a] ∧ ∀ n ts, Web n ts → P (webD n ts)
theorem ok__law_any (T : Tx K mg) (L : Lo K mg "_law_any" S__law_any) (c_draw : Callee P w K mg base k "_law_draw" q__law_draw) (c_turned : Callee P w K mg base k "_law_turned" q__law_turned) (c_ten : Callee P w K mg base k "_law_ten" q__law_ten) (c_small : Callee P w K mg base k "_law_small" q__law_small) : Callee P w K mg base (k + 1) "_law_any" q__law_any := by
  refine mk_callee L sc__law_any b__law_any (fun tw => d__law_any T c_draw c_turned c_ten c_small) (fun ds P ⟨a, e, _⟩ => by rw [e]; rfl) fun ds P ⟨a, e, h⟩ => ?_
  subst e
  unfold k__law_any
  walk_at "vc"
  refine ⟨a, 9, rfl, by decide, by decide, fun r hr => ?_⟩
  walk_at "vc"
  split
  · exact ⟨rfl, fun ts hw => ⟨a, 10, ts, rfl, hw, fun ts' hw' => h 10 ts' hw'⟩⟩
  · exact ⟨a, rfl, h⟩
end
end U
set_option Elab.async false
set_option linter.all false
set_option maxRecDepth 100000
set_option maxHeartbeats 1000000
namespace U
open PySem PySem.Spec PyProof.Rows L2
local macro_rules | `(tactic| walk_at "vc") => `(tactic| (first | simp only [hueD_n, hueD_s, kOoNew, kOoApp, Slot.oo.injEq, c_0, c_1, c_2, c_3, eq_self, kLenSet, kFldC, kMeth, kOwn, kApp, kExt, kIns, kPop, kPut, kAugA, kPar, kDk0, kDk1, kDkPut, kDt0, kDtPut, kUpd, kInDk, kInDt, kSorted, kTapeSet, kSwap, kCount, kIndex, kLstR, kCallF, kBinF, catP, listP, max2P, min2P, intBP, absP, tupleP, Slot.dk.injEq, Slot.dt.injEq, reduceCtorEq, false_and, exists_false, and_assoc, lenP, seq_l, seq_t, seq_s, natsD, natsT, rowD, num_nat, Nat.reduceLeDiff, inP, ninP, ni_i, ni_n, ni_hue, eqN_ih, eqN_ii, eqN_nn, eqN_ni, eqN_in, any_nats', any_hues_n, any_hues_i, all_ni, all_niH, beq_nat, List.all_cons, List.all_nil, List.any_cons, List.any_nil, Bool.or_false, Bool.and_true, Bool.true_and, at0, at1, at2, at3, kSl, koN, koS, slP, kItET, kItE, kItS, kItR1, kItR2, kItZ, kItZM, webD, nat, tieD, le0, lt_nat, le_nat, eq_nat, decide_true, decide_false, decide_eq_true_eq, kSeq, kNext, kRet, kSet, kDrop, kTgt, ksIf, kVar, kVarB, rdB_p, rdB_o, kC, kBin, kF, q_add_ii, q_add_ll, q_add_tt, q_sub_ii, q_mul_ii, q_mul_li, q_mod_ii, q_fdiv_ii, q_pow_ii, q_ix_l, q_ix_t, q_ix_s, q_ix_tp, q_ii, q_is_bb, q_is_n, q_nis_bb, q_nis_n, q_eq_ii, q_eq_ni, q_eq_in, q_eq_nn, q_eq_ss, q_eq_tt, q_eq_ll, q_isN_n, q_isN_i, q_isN_t, q_isN_l, q_isN_b, kNeg, kCmp, kCmpT, kChain, kBo, neP, kAnd, kOr, kNot, tkAnd, tkOr, tkNot, tkV, kIf, kNil, kCons, kTup, kLst, kCall, kIsi, gkName, gkTup, gkCons, gkNil, tkYes, relP, kRel, wipeP, startP, List.map_cons, List.map_nil, List.length_cons, List.length_nil, List.replicate_succ, List.replicate_zero, List.cons_append, List.nil_append, List.append_nil, Nat.reduceSub, Nat.reduceAdd, Nat.sub_self, List.getElem?_cons_zero, List.getElem?_cons_succ, List.getElem?_nil, List.set_cons_zero, List.set_cons_succ, List.set_nil, Option.some.injEq, Slot.p.injEq, Slot.o.injEq, D.tup.injEq, D.lst.injEq, D.int.injEq, D.bl.injEq, D.str.injEq, exists_eq_left', exists_eq_left, exists_eq_right, exists_eq_right', exists_and_left, exists_eq', exists_eq, and_true, true_and, Bool.not_true, Bool.not_false, if_true, if_false, Bool.false_eq_true, ite_true, ite_false, reduceIte, List.cons.injEq, List.length_map] | skip))
section
variable {P : Program} {w : World} {K : PySem.W.Frag} {mg : Str → Option Value} {base : Heap} {k : Nat}
/-! ### the law's looks -/
def q__law_paper_right : PSp := fun ds P => ∃ n ts num pa r, ds = [webD n ts, nat num, papO pa] ∧ Web n ts ∧ Whole ts r num ∧ num ≤ 16 ∧ PapFor n ts num pa ∧ P (.bl true)
theorem sub_self (ts : List Tie) : ts.Sublist ts := List.Sublist.refl ts
theorem ok__law_paper_right (T : Tx K mg) (L : Lo K mg "_law_paper_right" S__law_paper_right) (c_shows : Callee P w K mg base k "shows_fewer" q_shows_fewer) : Callee P w K mg base (k + 1) "_law_paper_right" q__law_paper_right := by
  refine mk_callee L sc__law_paper_right b__law_paper_right (fun tw => d__law_paper_right T c_shows) (fun ds P ⟨n, ts, num, pa, r, e, _⟩ => by rw [e]; rfl) fun ds P ⟨n, ts, num, pa, r, e, W, hw, hn, hpa, h⟩ => ?_
  subst e
  unfold k__law_paper_right
  cases pa with
  | none =>
    have e0 := hpa.1.mpr rfl
    subst e0
    unfold papO
    walk_at "vc"
    exact h
  | some p =>
    have hn0 : num ≠ 0 := fun e => by have := hpa.1.mp e; cases this
    obtain ⟨hok, hs⟩ := hpa.2 p rfl
    unfold papO
    walk_at "vc"
    rw [if_neg (by omega)]
    refine ⟨n, ts, num - 1, p, by rw [show ((num : Int) - 1) = ((num - 1 : Nat) : Int) by omega]; rfl, by omega, hok, ?_⟩
    rw [hs]
    walk_at "vc"
    refine ⟨n, ts, num, p, rfl, by omega, hok, ?_⟩
    rw [fewer_sound W hw p]
    walk_at "vc"
    have low : isTree p = false → kLc (kItR1 (kVar 1)) (gkName 3) tkYes (kCall q_shows_fewer (kCons (kVar 0) (kCons (kVar 3) (kCons (kVar 2) kNil)))) [3] [.p (webD n ts), .p (nat num), .p (papD p), .any] fun ds => allP [.lst ds] P := fun ht => by
      refine lc_rng num nat (fun Q hQ => ?_) (fun _ => true) (fun _ => .bl true) (fun j hj Q A h1 _ => ?_) ?_
      · walk_at "vc"
        exact ⟨by omega, by omega, by rw [rng_nat]; exact hQ⟩
      · walk_at "vc"
        refine ⟨n, ts, j, p, rfl, by omega, hok, ?_⟩
        rw [fewer_mono (List.Sublist.refl ts) (show j ≤ num - 1 by omega) ht hs]
        exact h1 rfl
      · refine ⟨((List.range num).filter fun _ => true).map fun _ => true, by rw [List.map_map]; rfl, ?_⟩
        rw [show (((List.range num).filter fun _ => true).map fun _ => true).all id = true from by rw [List.all_map]; exact List.all_eq_true.mpr fun _ _ => rfl]
        exact h
    cases p with
    | place q =>
      unfold papD
      walk_at "vc"
      rw [if_neg (by decide)]
      exact low rfl
    | set S =>
      unfold papD
      walk_at "vc"
      rw [if_neg (by decide)]
      exact low rfl
    | tree d =>
      unfold papD
      walk_at "vc"
      exact h
def q__law_filled_right : PSp := fun ds P => ∃ n ts h word, ds = [webD n ts, nat h, .str word] ∧ Web n ts ∧ h ≤ 1000 ∧ ((word = "hueing" ∧ ∃ r, Whole ts r h) ∨ (word = "none" ∧ ∀ r, ¬ Whole ts r h)) ∧ P (.bl true)
theorem ok__law_filled_right (T : Tx K mg) (L : Lo K mg "_law_filled_right" S__law_filled_right) (c_filled : Callee P w K mg base k "filled" q_filled) (c_shows : Callee P w K mg base k "shows_filled" q_shows_filled) : Callee P w K mg base (k + 1) "_law_filled_right" q__law_filled_right := by
  refine mk_callee L sc__law_filled_right b__law_filled_right (fun tw => d__law_filled_right T c_filled c_shows) (fun ds P ⟨n, ts, hh, word, e, _⟩ => by rw [e]; rfl) fun ds P ⟨n, ts, hh, word, e, W, hz, hword, h⟩ => ?_
  subst e
  have t16 := W.t16
  unfold k__law_filled_right
  walk_at "vc"
  have sz : sizeLine = 16777216 := rfl
  refine ⟨by omega, by omega, by omega, ?_⟩
  rw [Int.toNat_natCast, flat_non]
  refine ⟨n, ts, hh, rfl, W, hz, fun r hw => ?_, fun d hd he => ?_⟩
  · rcases hword with ⟨rfl, _⟩ | ⟨_, hno⟩
    · walk_at "vc"
      refine ⟨n, ts, hh, .hueing r, rfl, W, hz, hw, ?_⟩
      walk_at "vc"
      exact h
    · exact absurd hw (hno r)
  · rcases hword with ⟨_, r, hw⟩ | ⟨rfl, _⟩
    · exact (treeE_sound hw 20 [] d (fun _ z => (by cases z)) he).elim
    · walk_at "vc"
      refine ⟨n, ts, hh, .none d, rfl, W, hz, ⟨hd, he⟩, ?_⟩
      walk_at "vc"
      exact h
def q__law_some_right : PSp := fun ds P => ∃ a n ts, ds = [.tp a, webD n ts] ∧ Web n ts ∧ P (.bl true)
theorem ok__law_some_right (T : Tx K mg) (L : Lo K mg "_law_some_right" S__law_some_right) (c_draw : Callee P w K mg base k "_law_draw" q__law_draw) (c_fewest : Callee P w K mg base k "fewest" q_fewest) (c_only : Callee P w K mg base k "only" q_only) (c_shows : Callee P w K mg base k "shows_fewer" q_shows_fewer) : Callee P w K mg base (k + 1) "_law_some_right" q__law_some_right := by
  refine mk_callee L sc__law_some_right b__law_some_right (fun tw => d__law_some_right T c_draw c_fewest c_only c_shows) (fun ds P ⟨a, n, ts, e, _⟩ => by rw [e]; rfl) fun ds P ⟨a, n, ts, e, W, h⟩ => ?_
  subst e
  have t16 := W.t16
  unfold k__law_some_right kTgt
  walk_at "vc"
  refine lc_inv ((List.range ts.length).map nat) (fun Q hQ => ?_) (fun i acc => ∃ is : List Nat, acc = is.map nat ∧ is.Sublist (List.range i)) ⟨[], rfl, List.Sublist.refl _⟩ (fun i d acc hd ⟨is, e, hs⟩ => ?_) fun acc ⟨is, e, hs⟩ => ?_
  · walk_at "vc"
    exact ⟨by omega, by omega, by rw [rng_nat]; exact hQ⟩
  · rw [List.getElem?_map] at hd
    cases hi : (List.range ts.length)[i]? with
    | none => rw [hi] at hd; cases hd
    | some y =>
      rw [hi] at hd
      cases hd
      have hyi : y = i := by
        have hl := (List.getElem?_eq_some_iff.mp hi).1
        rw [List.length_range] at hl
        rw [List.getElem?_range hl] at hi
        exact (Option.some.inj hi).symm
      subst hyi
      walk_at "vc"
      refine ⟨a, 3, rfl, by decide, by decide, fun r hr => ?_⟩
      walk_at "vc"
      rw [List.range_succ]
      split
      · exact ⟨is ++ [y], by rw [e, List.map_append]; rfl, hs.append (List.Sublist.refl [y])⟩
      · exact ⟨is, e, hs.trans (List.sublist_append_left _ _)⟩
  · rw [List.length_map, List.length_range] at hs
    subst e
    intro p
    have hsub := only_sub hs
    refine ⟨n, ts, is, rfl, fun i hi => List.mem_range.mp (hs.subset hi), ?_⟩
    walk_at "vc"
    refine ⟨n, is.map (tie ts), rfl, web_sub W hsub, fun num r pa hw hn hpa => ?_⟩
    refine ⟨_, rfl, rfl, _, _, rfl, _, _, rfl, _, _, rfl, rfl, ?_⟩
    walk_at "vc"
    cases pa with
    | none =>
      have e0 := hpa.1.mpr rfl
      subst e0
      walk_at "vc"
      exact h
    | some q =>
      have hn0 : num ≠ 0 := fun e => by have := hpa.1.mp e; cases this
      obtain ⟨hok, hq⟩ := hpa.2 q rfl
      rw [if_neg (by omega)]
      have low : isTree q = false → q_shows_fewer [webD n ts, .int ((num : Int) - 1), papD q] P := fun ht => by
        refine ⟨n, ts, num - 1, q, by rw [show ((num : Int) - 1) = ((num - 1 : Nat) : Int) by omega]; rfl, by omega, hok, ?_⟩
        rw [fewer_mono hsub (Nat.le_refl _) ht hq]
        exact h
      unfold papO
      cases q with
      | place z =>
        unfold papD
        walk_at "vc"
        rw [if_neg (by decide)]
        exact low rfl
      | set S =>
        unfold papD
        walk_at "vc"
        rw [if_neg (by decide)]
        exact low rfl
      | tree d =>
        unfold papD
        walk_at "vc"
        exact h
end
end U
set_option Elab.async false
set_option linter.all false
set_option maxRecDepth 100000
set_option maxHeartbeats 1000000
namespace U
open PySem PySem.Spec PyProof.Rows L2
local macro_rules | `(tactic| walk_at "vc") => `(tactic| (first | simp only [hueD_n, hueD_s, kOoNew, kOoApp, Slot.oo.injEq, c_0, c_1, c_2, c_3, eq_self, kLenSet, kFldC, kMeth, kOwn, kApp, kExt, kIns, kPop, kPut, kAugA, kPar, kDk0, kDk1, kDkPut, kDt0, kDtPut, kUpd, kInDk, kInDt, kSorted, kTapeSet, kSwap, kCount, kIndex, kLstR, kCallF, kBinF, catP, listP, max2P, min2P, intBP, absP, tupleP, Slot.dk.injEq, Slot.dt.injEq, reduceCtorEq, false_and, exists_false, and_assoc, lenP, seq_l, seq_t, seq_s, natsD, natsT, rowD, num_nat, Nat.reduceLeDiff, inP, ninP, ni_i, ni_n, ni_hue, eqN_ih, eqN_ii, eqN_nn, eqN_ni, eqN_in, any_nats', any_hues_n, any_hues_i, all_ni, all_niH, beq_nat, List.all_cons, List.all_nil, List.any_cons, List.any_nil, Bool.or_false, Bool.and_true, Bool.true_and, at0, at1, at2, at3, kSl, koN, koS, slP, kItET, kItE, kItS, kItR1, kItR2, kItZ, kItZM, webD, nat, tieD, le0, lt_nat, le_nat, eq_nat, decide_true, decide_false, decide_eq_true_eq, kSeq, kNext, kRet, kSet, kDrop, kTgt, ksIf, kVar, kVarB, rdB_p, rdB_o, kC, kBin, kF, q_add_ii, q_add_ll, q_add_tt, q_sub_ii, q_mul_ii, q_mul_li, q_mod_ii, q_fdiv_ii, q_pow_ii, q_ix_l, q_ix_t, q_ix_s, q_ix_tp, q_ii, q_is_bb, q_is_n, q_nis_bb, q_nis_n, q_eq_ii, q_eq_ni, q_eq_in, q_eq_nn, q_eq_ss, q_eq_tt, q_eq_ll, q_isN_n, q_isN_i, q_isN_t, q_isN_l, q_isN_b, kNeg, kCmp, kCmpT, kChain, kBo, neP, kAnd, kOr, kNot, tkAnd, tkOr, tkNot, tkV, kIf, kNil, kCons, kTup, kLst, kCall, kIsi, gkName, gkTup, gkCons, gkNil, tkYes, relP, kRel, wipeP, startP, List.map_cons, List.map_nil, List.length_cons, List.length_nil, List.replicate_succ, List.replicate_zero, List.cons_append, List.nil_append, List.append_nil, Nat.reduceSub, Nat.reduceAdd, Nat.sub_self, List.getElem?_cons_zero, List.getElem?_cons_succ, List.getElem?_nil, List.set_cons_zero, List.set_cons_succ, List.set_nil, Option.some.injEq, Slot.p.injEq, Slot.o.injEq, D.tup.injEq, D.lst.injEq, D.int.injEq, D.bl.injEq, D.str.injEq, exists_eq_left', exists_eq_left, exists_eq_right, exists_eq_right', exists_and_left, exists_eq', exists_eq, and_true, true_and, Bool.not_true, Bool.not_false, if_true, if_false, Bool.false_eq_true, ite_true, ite_false, reduceIte, List.cons.injEq, List.length_map] | skip))
section
variable {P : Program} {w : World} {K : PySem.W.Frag} {mg : Str → Option Value} {base : Heap} {k : Nat}
/-! ### the law -/
def q_law : PSp := fun ds P => ∃ ns, ds = [.scr ns] ∧ ns.length ≤ 1000000 ∧ P (.bl true)
theorem ok_lawF {f : Addr} {fd : FuncData} (T : Tx K mg) (F : Fun K "law" "law" S_law f fd) (c_tape : CalleeF P w K mg base k "_law_tape" q__law_tape) (c_any : Callee P w K mg base k "_law_any" q__law_any) (c_fewest : Callee P w K mg base k "fewest" q_fewest) (c_paper : Callee P w K mg base k "_law_paper_right" q__law_paper_right) (c_some : Callee P w K mg base k "_law_some_right" q__law_some_right)
    (c_classes : Callee P w K mg base k "classes" q_classes) (c_filled : Callee P w K mg base k "_law_filled_right" q__law_filled_right) (c_evened : Callee P w K mg base k "evened" q_evened) (c_is_whole : Callee P w K mg base k "is_whole" q_is_whole) (c_shows_fewest : Callee P w K mg base k "shows_fewest" q_shows_fewest) : FnOk P w K mg base CX0 (k + 1) f fd ["_law_script"] (toSp K q_law) := by
  refine def_ok F sc_law (fun ds P ⟨ns, e, _⟩ => by rw [e]; rfl) (fun tw => d_law T c_tape c_any c_fewest c_paper c_some c_classes c_filled c_evened c_is_whole c_shows_fewest) fun ds P ⟨ns, e, hl, h⟩ => ?_
  subst e
  unfold k_law
  refine cutS (fun ρ => ρ = [.p (.scr ns), .any, .any, .any, .any, .any, .any, .any, .any]) (fun R hR => ?_) fun ρ e => ?_
  · refine for_rng 2 nat (fun Q hQ => ?_) (fun j ρ => ρ = [.p (.scr ns), .any, .any, .any, .any, .any, .any, .any, .any]) rfl (fun j ρ hj e => ?_) fun ρ e => hR ρ e
    · walk_at "vc"
      have := rng_nat 2
      rw [show ((2 : Nat) : Int) = 2 from rfl] at this
      exact ⟨by decide, by decide, by rw [this]; exact hQ⟩
    · subst e
      show kSeq _ _ _ _ _
      refine cutS (fun ρ => ∃ p a b, ρ = [.p (.scr ns), .p (nat j), .o p [.int a, .int b], .any, .any, .any, .any, .any, .any]) (fun R hR => ?_) fun ρ ⟨p, a, b, e⟩ => ?_
      · walk_at "vc"
        exact ⟨ns, j, rfl, hl, by omega, fun a b p => hR _ ⟨p, a, b, rfl⟩⟩
      subst e
      unfold kTape
      refine ⟨p, a, b, rfl, fun i s hi hs => ?_, ?_⟩
      · rcases i with _ | _ | _ | i
        · cases hs; rfl
        · cases hs; rfl
        · exact absurd rfl hi
        · have : s ∈ ([.any, .any, .any, .any, .any, .any] : List Slot) := List.mem_of_getElem? (i := i) hs
          simp at this
          rw [this]; rfl
      have last : ∀ ρ' : PSt, ρ'.length = 9 → ρ'[0]? = some (.p (.scr ns)) → ∃ ρ2 : PSt, ρ2.length = ρ'.length ∧ (∀ (j : Nat) (s : Slot), ρ2[j]? = some s → s = .any ∨ ∃ d, s = .p d ∧ NoTp d ∧ ρ'[j]? = some (.p d)) ∧ ρ2 = [.p (.scr ns), .any, .any, .any, .any, .any, .any, .any, .any] := fun ρ' h9 h0 => by
        refine ⟨_, ?_, fun i s hs => ?_, rfl⟩
        · rw [h9]; rfl
        · cases i with
          | zero => cases hs; exact .inr ⟨_, rfl, .scr ns, h0⟩
          | succ i =>
            have : s ∈ ([.any, .any, .any, .any, .any, .any, .any, .any] : List Slot) := List.mem_of_getElem? (i := i) hs
            simp at this
            exact .inl this
      generalize hN : (fun ρ' : PSt => ∃ ρ2 : PSt, ρ2.length = ρ'.length ∧ (∀ (j : Nat) (s : Slot), ρ2[j]? = some s → s = .any ∨ ∃ d, s = .p d ∧ NoTp d ∧ ρ'[j]? = some (.p d)) ∧ ρ2 = [.p (.scr ns), .any, .any, .any, .any, .any, .any, .any, .any]) = N
      have last' : ∀ ρ' : PSt, ρ'.length = 9 → ρ'[0]? = some (.p (.scr ns)) → N ρ' := fun ρ' h9 h0 => by rw [← hN]; exact last ρ' h9 h0
      clear last hN
      refine cutS (fun ρ => ∃ n ts, Web n ts ∧ ρ = [.p (.scr ns), .p (nat j), .p (.tp p), .p (webD n ts), .any, .any, .any, .any, .any]) (fun R hR => ?_) fun ρ ⟨n, ts, W, e⟩ => ?_
      · walk_at "vc"
        exact ⟨p, rfl, fun n ts W => hR _ ⟨n, ts, W, rfl⟩⟩
      subst e
      have n12 := W.n12
      have t16 := W.t16
      refine cutS (fun ρ => ∃ num r pa, Whole ts r num ∧ num ≤ 16 ∧ PapFor n ts num pa ∧ ρ = [.p (.scr ns), .p (nat j), .p (.tp p), .p (webD n ts), .any, .p (nat num), .p (rowD r), .p (papO pa), .any]) (fun R hR => ?_) fun ρ ⟨num, r, pa, hw, hn, hpa, e⟩ => ?_
      · unfold kTgt
        walk_at "vc"
        refine ⟨n, ts, rfl, W, fun num r pa hw hn hpa => ?_⟩
        refine ⟨_, rfl, rfl, _, _, rfl, _, _, rfl, _, _, rfl, rfl, ?_⟩
        exact hR _ ⟨num, r, pa, hw, hn, hpa, rfl⟩
      subst e
      refine cutS (fun ρ => ρ = [.p (.scr ns), .p (nat j), .p (.tp p), .p (webD n ts), .any, .p (nat num), .p (rowD r), .p (papO pa), .any]) (fun R hR => ?_) fun ρ e => ?_
      · walk_at "vc"
        refine ⟨n, ts, num, pa, r, rfl, W, hw, hn, hpa, ?_⟩
        walk_at "vc"
        refine ⟨p, n, ts, rfl, W, ?_⟩
        walk_at "vc"
        exact hR _ rfl
      subst e
      refine cutS (fun ρ => ρ = [.p (.scr ns), .p (nat j), .p (.tp p), .p (webD n ts), .any, .p (nat num), .p (rowD r), .p (papO pa), .any]) (fun R hR => ?_) fun ρ e => ?_
      · walk_at "vc"
        refine lc_map ((List.range num).map fun c => classOf r c) natsD (fun Q hQ => ?_) (fun _ => true) (fun l => .bl (decide (n < 2 * l.length))) (fun l hl Q A h1 _ => ?_) ?_
        · walk_at "vc"
          refine ⟨r, num, rfl, by rw [hw.1.1]; omega, by omega, ?_⟩
          walk_at "vc"
          rw [List.map_map] at hQ
          exact hQ
        · walk_at "vc"
          have c2 : CMul 2 (l.length : Int) := .inl ⟨by decide, by decide⟩
          refine ⟨c2, ?_⟩
          have e : decide ((n : Int) < 2 * (l.length : Int)) = decide (n < 2 * l.length) := decide_eq_decide.mpr (by omega)
          rw [e]
          exact h1 rfl
        · refine ⟨((List.range num).map fun c => classOf r c).map fun l => decide (n < 2 * l.length), by rw [List.filter_eq_self.mpr fun _ _ => rfl, List.map_map (f := fun l : List Nat => decide (n < 2 * l.length))]; rfl, ?_⟩
          have e : (((List.range num).map fun c => classOf r c).map fun l => decide (n < 2 * l.length)).any id = false := by
            rw [List.any_eq_false]
            intro b hb
            obtain ⟨l, hl, rfl⟩ := List.mem_map.mp hb
            obtain ⟨c, _, rfl⟩ := List.mem_map.mp hl
            have := class_half W hw.1 c
            simp
            omega
          rw [e]
          walk_at "vc"
          exact hR _ rfl
      subst e
      refine cutS (fun ρ => ρ = [.p (.scr ns), .p (nat j), .p (.tp p), .p (webD n ts), .any, .p (nat num), .p (rowD r), .p (papO pa), .any]) (fun R hR => ?_) fun ρ e => ?_
      · walk_at "vc"
        split
        · rename_i h0
          split
          · split
            · have hp : ∃ q, pa = some q := by
                cases pa with
                | some q => exact ⟨q, rfl⟩
                | none => have := hpa.1.mpr rfl; omega
              obtain ⟨q, eq⟩ := hp
              refine ⟨n, ts, num, "hueing", rfl, W, by omega, .inl ⟨rfl, r, hw⟩, ?_⟩
              walk_at "vc"
              refine ⟨n, ts, num - 1, "none", by rw [show ((num : Int) - 1) = ((num - 1 : Nat) : Int) by omega]; rfl, W, by omega, .inr ⟨rfl, fun r2 hw2 => ?_⟩, ?_⟩
              · have := fewer_sound W hw2 q
                rw [(hpa.2 q eq).2] at this
                cases this
              · walk_at "vc"
                exact hR _ rfl
            · exact hR _ rfl
          · exact hR _ rfl
        · exact hR _ rfl
      subst e
      refine cutS (fun ρ => ∃ r', Whole ts r' num ∧ ρ = [.p (.scr ns), .p (nat j), .p (.tp p), .p (webD n ts), .p (rowD r'), .p (nat num), .p (rowD r), .p (papO pa), .any]) (fun R hR => ?_) fun ρ ⟨r', hw', e⟩ => ?_
      · walk_at "vc"
        refine ⟨n, ts, r, num, rfl, W, hw, by omega, fun r' d hw' => ?_⟩
        walk_at "vc"
        exact hR _ ⟨r', hw', rfl⟩
      subst e
      walk_at "vc"
      refine ⟨n, ts, r', rfl, W, hw'.1, ?_⟩
      rw [whole_no hw']
      walk_at "vc"
      refine ⟨n, ts, num, r', pa, rfl, W, hw'.1, by omega, fun q eq => (hpa.2 q eq).1, whole_no hw', fun x hx c ec => ?_, hpa.1, ?_⟩
      · obtain ⟨i, hi, e⟩ := List.mem_iff_getElem.mp hx
        obtain ⟨c', ec', hc'⟩ := hw'.2 i (by rw [← hw'.1.1]; exact hi)
        have e3 : hue r' i = r'[i] := by show r'.getD i none = _; rw [List.getD_eq_getElem?_getD, List.getElem?_eq_getElem hi]; rfl
        rw [e3, e, ec] at ec'
        cases ec'
        exact hc'
      · have fin : N [.p (.scr ns), .p (nat j), .p (.tp p), .p (webD n ts), .p (rowD r'), .p (nat num), .p (rowD r), .p (papO pa), .any] := last' _ rfl rfl
        cases pa with
        | none =>
          walk_at "vc"
          exact fin
        | some q =>
          have e := (hpa.2 q rfl).2
          show nisP (.bl (showsFewer n ts (num - 1) q)) (.bl true) _
          rw [e]
          walk_at "vc"
          exact fin
  subst e
  walk_at "vc"
  exact h
end
end U
set_option Elab.async false
set_option linter.all false
set_option maxRecDepth 100000
set_option maxHeartbeats 1000000
namespace U
open PySem PySem.Spec PyProof.Rows L2
local macro_rules | `(tactic| walk_at "vc") => `(tactic| (first | simp only [hueD_n, hueD_s, kOoNew, kOoApp, Slot.oo.injEq, c_0, c_1, c_2, c_3, eq_self, kLenSet, kFldC, kMeth, kOwn, kApp, kExt, kIns, kPop, kPut, kAugA, kPar, kDk0, kDk1, kDkPut, kDt0, kDtPut, kUpd, kInDk, kInDt, kSorted, kTapeSet, kSwap, kCount, kIndex, kLstR, kCallF, kBinF, catP, listP, max2P, min2P, intBP, absP, tupleP, Slot.dk.injEq, Slot.dt.injEq, reduceCtorEq, false_and, exists_false, and_assoc, lenP, seq_l, seq_t, seq_s, natsD, natsT, rowD, num_nat, Nat.reduceLeDiff, inP, ninP, ni_i, ni_n, ni_hue, eqN_ih, eqN_ii, eqN_nn, eqN_ni, eqN_in, any_nats', any_hues_n, any_hues_i, all_ni, all_niH, beq_nat, List.all_cons, List.all_nil, List.any_cons, List.any_nil, Bool.or_false, Bool.and_true, Bool.true_and, at0, at1, at2, at3, kSl, koN, koS, slP, kItET, kItE, kItS, kItR1, kItR2, kItZ, kItZM, webD, nat, tieD, le0, lt_nat, le_nat, eq_nat, decide_true, decide_false, decide_eq_true_eq, kSeq, kNext, kRet, kSet, kDrop, kTgt, ksIf, kVar, kVarB, rdB_p, rdB_o, kC, kBin, kF, q_add_ii, q_add_ll, q_add_tt, q_sub_ii, q_mul_ii, q_mul_li, q_mod_ii, q_fdiv_ii, q_pow_ii, q_ix_l, q_ix_t, q_ix_s, q_ix_tp, q_ii, q_is_bb, q_is_n, q_nis_bb, q_nis_n, q_eq_ii, q_eq_ni, q_eq_in, q_eq_nn, q_eq_ss, q_eq_tt, q_eq_ll, q_isN_n, q_isN_i, q_isN_t, q_isN_l, q_isN_b, kNeg, kCmp, kCmpT, kChain, kBo, neP, kAnd, kOr, kNot, tkAnd, tkOr, tkNot, tkV, kIf, kNil, kCons, kTup, kLst, kCall, kIsi, gkName, gkTup, gkCons, gkNil, tkYes, relP, kRel, wipeP, startP, List.map_cons, List.map_nil, List.length_cons, List.length_nil, List.replicate_succ, List.replicate_zero, List.cons_append, List.nil_append, List.append_nil, Nat.reduceSub, Nat.reduceAdd, Nat.sub_self, List.getElem?_cons_zero, List.getElem?_cons_succ, List.getElem?_nil, List.set_cons_zero, List.set_cons_succ, List.set_nil, Option.some.injEq, Slot.p.injEq, Slot.o.injEq, D.tup.injEq, D.lst.injEq, D.int.injEq, D.bl.injEq, D.str.injEq, exists_eq_left', exists_eq_left, exists_eq_right, exists_eq_right', exists_and_left, exists_eq', exists_eq, and_true, true_and, Bool.not_true, Bool.not_false, if_true, if_false, Bool.false_eq_true, ite_true, ite_false, reduceIte, List.cons.injEq, List.length_map] | skip))
section
variable {P : Program} {w : World} {K : PySem.W.Frag} {mg : Str → Option Value} {base : Heap} {k : Nat} {cSearch cLists : Addr}
/-! ### Search(..), Lists(..) -/
abbrev S_Search_init : Stmt := clsS 69 0
abbrev S_Lists_init : Stmt := clsS 78 0
theorem notp_nats (l : List Nat) : NoTp (natsD l) := .lst fun d hd => by
  obtain ⟨i, _, rfl⟩ := List.mem_map.mp hd
  exact .int _
theorem notp_near (ts : List Tie) : NoTp (nearD ts) := .lst fun d hd => by
  obtain ⟨i, _, rfl⟩ := List.mem_map.mp hd
  exact notp_nats _
theorem notp_lists (m h : Nat) : NoTp (listsL m h) := .lst fun d hd => by
  rw [(List.mem_replicate.mp hd).2]
  exact notp_nats _
theorem b_Search_init {f : Addr} {fd : FuncData} (F : Fun K "__init__" "Search.__init__" S_Search_init f fd) : Binds K fd ["self", "web", "hues"] [] := F.binds (ps := ["self", "web", "hues"]) fun _ _ _ _ _ _ us hl => match us, hl with | [_, _, _], _ => rfl
theorem b_Lists_init {f : Addr} {fd : FuncData} (F : Fun K "__init__" "Lists.__init__" S_Lists_init f fd) : Binds K fd ["self", "web", "lists"] [] := F.binds (ps := ["self", "web", "lists"]) fun _ _ _ _ _ _ us hl => match us, hl with | [_, _, _], _ => rfl
theorem ok_mk_Search (T : Tx K mg) (TSearch : TcSearch K cSearch) (L : LoI K mg "Search" cSearch "Search.__init__" S_Search_init) (c_near : Callee P w K mg base k "ties_near" q_ties_near) : MakeOk P w K mg base (k + 1) "Search" cSearch "near" "below" q_mkSearch := by
  refine mk_make (N := ["self", "web", "hues"]) (a1 := "web") (a2 := "hues") (more := []) (t1 := kCall q_ties_near (kCons (kVar 1) (kNil))) (t2 := kVar 2) L TSearch.cls TSearch.na_near TSearch.na_below rfl ⟨rfl, rfl, rfl, by decide +kernel, rfl, by decide +kernel, by decide +kernel⟩ b_Search_init rfl (by first | exact Or.inl rfl | exact Or.inr (Or.inl rfl))
    (fun tw => r_call c_near (Nat.le_refl _) (by rfl) (a_cons (v 1) (a_nil))) (fun tw => v 2) (fun _ => rfl) (fun _ => rfl) (fun _ => rfl) (fun _ _ => rfl) (fun ds R ⟨n, ts, h, e, _⟩ => ⟨_, _, e⟩) fun x y R ⟨n, ts, h, e, W, hR⟩ => ?_
  cases e
  walk_at "vc"
  exact ⟨n, ts, rfl, W, notp_near ts, .int _, hR⟩
theorem ok_mk_Lists (T : Tx K mg) (TLists : TcLists K cLists) (L : LoI K mg "Lists" cLists "Lists.__init__" S_Lists_init) (c_beside : Callee P w K mg base k "ties_beside" q_ties_beside) : MakeOk P w K mg base (k + 1) "Lists" cLists "beside" "own_lists" q_mkLists := by
  have nd : (["self", "web", "lists", "some"] : List Str).Nodup := by decide +kernel
  refine mk_make (N := ["self", "web", "lists", "some"]) (a1 := "web") (a2 := "lists") (more := ["some"]) (t1 := kCall q_ties_beside (kCons (kVar 1) (kNil))) (t2 := kF (kLc (kItS (kVar 2)) (gkName 3) (tkYes) (kF (kCallF listP (kCons (kVarB 3) (kNil)))) [3])) L TLists.cls TLists.na_beside TLists.na_own_lists rfl ⟨rfl, rfl, rfl, by decide +kernel, rfl, by decide +kernel, by decide +kernel⟩ b_Lists_init rfl (by first | exact Or.inl rfl | exact Or.inr (Or.inl rfl))
    (fun tw => r_call c_beside (Nat.le_refl _) (by rfl) (a_cons (v 1) (a_nil))) (fun tw => EvF.r (r_lc (own := [("some", 3)]) nd (by rfl) (i_seq (v 2)) (gn 3 nd) (by decide) (.nil) (EvF.r (r_callTF bf_list (by rfl) T.b_list (by rfl) (ab_cons (vb 3) (ab_nil)))))) (fun _ => rfl) (fun _ => rfl) (fun _ => rfl) (fun _ _ => rfl) (fun ds R ⟨n, ts, h, e, _⟩ => ⟨_, _, e⟩) fun x y R ⟨n, ts, h, e, W, hz, hR⟩ => ?_
  cases e
  walk_at "vc"
  refine ⟨n, ts, rfl, W, notp_near ts, ?_⟩
  refine lc_map (List.replicate ts.length (natsD (List.range h))) id (fun Q hQ => ?_) (fun _ => true) id (fun d hd Q A h1 _ => ?_) ?_
  · unfold listsL
    rw [List.map_id] at hQ
    walk_at "vc"
    exact hQ
  · rw [(List.mem_replicate.mp hd).2] at h1 ⊢
    walk_at "vc"
    exact ⟨_, rfl, h1 rfl⟩
  · rw [List.filter_eq_self.mpr fun _ _ => rfl, List.map_id]
    exact ⟨notp_lists _ _, hR⟩
end
end U
set_option Elab.async false
set_option linter.all false
set_option maxRecDepth 100000
set_option maxHeartbeats 1000000
namespace U
open PySem PySem.Spec PyProof.Rows L2
local macro_rules | `(tactic| walk_at "vc") => `(tactic| (first | simp only [hueD_n, hueD_s, kOoNew, kOoApp, Slot.oo.injEq, c_0, c_1, c_2, c_3, eq_self, kLenSet, kFldC, kMeth, kOwn, kApp, kExt, kIns, kPop, kPut, kAugA, kPar, kDk0, kDk1, kDkPut, kDt0, kDtPut, kUpd, kInDk, kInDt, kSorted, kTapeSet, kSwap, kCount, kIndex, kLstR, kCallF, kBinF, catP, listP, max2P, min2P, intBP, absP, tupleP, Slot.dk.injEq, Slot.dt.injEq, reduceCtorEq, false_and, exists_false, and_assoc, lenP, seq_l, seq_t, seq_s, natsD, natsT, rowD, num_nat, Nat.reduceLeDiff, inP, ninP, ni_i, ni_n, ni_hue, eqN_ih, eqN_ii, eqN_nn, eqN_ni, eqN_in, any_nats', any_hues_n, any_hues_i, all_ni, all_niH, beq_nat, List.all_cons, List.all_nil, List.any_cons, List.any_nil, Bool.or_false, Bool.and_true, Bool.true_and, at0, at1, at2, at3, kSl, koN, koS, slP, kItET, kItE, kItS, kItR1, kItR2, kItZ, kItZM, webD, nat, tieD, le0, lt_nat, le_nat, eq_nat, decide_true, decide_false, decide_eq_true_eq, kSeq, kNext, kRet, kSet, kDrop, kTgt, ksIf, kVar, kVarB, rdB_p, rdB_o, kC, kBin, kF, q_add_ii, q_add_ll, q_add_tt, q_sub_ii, q_mul_ii, q_mul_li, q_mod_ii, q_fdiv_ii, q_pow_ii, q_ix_l, q_ix_t, q_ix_s, q_ix_tp, q_ii, q_is_bb, q_is_n, q_nis_bb, q_nis_n, q_eq_ii, q_eq_ni, q_eq_in, q_eq_nn, q_eq_ss, q_eq_tt, q_eq_ll, q_isN_n, q_isN_i, q_isN_t, q_isN_l, q_isN_b, kNeg, kCmp, kCmpT, kChain, kBo, neP, kAnd, kOr, kNot, tkAnd, tkOr, tkNot, tkV, kIf, kNil, kCons, kTup, kLst, kCall, kIsi, gkName, gkTup, gkCons, gkNil, tkYes, relP, kRel, wipeP, startP, List.map_cons, List.map_nil, List.length_cons, List.length_nil, List.replicate_succ, List.replicate_zero, List.cons_append, List.nil_append, List.append_nil, Nat.reduceSub, Nat.reduceAdd, Nat.sub_self, List.getElem?_cons_zero, List.getElem?_cons_succ, List.getElem?_nil, List.set_cons_zero, List.set_cons_succ, List.set_nil, Option.some.injEq, Slot.p.injEq, Slot.o.injEq, D.tup.injEq, D.lst.injEq, D.int.injEq, D.bl.injEq, D.str.injEq, exists_eq_left', exists_eq_left, exists_eq_right, exists_eq_right', exists_and_left, exists_eq', exists_eq, and_true, true_and, Bool.not_true, Bool.not_false, if_true, if_false, Bool.false_eq_true, ite_true, ite_false, reduceIte, List.cons.injEq, List.length_map] | skip))
section
variable {P : Program} {w : World} {K : PySem.W.Frag} {mg : Str → Option Value} {base : Heap} {cSearch cLists : Addr}
/-! ### all of it -/
structure Fx (K : PySem.W.Frag) (mg : Str → Option Value) (base : Heap) (cSearch cLists : Addr) : Prop where
  T : Tx K mg
  TSearch : TcSearch K cSearch
  TLists : TcLists K cLists
  TB : LamX.TabB base mg (He.cT K ("Lists", some "next_tie")).1 (TbK K)
  l_is_number : Lo K mg "is_number" S_is_number
  l_look_place : Lo K mg "look_place" S_look_place
  l_look_tie : Lo K mg "look_tie" S_look_tie
  l_ties_at : Lo K mg "ties_at" S_ties_at
  l_count_at : Lo K mg "count_at" S_count_at
  l_ties_by_place : Lo K mg "ties_by_place" S_ties_by_place
  l_most_at : Lo K mg "most_at" S_most_at
  l_far_end : Lo K mg "far_end" S_far_end
  l_only : Lo K mg "only" S_only
  l_within : Lo K mg "within" S_within
  l_is_hue : Lo K mg "is_hue" S_is_hue
  l_clash_of : Lo K mg "clash_of" S_clash_of
  l_is_hueing : Lo K mg "is_hueing" S_is_hueing
  l_is_whole : Lo K mg "is_whole" S_is_whole
  l_is_place_of : Lo K mg "is_place_of" S_is_place_of
  l_is_odd_set : Lo K mg "is_odd_set" S_is_odd_set
  l_is_full_set : Lo K mg "is_full_set" S_is_full_set
  l_hues_to_try : Lo K mg "hues_to_try" S_hues_to_try
  l_is_new_tie : Lo K mg "is_new_tie" S_is_new_tie
  l_is_tree_behind : Lo K mg "is_tree_behind" S_is_tree_behind
  l_shows_fewer : Lo K mg "shows_fewer" S_shows_fewer
  l_shows_fewest : Lo K mg "shows_fewest" S_shows_fewest
  l_classes : Lo K mg "classes" S_classes
  l_sizes : Lo K mg "sizes" S_sizes
  l_tie_of : Lo K mg "tie_of" S_tie_of
  l_look_hues : Lo K mg "look_hues" S_look_hues
  l_look_so : Lo K mg "look_so" S_look_so
  l_other_of : Lo K mg "other_of" S_other_of
  l_neighbours : Lo K mg "neighbours" S_neighbours
  l_word_of : Lo K mg "word_of" S_word_of
  l_exchanged : Lo K mg "exchanged" S_exchanged
  l_row_with : Lo K mg "row_with" S_row_with
  l_part_from : Lo K mg "part_from" S_part_from
  l_parts : Lo K mg "parts" S_parts
  l_rows_of : Lo K mg "rows_of" S_rows_of
  l_end_of_hue : Lo K mg "end_of_hue" S_end_of_hue
  l_step_between : Lo K mg "step_between" S_step_between
  l_row_from : Lo K mg "row_from" S_row_from
  l_with_hue : Lo K mg "with_hue" S_with_hue
  l_dropped : Lo K mg "dropped" S_dropped
  l_moved : Lo K mg "moved" S_moved
  l_row_turned : Lo K mg "row_turned" S_row_turned
  l_made_by : Lo K mg "made_by" S_made_by
  l_done_step : Lo K mg "done_step" S_done_step
  l_evened : Lo K mg "evened" S_evened
  l_ties_near : Lo K mg "ties_near" S_ties_near
  m_free_hues : LoM K cSearch "free_hues" "Search.free_hues" S_Search_free_hues
  m_open_hues : LoM K cSearch "open_hues" "Search.open_hues" S_Search_open_hues
  m_narrowest : LoM K cSearch "narrowest" "Search.narrowest" S_Search_narrowest
  m_goes_on : LoM K cSearch "goes_on" "Search.goes_on" S_Search_goes_on
  i_Search : LoI K mg "Search" cSearch "Search.__init__" S_Search_init
  l_paper_by_place : Lo K mg "paper_by_place" S_paper_by_place
  l_full_set : Lo K mg "full_set" S_full_set
  l_paper_by_set : Lo K mg "paper_by_set" S_paper_by_set
  l_fewest : Lo K mg "fewest" S_fewest
  l_ties_beside : Lo K mg "ties_beside" S_ties_beside
  m_left_for : LoM K cLists "left_for" "Lists.left_for" S_Lists_left_for
  m_next : LoT K cLists S_Lists_next_tie
  m_whole_from : LoM K cLists "whole_from" "Lists.whole_from" S_Lists_whole_from
  i_Lists : LoI K mg "Lists" cLists "Lists.__init__" S_Lists_init
  l_lists_for : Lo K mg "lists_for" S_lists_for
  l_from_lists : Lo K mg "from_lists" S_from_lists
  l_filled : Lo K mg "filled" S_filled
  l_hues_left : Lo K mg "hues_left" S_hues_left
  l_is_bare : Lo K mg "is_bare" S_is_bare
  l_ends_all : Lo K mg "ends_all" S_ends_all
  l_shows_lists : Lo K mg "shows_lists" S_shows_lists
  l_shows_filled : Lo K mg "shows_filled" S_shows_filled
  l__law_tape : Lo K mg "_law_tape" S__law_tape
  l__law_draw : Lo K mg "_law_draw" S__law_draw
  l__law_pairs_by : Lo K mg "_law_pairs_by" S__law_pairs_by
  l__law_web : Lo K mg "_law_web" S__law_web
  l__law_small : Lo K mg "_law_small" S__law_small
  l__law_ten : Lo K mg "_law_ten" S__law_ten
  l__law_turned : Lo K mg "_law_turned" S__law_turned
  l__law_any : Lo K mg "_law_any" S__law_any
  l__law_paper_right : Lo K mg "_law_paper_right" S__law_paper_right
  l__law_filled_right : Lo K mg "_law_filled_right" S__law_filled_right
  l__law_some_right : Lo K mg "_law_some_right" S__law_some_right
theorem law_all {f : Addr} {fd : FuncData} (X : Fx K mg base cSearch cLists) (F : Fun K "law" "law" S_law f fd) : FnOk P w K mg base CX0 26 f fd ["_law_script"] (toSp K q_law) := by
  have c_is_number : Callee P w K mg base 1 "is_number" q_is_number := ok_is_number (k := 0) X.T X.l_is_number 
  have c_look_place : Callee P w K mg base 2 "look_place" q_look_place := ok_look_place (k := 1) X.T X.l_look_place (c_is_number.mono (by decide))
  have c_look_tie : Callee P w K mg base 2 "look_tie" q_look_tie := ok_look_tie (k := 1) X.T X.l_look_tie (c_is_number.mono (by decide))
  have c_ties_at : Callee P w K mg base 3 "ties_at" q_ties_at := ok_ties_at (k := 2) X.T X.l_ties_at (c_look_place.mono (by decide))
  have c_count_at : Callee P w K mg base 4 "count_at" q_count_at := ok_count_at (k := 3) X.T X.l_count_at (c_ties_at.mono (by decide))
  have c_ties_by_place : Callee P w K mg base 1 "ties_by_place" q_ties_by_place := ok_ties_by_place (k := 0) X.T X.l_ties_by_place 
  have c_most_at : Callee P w K mg base 2 "most_at" q_most_at := ok_most_at (k := 1) X.T X.l_most_at (c_ties_by_place.mono (by decide))
  have c_far_end : Callee P w K mg base 3 "far_end" q_far_end := ok_far_end (k := 2) X.T X.l_far_end (c_look_tie.mono (by decide)) (c_is_number.mono (by decide))
  have c_only : Callee P w K mg base 3 "only" q_only := ok_only (k := 2) X.T X.l_only (c_look_tie.mono (by decide))
  have c_within : Callee P w K mg base 1 "within" q_within := ok_within (k := 0) X.T X.l_within 
  have c_is_hue : Callee P w K mg base 2 "is_hue" q_is_hue := ok_is_hue (k := 1) X.T X.l_is_hue (c_is_number.mono (by decide))
  have c_clash_of : Callee P w K mg base 1 "clash_of" q_clash_of := ok_clash_of (k := 0) X.T X.l_clash_of 
  have c_is_hueing : Callee P w K mg base 3 "is_hueing" q_is_hueing := ok_is_hueing (k := 2) X.T X.l_is_hueing (c_is_hue.mono (by decide)) (c_clash_of.mono (by decide))
  have c_is_whole : Callee P w K mg base 4 "is_whole" q_is_whole := ok_is_whole (k := 3) X.T X.l_is_whole (c_is_hueing.mono (by decide))
  have c_is_place_of : Callee P w K mg base 2 "is_place_of" q_is_place_of := ok_is_place_of (k := 1) X.T X.l_is_place_of (c_is_number.mono (by decide))
  have c_is_odd_set : Callee P w K mg base 3 "is_odd_set" q_is_odd_set := ok_is_odd_set (k := 2) X.T X.l_is_odd_set (c_is_place_of.mono (by decide))
  have c_is_full_set : Callee P w K mg base 4 "is_full_set" q_is_full_set := ok_is_full_set (k := 3) X.T X.l_is_full_set (c_is_odd_set.mono (by decide)) (c_within.mono (by decide))
  have c_hues_to_try : Callee P w K mg base 1 "hues_to_try" q_hues_to_try := ok_hues_to_try (k := 0) X.T X.l_hues_to_try 
  have c_is_new_tie : Callee P w K mg base 2 "is_new_tie" q_is_new_tie := ok_is_new_tie (k := 1) X.T X.l_is_new_tie (c_is_number.mono (by decide))
  have c_is_tree_behind : Callee P w K mg base 22 "is_tree_behind" (q_is_tree_behind 20) := ok_tree_all (k := 2) X.T X.l_is_tree_behind (c_is_new_tie.mono (by decide)) (c_hues_to_try.mono (by decide)) 20
  have c_shows_fewer : Callee P w K mg base 23 "shows_fewer" q_shows_fewer := ok_shows_fewer (k := 22) X.T X.l_shows_fewer (c_is_place_of.mono (by decide)) (c_count_at.mono (by decide)) (c_is_full_set.mono (by decide)) (c_is_tree_behind.mono (by decide))
  have c_shows_fewest : Callee P w K mg base 24 "shows_fewest" q_shows_fewest := ok_shows_fewest (k := 23) X.T X.l_shows_fewest (c_is_number.mono (by decide)) (c_is_whole.mono (by decide)) (c_shows_fewer.mono (by decide))
  have c_classes : Callee P w K mg base 1 "classes" q_classes := ok_classes (k := 0) X.T X.l_classes 
  have c_sizes : Callee P w K mg base 2 "sizes" q_sizes := ok_sizes (k := 1) X.T X.l_sizes (c_classes.mono (by decide))
  have c_tie_of : Callee P w K mg base 4 "tie_of" q_tie_of := ok_tie_of (k := 3) X.T X.l_tie_of (c_ties_at.mono (by decide))
  have c_look_hues : Callee P w K mg base 1 "look_hues" q_look_hues := ok_look_hues (k := 0) X.T X.l_look_hues 
  have c_look_so : Callee P w K mg base 1 "look_so" q_look_so := ok_look_so (k := 0) X.T X.l_look_so 
  have c_other_of : Callee P w K mg base 1 "other_of" q_other_of := ok_other_of (k := 0) X.T X.l_other_of 
  have c_neighbours : Callee P w K mg base 4 "neighbours" q_neighbours := ok_neighbours (k := 3) X.T X.l_neighbours (c_ties_at.mono (by decide))
  have c_word_of : Callee P w K mg base 1 "word_of" q_word_of := ok_word_of (k := 0) X.T X.l_word_of 
  have c_exchanged : Callee P w K mg base 4 "exchanged" q_exchanged := ok_exchanged (k := 3) X.T X.l_exchanged (c_look_hues.mono (by decide)) (c_other_of.mono (by decide)) (c_is_hueing.mono (by decide))
  have c_row_with : Callee P w K mg base 5 "row_with" q_row_with := ok_row_with (k := 4) X.T X.l_row_with (c_neighbours.mono (by decide))
  have c_part_from : Callee P w K mg base 1 "part_from" q_part_from := ok_part_from (k := 0) X.T X.l_part_from 
  have c_parts : Callee P w K mg base 2 "parts" q_parts := ok_parts (k := 1) X.T X.l_parts (c_ties_by_place.mono (by decide)) (c_part_from.mono (by decide))
  have c_rows_of : Callee P w K mg base 6 "rows_of" q_rows_of := ok_rows_of (k := 5) X.T X.l_rows_of (c_look_hues.mono (by decide)) (c_row_with.mono (by decide)) (c_word_of.mono (by decide))
  have c_end_of_hue : Callee P w K mg base 1 "end_of_hue" q_end_of_hue := ok_end_of_hue (k := 0) X.T X.l_end_of_hue 
  have c_step_between : Callee P w K mg base 7 "step_between" q_step_between := ok_step_between (k := 6) X.T X.l_step_between (c_rows_of.mono (by decide)) (c_end_of_hue.mono (by decide))
  have c_row_from : Callee P w K mg base 5 "row_from" q_row_from := ok_row_from (k := 4) X.T X.l_row_from (c_ties_at.mono (by decide)) (c_look_hues.mono (by decide)) (c_tie_of.mono (by decide)) (c_far_end.mono (by decide))
  have c_with_hue : Callee P w K mg base 1 "with_hue" q_no := ok_with_hue (k := 0) X.l_with_hue 
  have c_dropped : Callee P w K mg base 1 "dropped" q_no := ok_dropped (k := 0) X.l_dropped 
  have c_moved : Callee P w K mg base 1 "moved" q_no := ok_moved (k := 0) X.l_moved 
  have c_row_turned : Callee P w K mg base 6 "row_turned" q_row_turned := ok_row_turned (k := 5) X.T X.l_row_turned (c_exchanged.mono (by decide)) (c_row_from.mono (by decide))
  have c_made_by : Callee P w K mg base 7 "made_by" q_made_by := ok_made_by (k := 6) X.T X.l_made_by (c_with_hue.mono (by decide)) (c_dropped.mono (by decide)) (c_moved.mono (by decide)) (c_row_turned.mono (by decide))
  have c_done_step : Callee P w K mg base 8 "done_step" q_done_step := ok_done_step (k := 7) X.T X.l_done_step (c_made_by.mono (by decide)) (c_look_so.mono (by decide)) (c_is_hueing.mono (by decide))
  have c_evened : Callee P w K mg base 9 "evened" q_evened := ok_evened (k := 8) X.T X.l_evened (c_sizes.mono (by decide)) (c_step_between.mono (by decide)) (c_done_step.mono (by decide))
  have c_ties_near : Callee P w K mg base 1 "ties_near" q_ties_near := ok_ties_near (k := 0) X.T X.l_ties_near 
  have m_free_hues : CalleeM P w K mg base 1 cSearch "free_hues" (q_Search_free_hues cSearch) := ok_Search_free_hues (k := 0) X.T X.TSearch X.m_free_hues 
  have m_open_hues : CalleeM P w K mg base 2 cSearch "open_hues" (q_Search_open_hues cSearch) := ok_Search_open_hues (k := 1) X.T X.TSearch X.m_open_hues (m_free_hues.mono (by decide))
  have m_narrowest : CalleeM P w K mg base 2 cSearch "narrowest" (q_Search_narrowest cSearch) := ok_Search_narrowest (k := 1) X.T X.TSearch X.m_narrowest (m_free_hues.mono (by decide))
  have m_goes_on : CalleeM P w K mg base 19 cSearch "goes_on" (q_Search_goes_on cSearch 16) := ok_goes_all (k := 2) X.T X.TSearch X.m_goes_on (m_narrowest.mono (by decide)) (m_open_hues.mono (by decide)) 16
  have mkS : MakeOk P w K mg base 2 "Search" cSearch "near" "below" q_mkSearch := ok_mk_Search (k := 1) X.T X.TSearch X.i_Search (c_ties_near.mono (by decide))
  have c_paper_by_place : Callee P w K mg base 5 "paper_by_place" q_paper_by_place := ok_paper_by_place (k := 4) X.T X.l_paper_by_place (c_most_at.mono (by decide)) (c_count_at.mono (by decide))
  have c_full_set : Callee P w K mg base 5 "full_set" q_full_set := ok_full_set (k := 4) X.T X.l_full_set (c_count_at.mono (by decide))
  have c_paper_by_set : Callee P w K mg base 6 "paper_by_set" q_paper_by_set := ok_paper_by_set (k := 5) X.T X.l_paper_by_set (c_full_set.mono (by decide))
  have c_fewest : Callee P w K mg base 20 "fewest" q_fewest := ok_fewest (k := 19) X.T X.TSearch X.l_fewest (c_most_at.mono (by decide)) (c_paper_by_place.mono (by decide)) (c_paper_by_set.mono (by decide)) (m_goes_on.mono (by decide)) (by decide) mkS
  have c_ties_beside : Callee P w K mg base 1 "ties_beside" q_ties_beside := ok_ties_beside (k := 0) X.T X.l_ties_beside 
  have m_left_for : CalleeM P w K mg base 1 cLists "left_for" (q_Lists_left_for cLists) := ok_Lists_left_for (k := 0) X.T X.TLists X.m_left_for 
  have m_next_tie : CalleeM P w K mg base 4 cLists "next_tie" (q_Lists_next_tie cLists) := ok_Lists_next_tie (k := 1) X.T X.TLists X.TB X.m_next (m_left_for.mono (by decide))
  have m_whole_from : CalleeM P w K mg base 21 cLists "whole_from" (q_Lists_whole_from cLists 16) := ok_whole_from_all (k := 4) X.T X.TLists X.m_whole_from (m_next_tie.mono (by decide)) (m_left_for.mono (by decide)) 16
  have mkL : MakeOk P w K mg base 2 "Lists" cLists "beside" "own_lists" q_mkLists := ok_mk_Lists (k := 1) X.T X.TLists X.i_Lists (c_ties_beside.mono (by decide))
  have c_lists_for : Callee P w K mg base 1 "lists_for" q_lists_for := ok_lists_for (k := 0) X.T X.l_lists_for 
  have c_from_lists : Callee P w K mg base 22 "from_lists" q_from_lists := ok_from_lists (k := 21) X.T X.TLists X.l_from_lists (c_parts.mono (by decide)) (c_within.mono (by decide)) (m_whole_from.mono (by decide)) (by decide) mkL
  have c_filled : Callee P w K mg base 23 "filled" q_filled := ok_filled (k := 22) X.T X.l_filled (c_from_lists.mono (by decide)) (c_lists_for.mono (by decide))
  have c_hues_left : Callee P w K mg base 1 "hues_left" q_hues_left := ok_hues_left (k := 0) X.T X.l_hues_left 
  have c_is_bare : Callee P w K mg base 2 "is_bare" q_is_bare := ok_is_bare (k := 1) X.T X.l_is_bare (c_is_number.mono (by decide))
  have c_ends_all : Callee P w K mg base 22 "ends_all" (q_ends_all 20) := ok_ends_allF (k := 2) X.T X.l_ends_all (c_is_bare.mono (by decide)) (c_hues_left.mono (by decide)) 20
  have c_shows_lists : Callee P w K mg base 23 "shows_lists" q_shows_lists := ok_shows_lists (k := 22) X.T X.l_shows_lists (c_is_whole.mono (by decide)) (c_ends_all.mono (by decide))
  have c_shows_filled : Callee P w K mg base 24 "shows_filled" q_shows_filled := ok_shows_filled (k := 23) X.T X.l_shows_filled (c_shows_lists.mono (by decide)) (c_lists_for.mono (by decide))
  have c__law_tape : CalleeF P w K mg base 1 "_law_tape" q__law_tape := ok__law_tape (k := 0) X.T X.l__law_tape
  have c__law_draw : Callee P w K mg base 1 "_law_draw" q__law_draw := ok__law_draw (k := 0) X.T X.l__law_draw 
  have c__law_pairs_by : Callee P w K mg base 2 "_law_pairs_by" q__law_pairs_by := ok__law_pairs_by (k := 1) X.T X.l__law_pairs_by (c__law_draw.mono (by decide))
  have c__law_web : Callee P w K mg base 3 "_law_web" q__law_web := ok__law_web (k := 2) X.T X.l__law_web (c__law_pairs_by.mono (by decide)) (c__law_draw.mono (by decide))
  have c__law_small : Callee P w K mg base 4 "_law_small" q__law_small := ok__law_small (k := 3) X.T X.l__law_small (c__law_web.mono (by decide)) (c__law_draw.mono (by decide))
  have c__law_ten : Callee P w K mg base 1 "_law_ten" q__law_ten := ok__law_ten (k := 0) X.T X.l__law_ten 
  have c__law_turned : Callee P w K mg base 2 "_law_turned" q__law_turned := ok__law_turned (k := 1) X.T X.l__law_turned (c__law_draw.mono (by decide))
  have c__law_any : Callee P w K mg base 5 "_law_any" q__law_any := ok__law_any (k := 4) X.T X.l__law_any (c__law_draw.mono (by decide)) (c__law_turned.mono (by decide)) (c__law_ten.mono (by decide)) (c__law_small.mono (by decide))
  have c__law_paper_right : Callee P w K mg base 24 "_law_paper_right" q__law_paper_right := ok__law_paper_right (k := 23) X.T X.l__law_paper_right (c_shows_fewer.mono (by decide))
  have c__law_filled_right : Callee P w K mg base 25 "_law_filled_right" q__law_filled_right := ok__law_filled_right (k := 24) X.T X.l__law_filled_right (c_filled.mono (by decide)) (c_shows_filled.mono (by decide))
  have c__law_some_right : Callee P w K mg base 24 "_law_some_right" q__law_some_right := ok__law_some_right (k := 23) X.T X.l__law_some_right (c__law_draw.mono (by decide)) (c_fewest.mono (by decide)) (c_only.mono (by decide)) (c_shows_fewer.mono (by decide))
  exact ok_lawF (k := 25) X.T F (c__law_tape.mono (by decide)) (c__law_any.mono (by decide)) (c_fewest.mono (by decide)) (c__law_paper_right.mono (by decide)) (c__law_some_right.mono (by decide)) (c_classes.mono (by decide)) (c__law_filled_right.mono (by decide)) (c_evened.mono (by decide)) (c_is_whole.mono (by decide)) (c_shows_fewest.mono (by decide))
end
end U
set_option Elab.async false
set_option linter.all false
set_option maxRecDepth 100000
set_option maxHeartbeats 4000000
namespace HD
open PySem PySem.Spec PyProof.Rows L2 U
theorem fun_of {K : PySem.W.Frag} {x qual : Str} {st : Stmt} {f : Addr} {fd : FuncData} {kws : List (Str × V)} (F : FunD K x qual (defArgs st) (defBody st) (defScope st) [] kws f fd) : Fun K x qual st f fd := by
  obtain ⟨oc, od, dV, kV, doc, pm, an, cdv, ct, osl, e, lk, hcd, hd, _⟩ := F.ex
  have ed : dV = .none := by
    rcases hd with ⟨_, z⟩ | ⟨z, _⟩
    · exact z
    · exact absurd rfl z
  subst ed
  exact ⟨⟨oc, od, kV, doc, pm, an, cdv, ct, osl, e, lk, hcd⟩, F.kp⟩
theorem fx_of {K : PySem.W.Frag} {h base : Heap} {mg : Str → Option Value} (X : K.In h) (G : h.Ns mainGlobals mg) (c : He.SaysD fa fn K) (TB : LamX.TabB base mg (He.cT K ("Lists", some "next_tie")).1 (TbK K)) : Fx K mg base (He.ga K "Search") (He.ga K "Lists") where
  T := ⟨He.free_ok X G (c.fact 71 (f := .free "len") rfl),
    He.free_ok X G (c.fact 72 (f := .free "max") rfl),
    He.free_ok X G (c.fact 73 (f := .free "min") rfl),
    He.free_ok X G (c.fact 74 (f := .free "range") rfl),
    He.free_ok X G (c.fact 75 (f := .free "enumerate") rfl),
    He.free_ok X G (c.fact 76 (f := .free "isinstance") rfl),
    He.free_ok X G (c.fact 77 (f := .free "int") rfl),
    He.free_ok X G (c.fact 78 (f := .free "bool") rfl),
    He.free_ok X G (c.fact 79 (f := .free "list") rfl),
    He.free_ok X G (c.fact 80 (f := .free "tuple") rfl),
    He.free_ok X G (c.fact 81 (f := .free "set") rfl),
    He.free_ok X G (c.fact 82 (f := .free "sorted") rfl),
    He.free_ok X G (c.fact 83 (f := .free "sum") rfl),
    He.free_ok X G (c.fact 84 (f := .free "all") rfl),
    He.free_ok X G (c.fact 85 (f := .free "any") rfl),
    He.free_ok X G (c.fact 86 (f := .free "zip") rfl),
    He.free_ok X G (c.fact 87 (f := .free "abs") rfl),
    He.str_ok X G (c.fact 88 (f := .str "PLACE" "place") rfl),
    He.str_ok X G (c.fact 89 (f := .str "SET" "set") rfl),
    He.str_ok X G (c.fact 90 (f := .str "TREE" "tree") rfl),
    He.str_ok X G (c.fact 91 (f := .str "OPEN" "open") rfl),
    He.str_ok X G (c.fact 92 (f := .str "RING" "ring") rfl),
    He.str_ok X G (c.fact 93 (f := .str "HUE" "hue") rfl),
    He.str_ok X G (c.fact 94 (f := .str "DROP" "drop") rfl),
    He.str_ok X G (c.fact 95 (f := .str "MOVE" "move") rfl),
    He.str_ok X G (c.fact 96 (f := .str "HUEING" "hueing") rfl),
    He.str_ok X G (c.fact 97 (f := .str "NONE" "none") rfl)⟩
  TSearch := ⟨He.cls_ok (c.fact 99 (f := .cls "Search") rfl), He.noat_ok (c.fact 101 (f := .noat "Search" "near") rfl), He.noat_ok (c.fact 102 (f := .noat "Search" "below") rfl)⟩
  TLists := ⟨He.cls_ok (c.fact 108 (f := .cls "Lists") rfl), He.noat_ok (c.fact 110 (f := .noat "Lists" "beside") rfl), He.noat_ok (c.fact 111 (f := .noat "Lists" "own_lists") rfl)⟩
  TB := TB
  l_is_number := by
    obtain ⟨fd, F⟩ := c.def_ 0 rfl
    exact ⟨⟨_, fd, He.glo_ok X G (c.fact 0 (f := .glo "is_number") rfl), fun_of F⟩⟩
  l_look_place := by
    obtain ⟨fd, F⟩ := c.def_ 1 rfl
    exact ⟨⟨_, fd, He.glo_ok X G (c.fact 1 (f := .glo "look_place") rfl), fun_of F⟩⟩
  l_look_tie := by
    obtain ⟨fd, F⟩ := c.def_ 2 rfl
    exact ⟨⟨_, fd, He.glo_ok X G (c.fact 2 (f := .glo "look_tie") rfl), fun_of F⟩⟩
  l_ties_at := by
    obtain ⟨fd, F⟩ := c.def_ 4 rfl
    exact ⟨⟨_, fd, He.glo_ok X G (c.fact 4 (f := .glo "ties_at") rfl), fun_of F⟩⟩
  l_count_at := by
    obtain ⟨fd, F⟩ := c.def_ 5 rfl
    exact ⟨⟨_, fd, He.glo_ok X G (c.fact 5 (f := .glo "count_at") rfl), fun_of F⟩⟩
  l_ties_by_place := by
    obtain ⟨fd, F⟩ := c.def_ 3 rfl
    exact ⟨⟨_, fd, He.glo_ok X G (c.fact 3 (f := .glo "ties_by_place") rfl), fun_of F⟩⟩
  l_most_at := by
    obtain ⟨fd, F⟩ := c.def_ 6 rfl
    exact ⟨⟨_, fd, He.glo_ok X G (c.fact 6 (f := .glo "most_at") rfl), fun_of F⟩⟩
  l_far_end := by
    obtain ⟨fd, F⟩ := c.def_ 7 rfl
    exact ⟨⟨_, fd, He.glo_ok X G (c.fact 7 (f := .glo "far_end") rfl), fun_of F⟩⟩
  l_only := by
    obtain ⟨fd, F⟩ := c.def_ 10 rfl
    exact ⟨⟨_, fd, He.glo_ok X G (c.fact 10 (f := .glo "only") rfl), fun_of F⟩⟩
  l_within := by
    obtain ⟨fd, F⟩ := c.def_ 11 rfl
    exact ⟨⟨_, fd, He.glo_ok X G (c.fact 11 (f := .glo "within") rfl), fun_of F⟩⟩
  l_is_hue := by
    obtain ⟨fd, F⟩ := c.def_ 12 rfl
    exact ⟨⟨_, fd, He.glo_ok X G (c.fact 12 (f := .glo "is_hue") rfl), fun_of F⟩⟩
  l_clash_of := by
    obtain ⟨fd, F⟩ := c.def_ 13 rfl
    exact ⟨⟨_, fd, He.glo_ok X G (c.fact 13 (f := .glo "clash_of") rfl), fun_of F⟩⟩
  l_is_hueing := by
    obtain ⟨fd, F⟩ := c.def_ 14 rfl
    exact ⟨⟨_, fd, He.glo_ok X G (c.fact 14 (f := .glo "is_hueing") rfl), fun_of F⟩⟩
  l_is_whole := by
    obtain ⟨fd, F⟩ := c.def_ 15 rfl
    exact ⟨⟨_, fd, He.glo_ok X G (c.fact 15 (f := .glo "is_whole") rfl), fun_of F⟩⟩
  l_is_place_of := by
    obtain ⟨fd, F⟩ := c.def_ 17 rfl
    exact ⟨⟨_, fd, He.glo_ok X G (c.fact 17 (f := .glo "is_place_of") rfl), fun_of F⟩⟩
  l_is_odd_set := by
    obtain ⟨fd, F⟩ := c.def_ 18 rfl
    exact ⟨⟨_, fd, He.glo_ok X G (c.fact 18 (f := .glo "is_odd_set") rfl), fun_of F⟩⟩
  l_is_full_set := by
    obtain ⟨fd, F⟩ := c.def_ 19 rfl
    exact ⟨⟨_, fd, He.glo_ok X G (c.fact 19 (f := .glo "is_full_set") rfl), fun_of F⟩⟩
  l_hues_to_try := by
    obtain ⟨fd, F⟩ := c.def_ 20 rfl
    exact ⟨⟨_, fd, He.glo_ok X G (c.fact 20 (f := .glo "hues_to_try") rfl), fun_of F⟩⟩
  l_is_new_tie := by
    obtain ⟨fd, F⟩ := c.def_ 21 rfl
    exact ⟨⟨_, fd, He.glo_ok X G (c.fact 21 (f := .glo "is_new_tie") rfl), fun_of F⟩⟩
  l_is_tree_behind := by
    obtain ⟨fd, F⟩ := c.def_ 22 rfl
    exact ⟨⟨_, fd, He.glo_ok X G (c.fact 22 (f := .glo "is_tree_behind") rfl), fun_of F⟩⟩
  l_shows_fewer := by
    obtain ⟨fd, F⟩ := c.def_ 23 rfl
    exact ⟨⟨_, fd, He.glo_ok X G (c.fact 23 (f := .glo "shows_fewer") rfl), fun_of F⟩⟩
  l_shows_fewest := by
    obtain ⟨fd, F⟩ := c.def_ 24 rfl
    exact ⟨⟨_, fd, He.glo_ok X G (c.fact 24 (f := .glo "shows_fewest") rfl), fun_of F⟩⟩
  l_classes := by
    obtain ⟨fd, F⟩ := c.def_ 16 rfl
    exact ⟨⟨_, fd, He.glo_ok X G (c.fact 16 (f := .glo "classes") rfl), fun_of F⟩⟩
  l_sizes := by
    obtain ⟨fd, F⟩ := c.def_ 41 rfl
    exact ⟨⟨_, fd, He.glo_ok X G (c.fact 41 (f := .glo "sizes") rfl), fun_of F⟩⟩
  l_tie_of := by
    obtain ⟨fd, F⟩ := c.def_ 25 rfl
    exact ⟨⟨_, fd, He.glo_ok X G (c.fact 25 (f := .glo "tie_of") rfl), fun_of F⟩⟩
  l_look_hues := by
    obtain ⟨fd, F⟩ := c.def_ 26 rfl
    exact ⟨⟨_, fd, He.glo_ok X G (c.fact 26 (f := .glo "look_hues") rfl), fun_of F⟩⟩
  l_look_so := by
    obtain ⟨fd, F⟩ := c.def_ 34 rfl
    exact ⟨⟨_, fd, He.glo_ok X G (c.fact 34 (f := .glo "look_so") rfl), fun_of F⟩⟩
  l_other_of := by
    obtain ⟨fd, F⟩ := c.def_ 32 rfl
    exact ⟨⟨_, fd, He.glo_ok X G (c.fact 32 (f := .glo "other_of") rfl), fun_of F⟩⟩
  l_neighbours := by
    obtain ⟨fd, F⟩ := c.def_ 28 rfl
    exact ⟨⟨_, fd, He.glo_ok X G (c.fact 28 (f := .glo "neighbours") rfl), fun_of F⟩⟩
  l_word_of := by
    obtain ⟨fd, F⟩ := c.def_ 30 rfl
    exact ⟨⟨_, fd, He.glo_ok X G (c.fact 30 (f := .glo "word_of") rfl), fun_of F⟩⟩
  l_exchanged := by
    obtain ⟨fd, F⟩ := c.def_ 33 rfl
    exact ⟨⟨_, fd, He.glo_ok X G (c.fact 33 (f := .glo "exchanged") rfl), fun_of F⟩⟩
  l_row_with := by
    obtain ⟨fd, F⟩ := c.def_ 29 rfl
    exact ⟨⟨_, fd, He.glo_ok X G (c.fact 29 (f := .glo "row_with") rfl), fun_of F⟩⟩
  l_part_from := by
    obtain ⟨fd, F⟩ := c.def_ 8 rfl
    exact ⟨⟨_, fd, He.glo_ok X G (c.fact 8 (f := .glo "part_from") rfl), fun_of F⟩⟩
  l_parts := by
    obtain ⟨fd, F⟩ := c.def_ 9 rfl
    exact ⟨⟨_, fd, He.glo_ok X G (c.fact 9 (f := .glo "parts") rfl), fun_of F⟩⟩
  l_rows_of := by
    obtain ⟨fd, F⟩ := c.def_ 31 rfl
    exact ⟨⟨_, fd, He.glo_ok X G (c.fact 31 (f := .glo "rows_of") rfl), fun_of F⟩⟩
  l_end_of_hue := by
    obtain ⟨fd, F⟩ := c.def_ 42 rfl
    exact ⟨⟨_, fd, He.glo_ok X G (c.fact 42 (f := .glo "end_of_hue") rfl), fun_of F⟩⟩
  l_step_between := by
    obtain ⟨fd, F⟩ := c.def_ 43 rfl
    exact ⟨⟨_, fd, He.glo_ok X G (c.fact 43 (f := .glo "step_between") rfl), fun_of F⟩⟩
  l_row_from := by
    obtain ⟨fd, F⟩ := c.def_ 27 rfl
    exact ⟨⟨_, fd, He.glo_ok X G (c.fact 27 (f := .glo "row_from") rfl), fun_of F⟩⟩
  l_with_hue := by
    obtain ⟨fd, F⟩ := c.def_ 35 rfl
    exact ⟨⟨_, fd, He.glo_ok X G (c.fact 35 (f := .glo "with_hue") rfl), fun_of F⟩⟩
  l_dropped := by
    obtain ⟨fd, F⟩ := c.def_ 36 rfl
    exact ⟨⟨_, fd, He.glo_ok X G (c.fact 36 (f := .glo "dropped") rfl), fun_of F⟩⟩
  l_moved := by
    obtain ⟨fd, F⟩ := c.def_ 37 rfl
    exact ⟨⟨_, fd, He.glo_ok X G (c.fact 37 (f := .glo "moved") rfl), fun_of F⟩⟩
  l_row_turned := by
    obtain ⟨fd, F⟩ := c.def_ 38 rfl
    exact ⟨⟨_, fd, He.glo_ok X G (c.fact 38 (f := .glo "row_turned") rfl), fun_of F⟩⟩
  l_made_by := by
    obtain ⟨fd, F⟩ := c.def_ 39 rfl
    exact ⟨⟨_, fd, He.glo_ok X G (c.fact 39 (f := .glo "made_by") rfl), fun_of F⟩⟩
  l_done_step := by
    obtain ⟨fd, F⟩ := c.def_ 40 rfl
    exact ⟨⟨_, fd, He.glo_ok X G (c.fact 40 (f := .glo "done_step") rfl), fun_of F⟩⟩
  l_evened := by
    obtain ⟨fd, F⟩ := c.def_ 44 rfl
    exact ⟨⟨_, fd, He.glo_ok X G (c.fact 44 (f := .glo "evened") rfl), fun_of F⟩⟩
  l_ties_near := by
    obtain ⟨fd, F⟩ := c.def_ 45 rfl
    exact ⟨⟨_, fd, He.glo_ok X G (c.fact 45 (f := .glo "ties_near") rfl), fun_of F⟩⟩
  m_free_hues := by
    obtain ⟨fd, F⟩ := c.def_ 47 rfl
    exact ⟨⟨_, fd, He.meth_ok (c.fact 103 (f := .meth "Search" "free_hues") rfl), fun_of F⟩⟩
  m_open_hues := by
    obtain ⟨fd, F⟩ := c.def_ 48 rfl
    exact ⟨⟨_, fd, He.meth_ok (c.fact 104 (f := .meth "Search" "open_hues") rfl), fun_of F⟩⟩
  m_narrowest := by
    obtain ⟨fd, F⟩ := c.def_ 49 rfl
    exact ⟨⟨_, fd, He.meth_ok (c.fact 105 (f := .meth "Search" "narrowest") rfl), fun_of F⟩⟩
  m_goes_on := by
    obtain ⟨fd, F⟩ := c.def_ 50 rfl
    exact ⟨⟨_, fd, He.meth_ok (c.fact 106 (f := .meth "Search" "goes_on") rfl), fun_of F⟩⟩
  i_Search := by
    obtain ⟨fd, F⟩ := c.def_ 46 rfl
    exact ⟨⟨_, fd, He.glo_ok X G (c.fact 98 (f := .glo "Search") rfl), He.mkr_ok (c.fact 100 (f := .mkr "Search") rfl), fun_of F⟩⟩
  l_paper_by_place := by
    obtain ⟨fd, F⟩ := c.def_ 53 rfl
    exact ⟨⟨_, fd, He.glo_ok X G (c.fact 48 (f := .glo "paper_by_place") rfl), fun_of F⟩⟩
  l_full_set := by
    obtain ⟨fd, F⟩ := c.def_ 51 rfl
    exact ⟨⟨_, fd, He.glo_ok X G (c.fact 46 (f := .glo "full_set") rfl), fun_of F⟩⟩
  l_paper_by_set := by
    obtain ⟨fd, F⟩ := c.def_ 52 rfl
    exact ⟨⟨_, fd, He.glo_ok X G (c.fact 47 (f := .glo "paper_by_set") rfl), fun_of F⟩⟩
  l_fewest := by
    obtain ⟨fd, F⟩ := c.def_ 54 rfl
    exact ⟨⟨_, fd, He.glo_ok X G (c.fact 49 (f := .glo "fewest") rfl), fun_of F⟩⟩
  l_ties_beside := by
    obtain ⟨fd, F⟩ := c.def_ 55 rfl
    exact ⟨⟨_, fd, He.glo_ok X G (c.fact 50 (f := .glo "ties_beside") rfl), fun_of F⟩⟩
  m_left_for := by
    obtain ⟨fd, F⟩ := c.def_ 57 rfl
    exact ⟨⟨_, fd, He.meth_ok (c.fact 112 (f := .meth "Lists" "left_for") rfl), fun_of F⟩⟩
  m_next := by
    obtain ⟨fd, F⟩ := c.def_ 58 rfl
    exact ⟨⟨_, fd, He.meth_ok (c.fact 113 (f := .meth "Lists" "next_tie") rfl), fun_of F, rfl⟩⟩
  m_whole_from := by
    obtain ⟨fd, F⟩ := c.def_ 59 rfl
    exact ⟨⟨_, fd, He.meth_ok (c.fact 114 (f := .meth "Lists" "whole_from") rfl), fun_of F⟩⟩
  i_Lists := by
    obtain ⟨fd, F⟩ := c.def_ 56 rfl
    exact ⟨⟨_, fd, He.glo_ok X G (c.fact 107 (f := .glo "Lists") rfl), He.mkr_ok (c.fact 109 (f := .mkr "Lists") rfl), fun_of F⟩⟩
  l_lists_for := by
    obtain ⟨fd, F⟩ := c.def_ 61 rfl
    exact ⟨⟨_, fd, He.glo_ok X G (c.fact 52 (f := .glo "lists_for") rfl), fun_of F⟩⟩
  l_from_lists := by
    obtain ⟨fd, F⟩ := c.def_ 60 rfl
    exact ⟨⟨_, fd, He.glo_ok X G (c.fact 51 (f := .glo "from_lists") rfl), fun_of F⟩⟩
  l_filled := by
    obtain ⟨fd, F⟩ := c.def_ 62 rfl
    exact ⟨⟨_, fd, He.glo_ok X G (c.fact 53 (f := .glo "filled") rfl), fun_of F⟩⟩
  l_hues_left := by
    obtain ⟨fd, F⟩ := c.def_ 63 rfl
    exact ⟨⟨_, fd, He.glo_ok X G (c.fact 54 (f := .glo "hues_left") rfl), fun_of F⟩⟩
  l_is_bare := by
    obtain ⟨fd, F⟩ := c.def_ 64 rfl
    exact ⟨⟨_, fd, He.glo_ok X G (c.fact 55 (f := .glo "is_bare") rfl), fun_of F⟩⟩
  l_ends_all := by
    obtain ⟨fd, F⟩ := c.def_ 65 rfl
    exact ⟨⟨_, fd, He.glo_ok X G (c.fact 56 (f := .glo "ends_all") rfl), fun_of F⟩⟩
  l_shows_lists := by
    obtain ⟨fd, F⟩ := c.def_ 66 rfl
    exact ⟨⟨_, fd, He.glo_ok X G (c.fact 57 (f := .glo "shows_lists") rfl), fun_of F⟩⟩
  l_shows_filled := by
    obtain ⟨fd, F⟩ := c.def_ 67 rfl
    exact ⟨⟨_, fd, He.glo_ok X G (c.fact 58 (f := .glo "shows_filled") rfl), fun_of F⟩⟩
  l__law_tape := by
    obtain ⟨fd, F⟩ := c.def_ 68 rfl
    exact ⟨⟨_, fd, He.glo_ok X G (c.fact 59 (f := .glo "_law_tape") rfl), fun_of F⟩⟩
  l__law_draw := by
    obtain ⟨fd, F⟩ := c.def_ 69 rfl
    exact ⟨⟨_, fd, He.glo_ok X G (c.fact 60 (f := .glo "_law_draw") rfl), fun_of F⟩⟩
  l__law_pairs_by := by
    obtain ⟨fd, F⟩ := c.def_ 70 rfl
    exact ⟨⟨_, fd, He.glo_ok X G (c.fact 61 (f := .glo "_law_pairs_by") rfl), fun_of F⟩⟩
  l__law_web := by
    obtain ⟨fd, F⟩ := c.def_ 71 rfl
    exact ⟨⟨_, fd, He.glo_ok X G (c.fact 62 (f := .glo "_law_web") rfl), fun_of F⟩⟩
  l__law_small := by
    obtain ⟨fd, F⟩ := c.def_ 72 rfl
    exact ⟨⟨_, fd, He.glo_ok X G (c.fact 63 (f := .glo "_law_small") rfl), fun_of F⟩⟩
  l__law_ten := by
    obtain ⟨fd, F⟩ := c.def_ 73 rfl
    exact ⟨⟨_, fd, He.glo_ok X G (c.fact 64 (f := .glo "_law_ten") rfl), fun_of F⟩⟩
  l__law_turned := by
    obtain ⟨fd, F⟩ := c.def_ 74 rfl
    exact ⟨⟨_, fd, He.glo_ok X G (c.fact 65 (f := .glo "_law_turned") rfl), fun_of F⟩⟩
  l__law_any := by
    obtain ⟨fd, F⟩ := c.def_ 75 rfl
    exact ⟨⟨_, fd, He.glo_ok X G (c.fact 66 (f := .glo "_law_any") rfl), fun_of F⟩⟩
  l__law_paper_right := by
    obtain ⟨fd, F⟩ := c.def_ 76 rfl
    exact ⟨⟨_, fd, He.glo_ok X G (c.fact 67 (f := .glo "_law_paper_right") rfl), fun_of F⟩⟩
  l__law_filled_right := by
    obtain ⟨fd, F⟩ := c.def_ 77 rfl
    exact ⟨⟨_, fd, He.glo_ok X G (c.fact 68 (f := .glo "_law_filled_right") rfl), fun_of F⟩⟩
  l__law_some_right := by
    obtain ⟨fd, F⟩ := c.def_ 78 rfl
    exact ⟨⟨_, fd, He.glo_ok X G (c.fact 69 (f := .glo "_law_some_right") rfl), fun_of F⟩⟩
theorem law_at {w : World} {K : PySem.W.Frag} {h : Heap} {mg : Str → Option Value} {a : Addr} (X : K.In h) (G : h.Ns mainGlobals mg) (hfa : mg ("law" : Str) = some (.ref a)) (c : He.SaysX fa fn [] tf (fun _ => true) w h K) :
    LamX.LawAtS PySem.Challenge.rw_huedties_k89_whole_papers_of_few_hues w K CX0 26 63 "_law_script" mg a h := by
  have cd : He.SaysD fa fn K := congrArg (fun z : He.AlT => z.1) c.t
  obtain ⟨fd, F0⟩ := cd.def_ 79 rfl
  have F : Fun K "law" "law" S_law (He.fAd K ("law", none)) fd := fun_of F0
  have e : (He.ga K "law" : Addr) = a := by
    have := hfa.symm.trans (He.glo_ok X G (cd.fact 70 (f := .glo "law") rfl))
    cases this
    rfl
  have ea : He.fAd K ("law", none) = a := e
  rw [ea] at F
  refine ⟨fd, [He.cT K ("Lists", some "next_tie")], toSp K q_law, fun p hp => ?_, fun p hp => ?_, fun p hp => ?_, fun s u => ?_, fun H b ns hn _ hT hS => ?_, fun base KB GB hTB => ?_⟩
  · exact c.empty ("Lists", some "next_tie") (List.mem_singleton.mpr rfl) |> fun z => by rw [List.mem_singleton.mp hp]; exact z
  · rw [List.mem_singleton.mp hp]; exact c.out _ (List.mem_singleton.mpr rfl)
  · rw [List.mem_singleton.mp hp]; exact PySem.W.codeHd_of_K X (c.hd _ (List.mem_singleton.mpr rfl))
  · have b := FunD.bindsA (ps := ["_law_script"]) F0 fun _ _ _ _ _ _ us hl => match us, hl with | [_], _ => rfl
    exact b s [u] rfl
  · refine ⟨fun _ => False, fun _ => False, [.scr ns], fun d => d = .bl true, fun _ z => z.elim, fun _ z => z.elim, LamX.TabS.nil (hT _ (List.mem_singleton.mpr rfl)), .one (.scr ?_), ⟨ns, rfl, by omega, rfl⟩, fun v H' d ed _ q => ?_⟩
    · rcases hS with z | z
      · exact .inl ⟨z, fun z => z⟩
      · exact .inr fun H2 => .inr z
    · subst ed
      cases q
      rfl
  · exact law_all (fx_of KB GB cd (hTB _ (List.mem_singleton.mpr rfl))) F
end HD
set_option Elab.async false
set_option linter.all false
set_option maxRecDepth 100000
set_option maxHeartbeats 0
open PySem PySem.W PySem.Calls PyProof.Rows
theorem PySem.Challenge.cw_huedties_k89_whole_papers_of_few_hues_holds : PySem.Challenge.rw_huedties_k89_whole_papers_of_few_hues.Holds := by
  w_on; o_law
  refine HandSHeadRun.head_any (r := OpenLaw.row PySem.Challenge.rw_huedties_k89_whole_papers_of_few_hues) (q := view (OpenLaw.row PySem.Challenge.rw_huedties_k89_whole_papers_of_few_hues).prog [101]) (H := HD.hk) (ob := HD.ob) (M := 6000) (loose := HD.loose) (d := HandSHeadRun.topDef (OpenLaw.row PySem.Challenge.rw_huedties_k89_whole_papers_of_few_hues).prog 101) (kwd := []) HD.ob_eq
    (by kernel_rfl) (fun s => by kernel_rfl) HD.run (by kernel_rfl) (by kernel_rfl) (by kernel_rfl) (by rfl) (by first | assumption | decide +kernel) (by decide +kernel) ⟨rfl, rfl, rfl, rfl, rfl, by decide +kernel⟩ ?hw ?hc
  case hw => w_witness2
  case hc =>
    refine LamX.walk_ofTsE (l := PySem.Challenge.rw_huedties_k89_whole_papers_of_few_hues) (n := 63) (k := 26) (x := "_law_script") (CX := fun _ => L2.CX0) rfl (by decide) (by kernel_rfl) ⟨rfl, by decide, by decide⟩ ?F (fun _ _ _ _ _ z => z)
    intro w mg fa h Y G hmg0
    obtain ⟨K, KX, c⟩ := Y
    have hmg : mg ("law" : PySem.Str) = some (.ref fa) := by
      have e : (HandSHeadRun.topDef (OpenLaw.row PySem.Challenge.rw_huedties_k89_whole_papers_of_few_hues).prog 101).name = ("law" : PySem.Str) := by kernel_rfl
      rw [← e]
      exact hmg0
    exact ⟨K, KX, HD.law_at KX G hmg c⟩
