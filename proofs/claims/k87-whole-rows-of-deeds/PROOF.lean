import PyProof.Rows.All
import Wide.All
import OpenK.AllK
import Wide.FinOn
import HandS.Codes
import PySem.Challenge.RW_endsum_k87_whole_rows_of_deeds
import KE.KStateDown
import HandS.Defaults
import HandS.Head0
import HandS.Head1
import HandS.Head2
import HandS.HeadEnd
import HandS.HeadHook1
import HandS.HeadHook2
import HandS.HeadHook3
import HandS.HeadHook4
import HandS.ForMost
import HandS.ForExc
import KE.DatumMoreOrd
import KE.DatumIndex
import KE.SortData
import HandS.TupAny
import HandS.Deep
import HandS.Style
import KE.DatumOrd
import HandS.IsInst
import HandS.Zip
import HandS.OwnEq
import HandS.SetFor
import HandS.Strs
import HandS.Text
import KE.GoesMore
import HandS.Conv
import HandS.WordsExc
import HandS.Nested
import HandS.ExcIs
import HandS.NestedK
import HandS.HeadWalk
import HandS.EndTab
set_option Elab.async false
set_option linter.all false
set_option maxRecDepth 100000
set_option maxHeartbeats 0
namespace R87
open PySem PySem.Spec PyProof.Rows L2
def top (i : Nat) : Stmt := PySem.Challenge.pw_endsum_k87_whole_rows_of_deeds.main.body.getD i (.Pass ⟨0, 0, 0, 0⟩)
abbrev s_is_whole_stocks : Stmt := top 12
abbrev s_is_name : Stmt := top 14
abbrev s_is_sort_row : Stmt := top 15
abbrev s_are_sorts : Stmt := top 16
abbrev s_is_kind_row : Stmt := top 17
abbrev s_are_kinds : Stmt := top 18
abbrev s_Stock_init : Stmt := inClass (top 19) 0
abbrev s_Stock_eq : Stmt := inClass (top 19) 1
abbrev s_is_sort : Stmt := top 20
abbrev s_is_kind : Stmt := top 21
abbrev s_partner_of : Stmt := top 22
abbrev s_ends_of : Stmt := top 23
abbrev s_are_corners : Stmt := top 26
abbrev s_is_leg : Stmt := top 27
abbrev s_are_legs : Stmt := top 28
abbrev s_sure_corners : Stmt := top 29
abbrev s_ends_there : Stmt := top 30
abbrev s_is_join : Stmt := top 31
abbrev s_are_joins : Stmt := top 32
abbrev s_Drawing_init : Stmt := inClass (top 33) 0
abbrev s_Drawing_eq : Stmt := inClass (top 33) 1
abbrev s_joined : Stmt := top 34
abbrev s_moved_joins : Stmt := top 35
abbrev s_places_by : Stmt := top 36
abbrev s_renamed : Stmt := top 37
abbrev s_beside : Stmt := top 38
abbrev s_marks_by : Stmt := top 40
abbrev s_all_marks : Stmt := top 41
abbrev s_part_of : Stmt := top 42
abbrev s_parts : Stmt := top 43
abbrev s_is_whole_parts : Stmt := top 44
abbrev s_inner_joins : Stmt := top 46
abbrev s_without : Stmt := top 47
abbrev s_cuts : Stmt := top 48
abbrev s_is_free : Stmt := top 49
abbrev s_pieces : Stmt := top 50
abbrev s_are_names : Stmt := top 51
abbrev s_with_legs : Stmt := top 52
abbrev s_named_joins : Stmt := top 53
abbrev s_cut : Stmt := top 54
abbrev s_far_end : Stmt := top 55
abbrev s_join_legs : Stmt := top 56
abbrev s_law_source_of : Stmt := top 58
abbrev s_law_next : Stmt := top 59
abbrev s_law_one : Stmt := top 60
abbrev s_law_names : Stmt := top 61
abbrev s_law_stock : Stmt := top 62
abbrev s_law_ends : Stmt := top 63
abbrev s_law_lacking : Stmt := top 64
abbrev s_law_mixed : Stmt := top 65
abbrev s_law_paired : Stmt := top 66
abbrev s_law_drawing : Stmt := top 67
abbrev s_law_both : Stmt := top 68
abbrev s_law_moved : Stmt := top 69
abbrev s_law_groups : Stmt := top 70
abbrev s_law_inner : Stmt := top 71
abbrev s_law_less : Stmt := top 72
abbrev s_law_cuts : Stmt := top 73
abbrev s_law_pieces : Stmt := top 74
abbrev s_law_of : Stmt := top 75
abbrev s_law_made : Stmt := top 76
abbrev s_law_parts : Stmt := top 77
abbrev s_law_cut_of : Stmt := top 78
abbrev s_law_end_at : Stmt := top 79
abbrev s_law_sewn : Stmt := top 80
abbrev s_law_fresh : Stmt := top 81
abbrev s_law_sewn_or_not : Stmt := top 82
abbrev s_law_done : Stmt := top 83
abbrev s_law_told : Stmt := top 84
abbrev s_law_right : Stmt := top 85
abbrev s_law : Stmt := top 86
end R87
namespace R87H
open PySem PySem.Spec PyProof.Rows L2 R87
def d_is_whole_stocks : He.DefD := ⟨("is_whole_stocks", none), "is_whole", "is_whole", defArgs s_is_whole_stocks, defBody s_is_whole_stocks, defScope s_is_whole_stocks, [], []⟩
def d_is_name : He.DefD := ⟨("is_name", none), "is_name", "is_name", defArgs s_is_name, defBody s_is_name, defScope s_is_name, [], []⟩
def d_is_sort_row : He.DefD := ⟨("is_sort_row", none), "is_sort_row", "is_sort_row", defArgs s_is_sort_row, defBody s_is_sort_row, defScope s_is_sort_row, [], []⟩
def d_are_sorts : He.DefD := ⟨("are_sorts", none), "are_sorts", "are_sorts", defArgs s_are_sorts, defBody s_are_sorts, defScope s_are_sorts, [], []⟩
def d_is_kind_row : He.DefD := ⟨("is_kind_row", none), "is_kind_row", "is_kind_row", defArgs s_is_kind_row, defBody s_is_kind_row, defScope s_is_kind_row, [], []⟩
def d_are_kinds : He.DefD := ⟨("are_kinds", none), "are_kinds", "are_kinds", defArgs s_are_kinds, defBody s_are_kinds, defScope s_are_kinds, [], []⟩
def d_Stock_init : He.DefD := ⟨("Stock", some "__init__"), "__init__", "Stock.__init__", defArgs s_Stock_init, defBody s_Stock_init, defScope s_Stock_init, [], []⟩
def d_Stock_eq : He.DefD := ⟨("Stock", some "__eq__"), "__eq__", "Stock.__eq__", defArgs s_Stock_eq, defBody s_Stock_eq, defScope s_Stock_eq, [], []⟩
def d_is_sort : He.DefD := ⟨("is_sort", none), "is_sort", "is_sort", defArgs s_is_sort, defBody s_is_sort, defScope s_is_sort, [], []⟩
def d_is_kind : He.DefD := ⟨("is_kind", none), "is_kind", "is_kind", defArgs s_is_kind, defBody s_is_kind, defScope s_is_kind, [], []⟩
def d_partner_of : He.DefD := ⟨("partner_of", none), "partner_of", "partner_of", defArgs s_partner_of, defBody s_partner_of, defScope s_partner_of, [], []⟩
def d_ends_of : He.DefD := ⟨("ends_of", none), "ends_of", "ends_of", defArgs s_ends_of, defBody s_ends_of, defScope s_ends_of, [], []⟩
def d_are_corners : He.DefD := ⟨("are_corners", none), "are_corners", "are_corners", defArgs s_are_corners, defBody s_are_corners, defScope s_are_corners, [], []⟩
def d_is_leg : He.DefD := ⟨("is_leg", none), "is_leg", "is_leg", defArgs s_is_leg, defBody s_is_leg, defScope s_is_leg, [], []⟩
def d_are_legs : He.DefD := ⟨("are_legs", none), "are_legs", "are_legs", defArgs s_are_legs, defBody s_are_legs, defScope s_are_legs, [], []⟩
def d_sure_corners : He.DefD := ⟨("sure_corners", none), "sure_corners", "sure_corners", defArgs s_sure_corners, defBody s_sure_corners, defScope s_sure_corners, [], []⟩
def d_ends_there : He.DefD := ⟨("ends_there", none), "ends_there", "ends_there", defArgs s_ends_there, defBody s_ends_there, defScope s_ends_there, [], []⟩
def d_is_join : He.DefD := ⟨("is_join", none), "is_join", "is_join", defArgs s_is_join, defBody s_is_join, defScope s_is_join, [], []⟩
def d_are_joins : He.DefD := ⟨("are_joins", none), "are_joins", "are_joins", defArgs s_are_joins, defBody s_are_joins, defScope s_are_joins, [], []⟩
def d_Drawing_init : He.DefD := ⟨("Drawing", some "__init__"), "__init__", "Drawing.__init__", defArgs s_Drawing_init, defBody s_Drawing_init, defScope s_Drawing_init, [], []⟩
def d_Drawing_eq : He.DefD := ⟨("Drawing", some "__eq__"), "__eq__", "Drawing.__eq__", defArgs s_Drawing_eq, defBody s_Drawing_eq, defScope s_Drawing_eq, [], []⟩
def d_joined : He.DefD := ⟨("joined", none), "joined", "joined", defArgs s_joined, defBody s_joined, defScope s_joined, [], []⟩
def d_moved_joins : He.DefD := ⟨("moved_joins", none), "moved_joins", "moved_joins", defArgs s_moved_joins, defBody s_moved_joins, defScope s_moved_joins, [], []⟩
def d_places_by : He.DefD := ⟨("places_by", none), "places_by", "places_by", defArgs s_places_by, defBody s_places_by, defScope s_places_by, [], []⟩
def d_renamed : He.DefD := ⟨("renamed", none), "renamed", "renamed", defArgs s_renamed, defBody s_renamed, defScope s_renamed, [], []⟩
def d_beside : He.DefD := ⟨("beside", none), "beside", "beside", defArgs s_beside, defBody s_beside, defScope s_beside, [], []⟩
def d_marks_by : He.DefD := ⟨("marks_by", none), "marks_by", "marks_by", defArgs s_marks_by, defBody s_marks_by, defScope s_marks_by, [], []⟩
def d_all_marks : He.DefD := ⟨("all_marks", none), "all_marks", "all_marks", defArgs s_all_marks, defBody s_all_marks, defScope s_all_marks, [], []⟩
def d_part_of : He.DefD := ⟨("part_of", none), "part_of", "part_of", defArgs s_part_of, defBody s_part_of, defScope s_part_of, [], []⟩
def d_parts : He.DefD := ⟨("parts", none), "parts", "parts", defArgs s_parts, defBody s_parts, defScope s_parts, [], []⟩
def d_is_whole_parts : He.DefD := ⟨("is_whole_parts", none), "is_whole", "is_whole", defArgs s_is_whole_parts, defBody s_is_whole_parts, defScope s_is_whole_parts, [], []⟩
def d_inner_joins : He.DefD := ⟨("inner_joins", none), "inner_joins", "inner_joins", defArgs s_inner_joins, defBody s_inner_joins, defScope s_inner_joins, [], []⟩
def d_without : He.DefD := ⟨("without", none), "without", "without", defArgs s_without, defBody s_without, defScope s_without, [], []⟩
def d_cuts : He.DefD := ⟨("cuts", none), "cuts", "cuts", defArgs s_cuts, defBody s_cuts, defScope s_cuts, [], []⟩
def d_is_free : He.DefD := ⟨("is_free", none), "is_free", "is_free", defArgs s_is_free, defBody s_is_free, defScope s_is_free, [], []⟩
def d_pieces : He.DefD := ⟨("pieces", none), "pieces", "pieces", defArgs s_pieces, defBody s_pieces, defScope s_pieces, [], []⟩
def d_are_names : He.DefD := ⟨("are_names", none), "are_names", "are_names", defArgs s_are_names, defBody s_are_names, defScope s_are_names, [], []⟩
def d_with_legs : He.DefD := ⟨("with_legs", none), "with_legs", "with_legs", defArgs s_with_legs, defBody s_with_legs, defScope s_with_legs, [], []⟩
def d_named_joins : He.DefD := ⟨("named_joins", none), "named_joins", "named_joins", defArgs s_named_joins, defBody s_named_joins, defScope s_named_joins, [], []⟩
def d_cut : He.DefD := ⟨("cut", none), "cut", "cut", defArgs s_cut, defBody s_cut, defScope s_cut, [], []⟩
def d_far_end : He.DefD := ⟨("far_end", none), "far_end", "far_end", defArgs s_far_end, defBody s_far_end, defScope s_far_end, [], []⟩
def d_join_legs : He.DefD := ⟨("join_legs", none), "join_legs", "join_legs", defArgs s_join_legs, defBody s_join_legs, defScope s_join_legs, [], []⟩
def d_law_source_of : He.DefD := ⟨("_law_source_of", none), "_law_source_of", "_law_source_of", defArgs s_law_source_of, defBody s_law_source_of, defScope s_law_source_of, [], []⟩
def d_law_next : He.DefD := ⟨("_law_next", none), "_law_next", "_law_next", defArgs s_law_next, defBody s_law_next, defScope s_law_next, [], []⟩
def d_law_one : He.DefD := ⟨("_law_one", none), "_law_one", "_law_one", defArgs s_law_one, defBody s_law_one, defScope s_law_one, [], []⟩
def d_law_names : He.DefD := ⟨("_law_names", none), "_law_names", "_law_names", defArgs s_law_names, defBody s_law_names, defScope s_law_names, [], []⟩
def d_law_stock : He.DefD := ⟨("_law_stock", none), "_law_stock", "_law_stock", defArgs s_law_stock, defBody s_law_stock, defScope s_law_stock, [], []⟩
def d_law_ends : He.DefD := ⟨("_law_ends", none), "_law_ends", "_law_ends", defArgs s_law_ends, defBody s_law_ends, defScope s_law_ends, [], []⟩
def d_law_lacking : He.DefD := ⟨("_law_lacking", none), "_law_lacking", "_law_lacking", defArgs s_law_lacking, defBody s_law_lacking, defScope s_law_lacking, [], []⟩
def d_law_mixed : He.DefD := ⟨("_law_mixed", none), "_law_mixed", "_law_mixed", defArgs s_law_mixed, defBody s_law_mixed, defScope s_law_mixed, [], []⟩
def d_law_paired : He.DefD := ⟨("_law_paired", none), "_law_paired", "_law_paired", defArgs s_law_paired, defBody s_law_paired, defScope s_law_paired, [], []⟩
def d_law_drawing : He.DefD := ⟨("_law_drawing", none), "_law_drawing", "_law_drawing", defArgs s_law_drawing, defBody s_law_drawing, defScope s_law_drawing, [], []⟩
def d_law_both : He.DefD := ⟨("_law_both", none), "_law_both", "_law_both", defArgs s_law_both, defBody s_law_both, defScope s_law_both, [], []⟩
def d_law_moved : He.DefD := ⟨("_law_moved", none), "_law_moved", "_law_moved", defArgs s_law_moved, defBody s_law_moved, defScope s_law_moved, [], []⟩
def d_law_groups : He.DefD := ⟨("_law_groups", none), "_law_groups", "_law_groups", defArgs s_law_groups, defBody s_law_groups, defScope s_law_groups, [], []⟩
def d_law_inner : He.DefD := ⟨("_law_inner", none), "_law_inner", "_law_inner", defArgs s_law_inner, defBody s_law_inner, defScope s_law_inner, [], []⟩
def d_law_less : He.DefD := ⟨("_law_less", none), "_law_less", "_law_less", defArgs s_law_less, defBody s_law_less, defScope s_law_less, [], []⟩
def d_law_cuts : He.DefD := ⟨("_law_cuts", none), "_law_cuts", "_law_cuts", defArgs s_law_cuts, defBody s_law_cuts, defScope s_law_cuts, [], []⟩
def d_law_pieces : He.DefD := ⟨("_law_pieces", none), "_law_pieces", "_law_pieces", defArgs s_law_pieces, defBody s_law_pieces, defScope s_law_pieces, [], []⟩
def d_law_of : He.DefD := ⟨("_law_of", none), "_law_of", "_law_of", defArgs s_law_of, defBody s_law_of, defScope s_law_of, [], []⟩
def d_law_made : He.DefD := ⟨("_law_made", none), "_law_made", "_law_made", defArgs s_law_made, defBody s_law_made, defScope s_law_made, [], []⟩
def d_law_parts : He.DefD := ⟨("_law_parts", none), "_law_parts", "_law_parts", defArgs s_law_parts, defBody s_law_parts, defScope s_law_parts, [], []⟩
def d_law_cut_of : He.DefD := ⟨("_law_cut_of", none), "_law_cut_of", "_law_cut_of", defArgs s_law_cut_of, defBody s_law_cut_of, defScope s_law_cut_of, [], []⟩
def d_law_end_at : He.DefD := ⟨("_law_end_at", none), "_law_end_at", "_law_end_at", defArgs s_law_end_at, defBody s_law_end_at, defScope s_law_end_at, [], []⟩
def d_law_sewn : He.DefD := ⟨("_law_sewn", none), "_law_sewn", "_law_sewn", defArgs s_law_sewn, defBody s_law_sewn, defScope s_law_sewn, [], []⟩
def d_law_fresh : He.DefD := ⟨("_law_fresh", none), "_law_fresh", "_law_fresh", defArgs s_law_fresh, defBody s_law_fresh, defScope s_law_fresh, [], []⟩
def d_law_sewn_or_not : He.DefD := ⟨("_law_sewn_or_not", none), "_law_sewn_or_not", "_law_sewn_or_not", defArgs s_law_sewn_or_not, defBody s_law_sewn_or_not, defScope s_law_sewn_or_not, [], []⟩
def d_law_done : He.DefD := ⟨("_law_done", none), "_law_done", "_law_done", defArgs s_law_done, defBody s_law_done, defScope s_law_done, [], []⟩
def d_law_told : He.DefD := ⟨("_law_told", none), "_law_told", "_law_told", defArgs s_law_told, defBody s_law_told, defScope s_law_told, [], []⟩
def d_law_right : He.DefD := ⟨("_law_right", none), "_law_right", "_law_right", defArgs s_law_right, defBody s_law_right, defScope s_law_right, [], []⟩
def d_law : He.DefD := ⟨("law", none), "law", "law", defArgs s_law, defBody s_law, defScope s_law, [], []⟩
def fn0 : List He.DefD := [d_is_whole_stocks, d_is_name, d_is_sort_row, d_are_sorts, d_is_kind_row, d_are_kinds, d_Stock_init, d_Stock_eq, d_is_sort, d_is_kind, d_partner_of, d_ends_of, d_are_corners, d_is_leg, d_are_legs, d_sure_corners, d_ends_there, d_is_join, d_are_joins, d_Drawing_init, d_Drawing_eq, d_joined, d_moved_joins, d_places_by, d_renamed, d_beside, d_marks_by, d_all_marks, d_part_of, d_parts]
def fn1 : List He.DefD := [d_is_whole_parts, d_inner_joins, d_without, d_cuts, d_is_free, d_pieces, d_are_names, d_with_legs, d_named_joins, d_cut, d_far_end, d_join_legs, d_law_source_of, d_law_next, d_law_one, d_law_names, d_law_stock, d_law_ends, d_law_lacking, d_law_mixed, d_law_paired, d_law_drawing, d_law_both, d_law_moved, d_law_groups, d_law_inner, d_law_less, d_law_cuts, d_law_pieces, d_law_of]
def fn2 : List He.DefD := [d_law_made, d_law_parts, d_law_cut_of, d_law_end_at, d_law_sewn, d_law_fresh, d_law_sewn_or_not, d_law_done, d_law_told, d_law_right, d_law]
def fn : List He.DefD := fn0 ++ fn1 ++ fn2
def fa0 : List He.Fa := [.free "len", .free "set", .free "sorted", .free "dict", .free "list", .free "tuple", .free "range", .free "min", .free "max", .free "all", .free "int", .free "isinstance", .free "enumerate", .free "zip", .free "str", .free "bool", .glo "is_whole_stocks", .glo "is_name", .glo "is_sort_row", .glo "are_sorts", .glo "is_kind_row", .glo "are_kinds", .glo "is_sort", .glo "is_kind", .glo "partner_of", .glo "ends_of", .glo "are_corners", .glo "is_leg", .glo "are_legs", .glo "sure_corners"]
def fa1 : List He.Fa := [.glo "ends_there", .glo "is_join", .glo "are_joins", .glo "joined", .glo "moved_joins", .glo "places_by", .glo "renamed", .glo "beside", .glo "marks_by", .glo "all_marks", .glo "part_of", .glo "parts", .glo "is_whole_parts", .glo "inner_joins", .glo "without", .glo "cuts", .glo "is_free", .glo "pieces", .glo "are_names", .glo "with_legs", .glo "named_joins", .glo "cut", .glo "far_end", .glo "join_legs", .glo "_law_source_of", .glo "_law_next", .glo "_law_one", .glo "_law_names", .glo "_law_stock", .glo "_law_ends"]
def fa2 : List He.Fa := [.glo "_law_lacking", .glo "_law_mixed", .glo "_law_paired", .glo "_law_drawing", .glo "_law_both", .glo "_law_moved", .glo "_law_groups", .glo "_law_inner", .glo "_law_less", .glo "_law_cuts", .glo "_law_pieces", .glo "_law_of", .glo "_law_made", .glo "_law_parts", .glo "_law_cut_of", .glo "_law_end_at", .glo "_law_sewn", .glo "_law_fresh", .glo "_law_sewn_or_not", .glo "_law_done", .glo "_law_told", .glo "_law_right", .glo "law", .glo "Stock", .cls "Stock", .mkr "Stock", .meth "Stock" "__eq__", .glo "Drawing", .cls "Drawing", .mkr "Drawing"]
def fa3 : List He.Fa := [.meth "Drawing" "__eq__", .noat "Stock" "sorts", .noat "Stock" "kinds", .noat "Drawing" "stock", .noat "Drawing" "corners", .noat "Drawing" "legs", .noat "Drawing" "joins", .glo "TooMany", .exm "TooMany" "EndError" true, .glo "NoJoin", .exm "NoJoin" "EndError" true, .glo "EndError", .int "MOST" 6, .str "LETTERS" "abcdefghijklmnopqrstuvwxyz", .exc "TooMany", .exc "NoJoin"]
def fa : List He.Fa := fa0 ++ fa1 ++ fa2 ++ fa3
def lo0 : List PySem.Str := ["__name__", "EndError", "NoStock", "NoDrawing", "NoRenaming", "NoMatch", "TooMany", "NoJoin", "NoName", "NoLeg", "LETTERS", "is_whole", "is_whole_stocks", "is_name", "is_sort_row", "are_sorts", "is_kind_row", "are_kinds", "Stock", "is_sort", "is_kind", "partner_of", "ends_of", "MOST", "are_corners", "is_leg", "are_legs", "sure_corners", "ends_there", "is_join"]
def lo1 : List PySem.Str := ["are_joins", "Drawing", "joined", "moved_joins", "places_by", "renamed", "beside", "marks_by", "all_marks", "part_of", "parts", "is_whole_parts", "inner_joins", "without", "cuts", "is_free", "pieces", "are_names", "with_legs", "named_joins", "cut", "far_end", "join_legs", "_law_source_of", "_law_next", "_law_one", "_law_names", "_law_stock", "_law_ends", "_law_lacking"]
def lo2 : List PySem.Str := ["_law_mixed", "_law_paired", "_law_drawing", "_law_both", "_law_moved", "_law_groups", "_law_inner", "_law_less", "_law_cuts", "_law_pieces", "_law_of", "_law_made", "_law_parts", "_law_cut_of", "_law_end_at", "_law_sewn", "_law_fresh", "_law_sewn_or_not", "_law_done", "_law_told", "_law_right"]
def loL : List PySem.Str := lo0 ++ lo1 ++ lo2
/-- isinstance of an own class; of an own exception -/
def clsB (K : PySem.W.Frag) (C : Addr) : Bool := He.eqO (PySem.W.findIn K (.ref C) "__class__") (some (some (.builtin "object.__class__"))) && (He.eqO (PySem.W.specialIn K (.builtin "object.__class__") "__get__") (some (some (.builtin "getset_descriptor.__get__"))) && (decide (PySem.W.takesIn K (.builtin "object.__class__") = some true) && decide (PySem.W.mroIn K C (.type "object") = some true)))
def excB (K : PySem.W.Frag) (C : Addr) : Bool := He.eqO (PySem.W.findIn K (.ref C) "__getattribute__") (some (some (.builtin "BaseException.__getattribute__"))) && (He.eqO (PySem.W.findIn K (.ref C) "__getattr__") (some none) && (decide (PySem.W.subIn K (.ref C) (.type "BaseException") = some true) && (PySem.W.hasDictIn K C && clsB K C)))
def kitB2 (K : PySem.W.Frag) (C : Addr) : Bool := decide (PySem.W.kitAny K (.ref C) [.ref (He.ga K "NoJoin"), .ref (He.ga K "TooMany")] = some true)
def exB (K : PySem.W.Frag) : Bool := clsB K (He.ga K "Stock") && (clsB K (He.ga K "Drawing") && (excB K (He.ga K "TooMany") && (excB K (He.ga K "NoJoin") && (kitB2 K (He.ga K "TooMany") && kitB2 K (He.ga K "NoJoin")))))
def tf : List He.Defn := [("_law_done", none)]
abbrev R : PySem.W.OpenRow := PySem.W.OpenLaw.row PySem.Challenge.rw_endsum_k87_whole_rows_of_deeds
abbrev hk : PySem.W.Hook := He.hookX 4 fa fn [] tf exB
def ob (s : PySem.W.SharedT) : He.AlX := He.obsX 4 fa fn [] tf exB (HandSHeadRun.getT s)
theorem ob_eq (s : PySem.W.SharedT) : ob s = hk.obs s.abs := He.obsX_eq (HandSHeadRun.getT_eq s)
/-- the run's looks in two -/
theorem join3 {A B C D : Type} {o : Option A} {f : A → B} {g : A → C} {k : A → D} {x : B} {y : C} {z : D} (h1 : o.map (fun s => (f s, g s)) = some (x, y)) (h3 : o.map k = some z) : o.map (fun s => (f s, g s, k s)) = some (x, y, z) := by
  cases o with
  | none => cases h1
  | some s =>
    have e1 : (f s, g s) = (x, y) := Option.some.inj h1
    have e3 : k s = z := Option.some.inj h3
    injection e1 with e1 e2
    show some (f s, g s, k s) = _
    rw [e1, e2, e3]
open PySem.W PySem.Calls HandSHeadRun PyProof.Rows in
theorem run_ab (w : World) (os : OsState) : (endF (stepQ (denQ tabQ) R.prog w) 12000 R.prog w os).map (fun s => (looksF R.prog (boot_heap w.params) s.abs, seenQ (PySem.W.view R.prog [86]) loL (importedModules R.prog.main.body) (fun s => xlAt (PySem.W.view R.prog [86]) [] s && recOk R.toRowW.records s) s.abs)) = some ((true, openGood (PySem.W.view R.prog [86]) loL)) := by kernel_rfl
open PySem.W PySem.Calls HandSHeadRun PyProof.Rows in
theorem run_c (w : World) (os : OsState) : (endF (stepQ (denQ tabQ) R.prog w) 12000 R.prog w os).map (fun s => ob s) = some (hk.val w) := by kernel_rfl
theorem run (w : World) : HandSHeadRun.RunEq R (PySem.W.view R.prog [86]) hk ob 12000 loL w :=
  fun os => join3 (run_ab w os) (run_c w os)
end R87H
namespace R87
open PySem PySem.Spec PyProof.Rows L2
/-- data: what a value stands for, deep -/
inductive D where
  | non | bl (b : Bool) | int (i : Int) | str (s : Str)
  | tup (ds : List D) | lst (ds : List D) | ins (C : Addr) (fs : List (Str × D)) | dic (kvs : List (L2.Key × D)) | tupF (ds : List D)
mutual
inductive Rp (G : Hp) : V → D → Prop
  | non : Rp G .non .non
  | bl (b : Bool) : Rp G (.bl b) (.bl b)
  | int (i : Int) : Rp G (.int i) (.int i)
  | str (s : Str) : Rp G (.str s) (.str s)
  | tup {a : Addr} {xs : List V} {ds : List D} : G a = some (.tup xs) → RpA G xs ds → Rp G (.ref a) (.tup ds)
  | lst {a : Addr} {xs : List V} {ds : List D} : G a = some (.lst xs) → RpA G xs ds → Rp G (.ref a) (.lst ds)
  | ins {a C dx : Addr} {fs : List (Str × V)} {ds : List (Str × D)} : G a = some (.ins C dx fs) → RpF G fs ds → Rp G (.ref a) (.ins C ds)
  | dic {a : Addr} {ks : List (L2.Key × V)} {ds : List (L2.Key × D)} : G a = some (.dK ks) → RpK G ks ds → Rp G (.ref a) (.dic ds)
  | tupF {a : Addr} {o : Obj} {xs : List V} {ds : List D} : G a = some (.frz o (.tup xs)) → o.dict = none → RpA G xs ds → Rp G (.ref a) (.tupF ds)
inductive RpA (G : Hp) : List V → List D → Prop
  | nil : RpA G [] []
  | cons {v : V} {d : D} {vs : List V} {ds : List D} : Rp G v d → RpA G vs ds → RpA G (v :: vs) (d :: ds)
inductive RpF (G : Hp) : List (Str × V) → List (Str × D) → Prop
  | nil : RpF G [] []
  | cons {x : Str} {v : V} {d : D} {vs : List (Str × V)} {ds : List (Str × D)} : Rp G v d → RpF G vs ds → RpF G ((x, v) :: vs) ((x, d) :: ds)
inductive RpK (G : Hp) : List (L2.Key × V) → List (L2.Key × D) → Prop
  | nil : RpK G [] []
  | cons {x : L2.Key} {v : V} {d : D} {vs : List (L2.Key × V)} {ds : List (L2.Key × D)} : Rp G v d → RpK G vs ds → RpK G ((x, v) :: vs) ((x, d) :: ds)
end
/-- all that stands stands on -/
def Ex (H H' : Hp) : Prop := ∀ a o, H a = some o → H' a = some o
theorem Ex.refl (H : Hp) : Ex H H := fun _ _ h => h
theorem Ex.trans {H H1 H2 : Hp} (a : Ex H H1) (b : Ex H1 H2) : Ex H H2 := fun x o h => b x o (a x o h)
theorem Ex.back {H H' : Hp} {p : Addr} (e : Ex H H') (h : H' p = none) : H p = none := by
  cases q : H p with
  | none => rfl
  | some u => rw [e _ _ q] at h; cases h
theorem Ex.new {H : Hp} {p : Addr} {o : HO} (h : H p = none) : Ex H (upd H p o) := fun a u e => by
  rw [upd_ne (ne_of_none e h)]; exact e
mutual
theorem Rp.ex {G G' : Hp} (e : Ex G G') : ∀ {v : V} {d : D}, Rp G v d → Rp G' v d
  | _, _, .non => .non
  | _, _, .bl b => .bl b
  | _, _, .int i => .int i
  | _, _, .str s => .str s
  | _, _, .tup h r => .tup (e _ _ h) (RpA.ex e r)
  | _, _, .lst h r => .lst (e _ _ h) (RpA.ex e r)
  | _, _, .ins h r => .ins (e _ _ h) (RpF.ex e r)
  | _, _, .dic h r => .dic (e _ _ h) (RpK.ex e r)
  | _, _, .tupF h z r => .tupF (e _ _ h) z (RpA.ex e r)
theorem RpA.ex {G G' : Hp} (e : Ex G G') : ∀ {v : List V} {d : List D}, RpA G v d → RpA G' v d
  | _, _, .nil => .nil
  | _, _, .cons h r => .cons (Rp.ex e h) (RpA.ex e r)
theorem RpF.ex {G G' : Hp} (e : Ex G G') : ∀ {v : List (Str × V)} {d : List (Str × D)}, RpF G v d → RpF G' v d
  | _, _, .nil => .nil
  | _, _, .cons h r => .cons (Rp.ex e h) (RpF.ex e r)
theorem RpK.ex {G G' : Hp} (e : Ex G G') : ∀ {v : List (L2.Key × V)} {d : List (L2.Key × D)}, RpK G v d → RpK G' v d
  | _, _, .nil => .nil
  | _, _, .cons h r => .cons (Rp.ex e h) (RpK.ex e r)
end
theorem RpA.length {G : Hp} : ∀ {xs : List V} {ds : List D}, RpA G xs ds → xs.length = ds.length
  | _, _, .nil => rfl
  | _, _, .cons _ r => by rw [List.length_cons, List.length_cons, RpA.length r]
theorem RpA.get {G : Hp} : ∀ {xs : List V} {ds : List D} {i : Nat} {d : D}, RpA G xs ds → ds[i]? = some d → ∃ v, xs[i]? = some v ∧ Rp G v d
  | _, _, _, _, .nil, e => by simp at e
  | _, _, 0, _, .cons r _, e => by
    have e' := Option.some.inj (show some _ = some _ from e)
    subst e'; exact ⟨_, rfl, r⟩
  | _, _, i + 1, d, .cons _ r, e => by
    obtain ⟨v, h1, h2⟩ := RpA.get (i := i) (d := d) r (by simpa using e)
    exact ⟨v, by simpa using h1, h2⟩
theorem RpA.getV {G : Hp} {xs : List V} {ds : List D} {i : Nat} {v : V} (r : RpA G xs ds) (e : xs[i]? = some v) : ∃ d, ds[i]? = some d ∧ Rp G v d := by
  have hi := (List.getElem?_eq_some_iff.mp e).1
  rw [r.length] at hi
  obtain ⟨u, h1, h2⟩ := r.get (List.getElem?_eq_getElem hi)
  rw [e] at h1; cases h1
  exact ⟨_, List.getElem?_eq_getElem hi, h2⟩
theorem RpA.append {G : Hp} : ∀ {xs ys : List V} {ds es : List D}, RpA G xs ds → RpA G ys es → RpA G (xs ++ ys) (ds ++ es)
  | _, _, _, _, .nil, s => s
  | _, _, _, _, .cons h r, s => .cons h (RpA.append r s)
theorem RpA.one {G : Hp} {v : V} {d : D} (h : Rp G v d) : RpA G [v] [d] := .cons h .nil
theorem RpA.take {G : Hp} : ∀ {xs : List V} {ds : List D} (n : Nat), RpA G xs ds → RpA G (xs.take n) (ds.take n)
  | _, _, 0, _ => .nil
  | _, _, _ + 1, .nil => .nil
  | _, _, n + 1, .cons h r => .cons h (RpA.take n r)
theorem RpA.drop {G : Hp} : ∀ {xs : List V} {ds : List D} (n : Nat), RpA G xs ds → RpA G (xs.drop n) (ds.drop n)
  | _, _, 0, r => r
  | _, _, _ + 1, .nil => .nil
  | _, _, n + 1, .cons _ r => RpA.drop n r
theorem RpA.set {G : Hp} {v : V} {d : D} (h : Rp G v d) : ∀ {xs : List V} {ds : List D} (n : Nat), RpA G xs ds → RpA G (xs.set n v) (ds.set n d)
  | _, _, _, .nil => .nil
  | _, _, 0, .cons _ r => .cons h r
  | _, _, n + 1, .cons q r => .cons q (RpA.set h n r)
theorem RpA.reverse {G : Hp} : ∀ {xs : List V} {ds : List D}, RpA G xs ds → RpA G xs.reverse ds.reverse
  | _, _, .nil => .nil
  | _, _, .cons h r => by rw [List.reverse_cons, List.reverse_cons]; exact (RpA.reverse r).append (.one h)
theorem RpA.eraseIdx {G : Hp} : ∀ {xs : List V} {ds : List D} (n : Nat), RpA G xs ds → RpA G (xs.eraseIdx n) (ds.eraseIdx n)
  | _, _, _, .nil => .nil
  | _, _, 0, .cons _ r => r
  | _, _, n + 1, .cons q r => .cons q (RpA.eraseIdx n r)
theorem RpF.look {G : Hp} {x : Str} {d : D} : ∀ {fs : List (Str × V)} {ds : List (Str × D)}, RpF G fs ds → ds.lookup x = some d → ∃ v, fs.lookup x = some v ∧ Rp G v d
  | _, _, .nil, e => by cases e
  | _, _, .cons (x := y) h r, e => by
    by_cases q : x = y
    · subst q
      simp only [List.lookup, beq_self_eq_true] at e
      cases e
      exact ⟨_, by simp only [List.lookup, beq_self_eq_true], h⟩
    · have hb : (x == y) = false := beq_eq_false_iff_ne.mpr q
      simp only [List.lookup, hb] at e
      obtain ⟨v, h1, h2⟩ := RpF.look r e
      exact ⟨v, by simp only [List.lookup, hb]; exact h1, h2⟩
theorem RpF.keys {G : Hp} : ∀ {fs : List (Str × V)} {ds : List (Str × D)}, RpF G fs ds → fs.map (·.1) = ds.map (·.1)
  | _, _, .nil => rfl
  | _, _, .cons h r => by rw [List.map_cons, List.map_cons, RpF.keys r]
/-- grown: the known part G to G', the heap H to H'; what lies beyond G stays as it is, but for m -/
structure Gr (m : Addr → Prop) (G H G' H' : Hp) : Prop where
  gg : Ex G G'
  hh : ∀ a o, ¬ m a → H a = some o → H' a = some o
  gh : Ex G' H'
  fr : ∀ a, G a = none → H a ≠ none → G' a = none
  th : ∀ a, H a ≠ none → H' a ≠ none
abbrev m0 : Addr → Prop := fun _ => False
theorem Gr.refl {m : Addr → Prop} {G H : Hp} (e : Ex G H) : Gr m G H G H := ⟨.refl _, fun _ _ _ h => h, e, fun _ h _ => h, fun _ h => h⟩
theorem Gr.trans {m : Addr → Prop} {G H G1 H1 G2 H2 : Hp} (a : Gr m G H G1 H1) (b : Gr m G1 H1 G2 H2) : Gr m G H G2 H2 :=
  ⟨a.gg.trans b.gg, fun x o n h => b.hh x o n (a.hh x o n h), b.gh, fun x h n => b.fr x (a.fr x h n) (a.th x n), fun x h => b.th x (a.th x h)⟩
theorem Gr.any {m : Addr → Prop} {G H G1 H1 : Hp} (a : Gr m0 G H G1 H1) : Gr m G H G1 H1 := ⟨a.gg, fun x o _ h => a.hh x o (fun z => z) h, a.gh, a.fr, a.th⟩
theorem Gr.ex {G H G1 H1 : Hp} (a : Gr m0 G H G1 H1) : Ex H H1 := fun x o h => a.hh x o (fun z => z) h
/-- a new object, known from now on -/
theorem Gr.new {m : Addr → Prop} {G H : Hp} {p : Addr} {o : HO} (e : Ex G H) (h : H p = none) : Gr m G H (upd G p o) (upd H p o) := by
  have hg : G p = none := e.back h
  refine ⟨.new hg, fun a u _ q => Ex.new h a u q, fun a u q => ?_, fun a h1 h2 => ?_, fun a q => ?_⟩
  · by_cases z : a = p
    · subst z; rw [upd_same] at q ⊢; exact q
    · rw [upd_ne z] at q ⊢; exact e a u q
  · rw [upd_ne (fun z => h2 (by rw [z]; exact h))]; exact h1
  · by_cases z : a = p
    · subst z; rw [upd_same]; exact fun z => by cases z
    · rw [upd_ne z]; exact q
/-- a new object that stays unknown -/
theorem Gr.newO {m : Addr → Prop} {G H : Hp} {p : Addr} {o : HO} (e : Ex G H) (h : H p = none) : Gr m G H G (upd H p o) :=
  ⟨.refl _, fun a u _ q => Ex.new h a u q, e.trans (.new h), fun _ h1 _ => h1, fun a q => by
    by_cases z : a = p
    · subst z; rw [upd_same]; exact fun z => by cases z
    · rw [upd_ne z]; exact q⟩
/-- from a smaller known part: both together -/
def both (G1 G2 : Hp) : Hp := fun a => match G1 a with
  | some o => some o
  | none => G2 a
theorem Gr.up {m : Addr → Prop} {G G1 H G' H' : Hp} (a : Gr m0 G H G' H') (h : Ex G G1) (e : Ex G1 H) : Gr m G1 H (both G1 G') H' ∧ Ex G' (both G1 G') := by
  have key : Ex G' (both G1 G') := fun x o q => by
    unfold both
    cases r : G1 x with
    | none => exact q
    | some u =>
      have h1 := a.ex x u (e x u r)
      rw [a.gh x o q] at h1
      exact h1.symm
  refine ⟨⟨fun x o q => ?_, fun x o _ q => a.ex x o q, fun x o q => ?_, fun x q n => ?_, a.th⟩, key⟩
  · show (match G1 x with | some o => some o | none => G' x) = some o
    rw [q]
  · have q' : (match G1 x with | some o => some o | none => G' x) = some o := q
    cases r : G1 x with
    | none => rw [r] at q'; exact a.gh x o q'
    | some u =>
      rw [r] at q'
      rw [← Option.some.inj q']
      exact a.ex x u (e x u r)
  · show (match G1 x with | some o => some o | none => G' x) = none
    rw [q]
    refine a.fr x ?_ n
    cases r : G x with
    | none => rfl
    | some u => rw [h x u r] at q; cases q
/-- the law's source of draws at a: its three ints, the count of the draws at most k -/
def Sk (a : Addr) (k : Nat) (H : Hp) : Prop := ∃ x y z : Int, H a = some (.lst [.int x, .int y, .int z]) ∧ 0 ≤ x ∧ 0 ≤ y ∧ y < 2147483648 ∧ 0 ≤ z ∧ z ≤ k
theorem Sk.ne {a : Addr} {k : Nat} {H : Hp} (h : Sk a k H) : H a ≠ none := by
  obtain ⟨x, y, z, e, _⟩ := h
  rw [e]; exact fun z => by cases z
theorem Sk.ex {a : Addr} {k : Nat} {H H' : Hp} (h : Sk a k H) (e : ∀ o, H a = some o → H' a = some o) : Sk a k H' := by
  obtain ⟨x, y, z, q, r⟩ := h
  exact ⟨x, y, z, e _ q, r⟩
/-- a slot: nothing known | shared data | a list of one's own (held nowhere else) | the source of draws -/
inductive Sl where
  | no | sh (d : D) | ow (ds : List D) | sr (a : Addr) (k : Nat)
structure Ok (H0 G H : Hp) (τ : List Sl) (σ : L2.St) : Prop where
  ex : Ex G H
  len : τ.length = σ.length
  sh : ∀ (i : Nat) (d : D), τ[i]? = some (Sl.sh d) → ∃ v, σ[i]? = some (some v) ∧ Rp G v d
  ow : ∀ (i : Nat) (ds : List D), τ[i]? = some (Sl.ow ds) → ∃ p vs, σ[i]? = some (some (V.ref p)) ∧ H p = some (.lst vs) ∧ G p = none ∧ H0 p = none ∧ RpA G vs ds
  ap : ∀ (i j : Nat) (ds es : List D) (p : Addr), i ≠ j → τ[i]? = some (Sl.ow ds) → τ[j]? = some (Sl.ow es) → σ[i]? = some (some (V.ref p)) → σ[j]? ≠ some (some (V.ref p))
  sr : ∀ (i : Nat) (a : Addr) (k : Nat), τ[i]? = some (Sl.sr a k) → σ[i]? = some (some (V.ref a)) ∧ G a = none ∧ Sk a k H
  aq : ∀ (i j : Nat) (ds : List D) (a : Addr) (k : Nat), τ[i]? = some (Sl.ow ds) → τ[j]? = some (Sl.sr a k) → σ[i]? ≠ some (some (V.ref a))
  su : ∀ (i j : Nat) (a b : Addr) (k n : Nat), τ[i]? = some (Sl.sr a k) → τ[j]? = some (Sl.sr b n) → i = j
theorem Ok.gr {H0 G H G' H' : Hp} {τ : List Sl} {σ : L2.St} (k : Ok H0 G H τ σ) (g : Gr m0 G H G' H') : Ok H0 G' H' τ σ where
  ex := g.gh
  len := k.len
  sh := fun i d e => let ⟨v, h1, h2⟩ := k.sh i d e; ⟨v, h1, h2.ex g.gg⟩
  ow := fun i ds e => let ⟨p, vs, h1, h2, h3, h0, h4⟩ := k.ow i ds e; ⟨p, vs, h1, g.ex _ _ h2, g.fr p h3 (by rw [h2]; exact fun z => by cases z), h0, h4.ex g.gg⟩
  ap := k.ap
  sr := fun i a n e => let ⟨h1, h2, h3⟩ := k.sr i a n e; ⟨h1, g.fr a h2 h3.ne, h3.ex fun o q => g.ex a o q⟩
  aq := k.aq
  su := k.su
/-- less is known -/
inductive Le : List Sl → List Sl → Prop
  | nil : Le [] []
  | no {x : Sl} {a b : List Sl} : Le a b → Le (.no :: a) (x :: b)
  | eq {x : Sl} {a b : List Sl} : Le a b → Le (x :: a) (x :: b)
theorem Le.refl : ∀ τ : List Sl, Le τ τ
  | [] => .nil
  | _ :: r => .eq (Le.refl r)
theorem Le.trans : ∀ {a b c : List Sl}, Le a b → Le b c → Le a c
  | _, _, _, .nil, .nil => .nil
  | _, _, _, .no h, .no q => .no (Le.trans h q)
  | _, _, _, .no h, .eq q => .no (Le.trans h q)
  | _, _, _, .eq h, .no q => .no (Le.trans h q)
  | _, _, _, .eq h, .eq q => .eq (Le.trans h q)
theorem Le.len : ∀ {a b : List Sl}, Le a b → a.length = b.length
  | _, _, .nil => rfl
  | _, _, .no h => by rw [List.length_cons, List.length_cons, Le.len h]
  | _, _, .eq h => by rw [List.length_cons, List.length_cons, Le.len h]
theorem Le.at_ : ∀ {a b : List Sl} {i : Nat} {x : Sl}, Le a b → a[i]? = some x → x = .no ∨ b[i]? = some x
  | _, _, _, _, .nil, e => by simp at e
  | _, _, 0, _, .no h, e => .inl (Option.some.inj (show some Sl.no = some _ from e)).symm
  | _, _, 0, _, .eq h, e => .inr e
  | _, _, i + 1, x, .no h, e => by
    have := Le.at_ (i := i) (x := x) h (by simpa using e)
    simpa using this
  | _, _, i + 1, x, .eq h, e => by
    have := Le.at_ (i := i) (x := x) h (by simpa using e)
    simpa using this
theorem Ok.le {H0 G H : Hp} {τ τ' : List Sl} {σ : L2.St} (k : Ok H0 G H τ σ) (l : Le τ' τ) : Ok H0 G H τ' σ where
  ex := k.ex
  len := l.len.trans k.len
  sh := fun i d e => by
    rcases l.at_ e with z | z
    · cases z
    · exact k.sh i d z
  ow := fun i d e => by
    rcases l.at_ e with z | z
    · cases z
    · exact k.ow i d z
  ap := fun i j ds es p n e1 e2 => by
    rcases l.at_ e1 with z | z
    · cases z
    · rcases l.at_ e2 with z2 | z2
      · cases z2
      · exact k.ap i j ds es p n z z2
  sr := fun i a n e => by
    rcases l.at_ e with z | z
    · cases z
    · exact k.sr i a n z
  aq := fun i j ds a n e1 e2 => by
    rcases l.at_ e1 with z | z
    · cases z
    · rcases l.at_ e2 with z2 | z2
      · cases z2
      · exact k.aq i j ds a n z z2
  su := fun i j a b n q e1 e2 => by
    rcases l.at_ e1 with z | z
    · cases z
    · rcases l.at_ e2 with z2 | z2
      · cases z2
      · exact k.su i j a b n q z z2
/-- no other slot gets a source -/
theorem su_set {τ : List Sl} {i : Nat} {x : Sl} (h : ∀ (i j : Nat) (a b : Addr) (k n : Nat), τ[i]? = some (Sl.sr a k) → τ[j]? = some (Sl.sr b n) → i = j) (hx : ∀ a k, x ≠ .sr a k) :
    ∀ (p q : Nat) (a b : Addr) (k n : Nat), (τ.set i x)[p]? = some (Sl.sr a k) → (τ.set i x)[q]? = some (Sl.sr b n) → p = q := fun p q a b k n h1 h2 => by
  have key : ∀ {p : Nat} {a : Addr} {k : Nat}, (τ.set i x)[p]? = some (Sl.sr a k) → τ[p]? = some (Sl.sr a k) := fun {p a k} h => by
    by_cases z : i = p
    · subst z
      have hl : i < τ.length := by
        have := (List.getElem?_eq_some_iff.mp h).1
        rwa [List.length_set] at this
      rw [List.getElem?_set_self hl] at h
      exact absurd (Option.some.inj h) (hx a k)
    · rwa [List.getElem?_set_ne z] at h
  exact h p q a b k n (key h1) (key h2)
theorem set_at {α : Type} {l : List α} {i j : Nat} {x y : α} (h : (l.set i x)[j]? = some y) : (i = j ∧ x = y ∧ i < l.length) ∨ (i ≠ j ∧ l[j]? = some y) := by
  by_cases z : i = j
  · subst z
    have hl : i < l.length := by
      have := (List.getElem?_eq_some_iff.mp h).1
      rwa [List.length_set] at this
    rw [List.getElem?_set_self hl] at h
    exact .inl ⟨rfl, Option.some.inj h, hl⟩
  · rw [List.getElem?_set_ne z] at h
    exact .inr ⟨z, h⟩
/-- a slot gets shared data -/
theorem Ok.setSh {H0 G H : Hp} {τ : List Sl} {σ : L2.St} {i : Nat} {v : V} {d : D} (k : Ok H0 G H τ σ) (r : Rp G v d) : Ok H0 G H (τ.set i (.sh d)) (σ.set i (some v)) := by
  refine ⟨k.ex, by rw [List.length_set, List.length_set]; exact k.len, fun j e he => ?_, fun j ds he => ?_, fun j l ds es p n h1 h2 h3 => ?_, fun j a n he => ?_, fun j l ds a n h1 h2 => ?_, su_set k.su (fun _ _ z => by cases z)⟩
  · rcases set_at he with ⟨z, e1, hl⟩ | ⟨z, he⟩
    · subst z; cases e1
      exact ⟨v, List.getElem?_set_self (by rw [← k.len]; exact hl), r⟩
    · rw [List.getElem?_set_ne z]
      exact k.sh j e he
  · rcases set_at he with ⟨z, e1, hl⟩ | ⟨z, he⟩
    · cases e1
    · rw [List.getElem?_set_ne z]
      exact k.ow j ds he
  · rcases set_at h1 with ⟨z, e1, hl⟩ | ⟨z, h1⟩
    · cases e1
    · rcases set_at h2 with ⟨z2, e2, hl⟩ | ⟨z2, h2⟩
      · cases e2
      · rw [List.getElem?_set_ne z] at h3
        rw [List.getElem?_set_ne z2]
        exact k.ap j l ds es p n h1 h2 h3
  · rcases set_at he with ⟨z, e1, hl⟩ | ⟨z, he⟩
    · cases e1
    · rw [List.getElem?_set_ne z]
      exact k.sr j a n he
  · rcases set_at h1 with ⟨z, e1, hl⟩ | ⟨z, h1⟩
    · cases e1
    · rcases set_at h2 with ⟨z2, e2, hl⟩ | ⟨z2, h2⟩
      · cases e2
      · rw [List.getElem?_set_ne z]
        exact k.aq j l ds a n h1 h2
/-- a slot gets a new list of one's own (or the one that it has, changed) -/
theorem Ok.setOw {H0 G H : Hp} {τ : List Sl} {σ : L2.St} {i : Nat} {p : Addr} {vs : List V} {ds : List D} (k : Ok H0 G H τ σ) (hp : H p = some (.lst vs)) (hg : G p = none) (h0 : H0 p = none) (r : RpA G vs ds)
    (hf : ∀ (j : Nat) (es : List D), j ≠ i → τ[j]? = some (Sl.ow es) → σ[j]? ≠ some (some (V.ref p))) (hq : ∀ (j : Nat) (k : Nat), τ[j]? ≠ some (Sl.sr p k)) : Ok H0 G H (τ.set i (.ow ds)) (σ.set i (some (.ref p))) := by
  refine ⟨k.ex, by rw [List.length_set, List.length_set]; exact k.len, fun j e he => ?_, fun j es he => ?_, fun j l es fs q n h1 h2 h3 => ?_, fun j a n he => ?_, fun j l es a n h1 h2 => ?_, su_set k.su (fun _ _ z => by cases z)⟩
  · rcases set_at he with ⟨z, e1, hl⟩ | ⟨z, he⟩
    · cases e1
    · rw [List.getElem?_set_ne z]
      exact k.sh j e he
  · rcases set_at he with ⟨z, e1, hl⟩ | ⟨z, he⟩
    · subst z; cases e1
      exact ⟨p, vs, List.getElem?_set_self (by rw [← k.len]; exact hl), hp, hg, h0, r⟩
    · rw [List.getElem?_set_ne z]
      exact k.ow j es he
  · rcases set_at h1 with ⟨z, e1, hl⟩ | ⟨z, h1⟩
    · subst z
      rcases set_at h3 with ⟨_, e3, _⟩ | ⟨z3, _⟩
      · cases e3
        rcases set_at h2 with ⟨z2, _, _⟩ | ⟨z2, h2⟩
        · exact absurd z2 n
        · rw [List.getElem?_set_ne z2]
          exact hf l fs (Ne.symm n) h2
      · exact absurd rfl z3
    · rw [List.getElem?_set_ne z] at h3
      rcases set_at h2 with ⟨z2, e2, hl⟩ | ⟨z2, h2⟩
      · subst z2
        intro h4
        rcases set_at h4 with ⟨_, e4, _⟩ | ⟨z4, _⟩
        · cases e4
          exact hf j es (Ne.symm z) h1 h3
        · exact absurd rfl z4
      · rw [List.getElem?_set_ne z2]
        exact k.ap j l es fs q n h1 h2 h3
  · rcases set_at he with ⟨z, e1, hl⟩ | ⟨z, he⟩
    · cases e1
    · rw [List.getElem?_set_ne z]
      exact k.sr j a n he
  · rcases set_at h2 with ⟨z2, e2, hl⟩ | ⟨z2, h2⟩
    · cases e2
    · rcases set_at h1 with ⟨z, e1, hl⟩ | ⟨z, h1⟩
      · subst z
        intro h3
        rcases set_at h3 with ⟨_, e3, _⟩ | ⟨z3, _⟩
        · cases e3
          exact hq l n h2
        · exact absurd rfl z3
      · rw [List.getElem?_set_ne z]
        exact k.aq j l es a n h1 h2
/-- an owned list becomes shared data -/
theorem Ok.share {m : Addr → Prop} {G0 H0 G H : Hp} {τ : List Sl} {σ : L2.St} {i : Nat} {ds : List D} (g : Gr m G0 H0 G H) (k : Ok H0 G H τ σ) (h : τ[i]? = some (Sl.ow ds)) : ∃ G', Gr m G0 H0 G' H ∧ Ok H0 G' H (τ.set i (.sh (.lst ds))) σ := by
  obtain ⟨p, vs, h1, h2, h3, h0, h4⟩ := k.ow i ds h
  have e1 : Ex G (upd G p (.lst vs)) := .new h3
  have e2 : Ex (upd G p (.lst vs)) H := fun a u q => by
    by_cases z : a = p
    · subst z; rw [upd_same] at q; cases q; exact h2
    · rw [upd_ne z] at q; exact k.ex a u q
  refine ⟨upd G p (.lst vs), ⟨g.gg.trans e1, g.hh, e2, fun a q n => ?_, g.th⟩, e2, by rw [List.length_set]; exact k.len, fun j e he => ?_, fun j es he => ?_, fun j l es fs q n q1 q2 q3 => ?_, fun j a n he => ?_, fun j l es a n q1 q2 => ?_, su_set k.su (fun _ _ z => by cases z)⟩
  · rw [upd_ne (fun z => n (by rw [z]; exact h0))]
    exact g.fr a q n
  · rcases set_at he with ⟨z, e3, hl⟩ | ⟨z, he⟩
    · subst z; cases e3
      exact ⟨_, h1, .lst upd_same (h4.ex e1)⟩
    · obtain ⟨v, a, b⟩ := k.sh j e he
      exact ⟨v, a, b.ex e1⟩
  · rcases set_at he with ⟨z, e3, hl⟩ | ⟨z, he⟩
    · cases e3
    · obtain ⟨q, us, a, b, c, c0, d⟩ := k.ow j es he
      refine ⟨q, us, a, b, ?_, c0, d.ex e1⟩
      rw [upd_ne]
      · exact c
      · intro w
        subst w
        exact k.ap i j ds es q z h he h1 a
  · rcases set_at q1 with ⟨z, e3, hl⟩ | ⟨z, q1⟩
    · cases e3
    · rcases set_at q2 with ⟨z2, e3, hl⟩ | ⟨z2, q2⟩
      · cases e3
      · exact k.ap j l es fs q n q1 q2 q3
  · rcases set_at he with ⟨z, e3, hl⟩ | ⟨z, he⟩
    · cases e3
    · obtain ⟨a1, a2, a3⟩ := k.sr j a n he
      refine ⟨a1, ?_, a3⟩
      rw [upd_ne]
      · exact a2
      · intro w
        subst w
        exact k.aq i j ds a n h he h1
  · rcases set_at q1 with ⟨z, e3, hl⟩ | ⟨z, q1⟩
    · cases e3
    · rcases set_at q2 with ⟨z2, e3, hl⟩ | ⟨z2, q2⟩
      · cases e3
      · exact k.aq j l es a n q1 q2
/-- an owned list is changed -/
theorem Ok.change {m : Addr → Prop} {G0 H0 G H : Hp} {τ : List Sl} {σ : L2.St} {i : Nat} {p : Addr} {us : List V} {ds es : List D} (g : Gr m G0 H0 G H) (k : Ok H0 G H τ σ) (h : τ[i]? = some (Sl.ow ds)) (hs : σ[i]? = some (some (V.ref p))) (r : RpA G us es) :
    Gr m G0 H0 G (upd H p (.lst us)) ∧ Ok H0 G (upd H p (.lst us)) (τ.set i (.ow es)) σ := by
  obtain ⟨p', vs', h1, h2, h3, h0, h4⟩ := k.ow i ds h
  rw [hs] at h1; cases h1
  have e2 : Ex G (upd H p (.lst us)) := fun a u q => by
    rw [upd_ne (fun z => by rw [z, h3] at q; cases q)]; exact k.ex a u q
  refine ⟨⟨g.gg, fun a o n q => ?_, e2, g.fr, fun a q => ?_⟩, ⟨e2, by rw [List.length_set]; exact k.len, fun j e he => ?_, fun j fs he => ?_, fun j l fs gs q n q1 q2 q3 => ?_, fun j a n he => ?_, fun j l fs a n q1 q2 => ?_, su_set k.su (fun _ _ z => by cases z)⟩⟩
  · rw [upd_ne (fun z => by rw [z, h0] at q; cases q)]; exact g.hh a o n q
  · by_cases z : a = p
    · subst z; rw [upd_same]; exact fun z => by cases z
    · rw [upd_ne z]; exact g.th a q
  · rcases set_at he with ⟨z, e3, hl⟩ | ⟨z, he⟩
    · cases e3
    · exact k.sh j e he
  · rcases set_at he with ⟨z, e3, hl⟩ | ⟨z, he⟩
    · subst z; cases e3
      exact ⟨p, us, hs, upd_same, h3, h0, r⟩
    · obtain ⟨q, ws, a, b, c, c0, d⟩ := k.ow j fs he
      refine ⟨q, ws, a, ?_, c, c0, d⟩
      rw [upd_ne]
      · exact b
      · intro w
        subst w
        exact k.ap i j ds fs q z h he hs a
  · rcases set_at q1 with ⟨z, e3, hl⟩ | ⟨z, q1⟩
    · subst z
      rcases set_at q2 with ⟨z2, e3, hl⟩ | ⟨z2, q2⟩
      · exact absurd z2 n
      · exact k.ap i l ds gs q n h q2 q3
    · rcases set_at q2 with ⟨z2, e3, hl⟩ | ⟨z2, q2⟩
      · subst z2
        exact k.ap j i fs ds q n q1 h q3
      · exact k.ap j l fs gs q n q1 q2 q3
  · rcases set_at he with ⟨z, e3, hl⟩ | ⟨z, he⟩
    · cases e3
    · obtain ⟨a1, a2, a3⟩ := k.sr j a n he
      refine ⟨a1, a2, a3.ex fun o q => ?_⟩
      rw [upd_ne]
      · exact q
      · intro w
        subst w
        exact k.aq i j ds a n h he hs
  · rcases set_at q2 with ⟨z2, e3, hl⟩ | ⟨z2, q2⟩
    · cases e3
    · rcases set_at q1 with ⟨z, e3, hl⟩ | ⟨z, q1⟩
      · subst z
        exact k.aq i l ds a n h q2
      · exact k.aq j l fs a n q1 q2
/-- the source is drawn from (m: a may change) -/
theorem Ok.draw {m : Addr → Prop} {G0 H0 G H G' H' : Hp} {τ : List Sl} {σ : L2.St} {i k k' : Nat} {a : Addr} (g : Gr m G0 H0 G H) (ok : Ok H0 G H τ σ) (h : τ[i]? = some (Sl.sr a k)) (hm : m a ∨ H0 a = none) (g' : Gr (fun b => b = a) G H G' H') (s : Sk a k' H') : Gr m G0 H0 G' H' ∧ Ok H0 G' H' (τ.set i (.sr a k')) σ := by
  obtain ⟨b1, b2, b3⟩ := ok.sr i a k h
  have na : ∀ j ds p, τ[j]? = some (Sl.ow ds) → σ[j]? = some (some (V.ref p)) → p ≠ a := fun j ds p e1 e2 z => ok.aq j i ds a k e1 h (by rw [← z]; exact e2)
  refine ⟨⟨g.gg.trans g'.gg, fun b o n q => ?_, g'.gh, fun b q n => g'.fr b (g.fr b q n) (g.th b n), fun b q => g'.th b (g.th b q)⟩, g'.gh, by rw [List.length_set]; exact ok.len, fun j e he => ?_, fun j es he => ?_, fun j l es fs q n q1 q2 q3 => ?_, fun j b n he => ?_, fun j l es b n q1 q2 => ?_, fun p q b c n n' q1 q2 => ?_⟩
  · by_cases z : b = a
    · subst z
      rcases hm with hm | hm
      · exact absurd hm n
      · rw [hm] at q; cases q
    · exact g'.hh b o z (g.hh b o n q)
  · rcases set_at he with ⟨z, e3, hl⟩ | ⟨z, he⟩
    · cases e3
    · obtain ⟨v, a1, a2⟩ := ok.sh j e he
      exact ⟨v, a1, a2.ex g'.gg⟩
  · rcases set_at he with ⟨z, e3, hl⟩ | ⟨z, he⟩
    · cases e3
    · obtain ⟨p, vs, a1, a2, a3, a4, a5⟩ := ok.ow j es he
      exact ⟨p, vs, a1, g'.hh p _ (na j es p he a1) a2, g'.fr p a3 (by rw [a2]; exact fun z => by cases z), a4, a5.ex g'.gg⟩
  · rcases set_at q1 with ⟨z, e3, hl⟩ | ⟨z, q1⟩
    · cases e3
    · rcases set_at q2 with ⟨z2, e3, hl⟩ | ⟨z2, q2⟩
      · cases e3
      · exact ok.ap j l es fs q n q1 q2 q3
  · rcases set_at he with ⟨z, e3, hl⟩ | ⟨z, he⟩
    · subst z; cases e3
      exact ⟨b1, g'.fr a b2 b3.ne, s⟩
    · exact absurd (ok.su i j _ _ _ _ h he) z
  · rcases set_at q1 with ⟨z, e3, hl⟩ | ⟨z, q1⟩
    · cases e3
    · rcases set_at q2 with ⟨z2, e3, hl⟩ | ⟨z2, q2⟩
      · cases e3
        exact ok.aq j i es _ k q1 h
      · exact ok.aq j l es b n q1 q2
  · have key : ∀ {p b n}, (τ.set i (.sr a k'))[p]? = some (Sl.sr b n) → p = i := fun {p b n} q => by
      rcases set_at q with ⟨z, _, _⟩ | ⟨z, q⟩
      · exact z.symm
      · exact (ok.su i p _ _ _ _ h q).symm
    rw [key q1, key q2]
end R87
namespace R87
open PySem PySem.Spec PyProof.Rows L2
section
variable {X : Cx}
structure We (X : Cx) (e : Expr) (σ : L2.St) (H : Hp) (Q : VK) : Prop where
  run : ∀ (pins : List (Addr × Obj)) (s : Shared), Inv X pins σ H s → wpAny (model X.prog X.w) X.A (eval e X.env) (EP X pins σ Q) X.xe s
theorem pe_we {e : Expr} : PE X e (We X e) := ⟨fun pins s σ H Q I h => h.run pins s I⟩
theorem We.of {e : Expr} {t : TE} {σ : L2.St} {H : Hp} {Q : VK} (h : PE X e t) (q : t σ H Q) : We X e σ H Q := ⟨fun pins s I => h.run pins s σ H Q I q⟩
structure Wt (X : Cx) (e : Expr) (σ : L2.St) (H : Hp) (Q : Bool → Hp → Prop) : Prop where
  run : ∀ (pins : List (Addr × Obj)) (s : Shared), Inv X pins σ H s → wpAny (model X.prog X.w) X.A (isTrue e X.env (eval e X.env)) (TP X pins σ Q) X.xe s
theorem pt_wt {e : Expr} : PT X e (Wt X e) := ⟨fun pins s σ H Q I h => h.run pins s I⟩
theorem Wt.of {e : Expr} {t : TT} {σ : L2.St} {H : Hp} {Q : Bool → Hp → Prop} (h : PT X e t) (q : t σ H Q) : Wt X e σ H Q := ⟨fun pins s I => h.run pins s σ H Q I q⟩
structure Ww (X : Cx) (e : Expr) (σ : L2.St) (H : Hp) (Q : Bool → Hp → Prop) : Prop where
  run : ∀ (whole : Sem Value) (pins : List (Addr × Obj)) (s : Shared), Inv X pins σ H s → wpAny (model X.prog X.w) X.A (isTrue e X.env whole) (TP X pins σ Q) X.xe s
theorem pw_ww {e : Expr} : PW X e (Ww X e) := ⟨fun wh pins s σ H Q I h => h.run wh pins s I⟩
theorem Ww.of {e : Expr} {t : TT} {σ : L2.St} {H : Hp} {Q : Bool → Hp → Prop} (h : PW X e t) (q : t σ H Q) : Ww X e σ H Q := ⟨fun wh pins s I => h.run wh pins s σ H Q I q⟩
structure Wa (X : Cx) (es : List Expr) (σ : L2.St) (H : Hp) (Q : List V → Hp → Prop) : Prop where
  run : ∀ (pos : Pos) (pins : List (Addr × Obj)) (s : Shared), Inv X pins σ H s → wpAny (model X.prog X.w) X.A (spliced (backTo pos (starEach es X.env))) (AP X pins σ Q) X.xe s
theorem pa_wa {es : List Expr} : PA X es (Wa X es) := ⟨fun pos pins s σ H Q I h => h.run pos pins s I⟩
theorem Wa.of {es : List Expr} {t : TA} {σ : L2.St} {H : Hp} {Q : List V → Hp → Prop} (h : PA X es t) (q : t σ H Q) : Wa X es σ H Q := ⟨fun pos pins s I => h.run pos pins s σ H Q I q⟩
structure Ws (X : Cx) (st : Stmt) (D : Ends) (σ : L2.St) (H : Hp) : Prop where
  run : ∀ (pins : List (Addr × Obj)) (s : Shared), Inv X pins σ H s → wpAny (model X.prog X.w) X.A (exec st X.env) (SP X pins D) X.xe s
theorem ps_ws {st : Stmt} : PS X st (Ws X st) := ⟨fun pins s σ H D I h => h.run pins s I⟩
theorem Ws.of {st : Stmt} {t : TS} {σ : L2.St} {H : Hp} {D : Ends} (h : PS X st t) (q : t D σ H) : Ws X st D σ H := ⟨fun pins s I => h.run pins s σ H D I q⟩
structure Wb (X : Cx) (sts : List Stmt) (D : Ends) (σ : L2.St) (H : Hp) : Prop where
  run : ∀ (pins : List (Addr × Obj)) (s : Shared), Inv X pins σ H s → wpAny (model X.prog X.w) X.A (execs sts X.env) (SP X pins D) X.xe s
theorem pss_wb {sts : List Stmt} : PSs X sts (Wb X sts) := ⟨fun pins s σ H D I h => h.run pins s I⟩
theorem Wb.of {sts : List Stmt} {t : TS} {σ : L2.St} {H : Hp} {D : Ends} (h : PSs X sts t) (q : t D σ H) : Wb X sts D σ H := ⟨fun pins s I => h.run pins s σ H D I q⟩
structure Wg (X : Cx) (tg : Expr) (v : V) (σ : L2.St) (H : Hp) (Q : L2.St → Hp → Prop) : Prop where
  run : ∀ (pins : List (Addr × Obj)) (s : Shared) (u : Value), Inv X pins σ H s → RelV v u → wpAny (model X.prog X.w) X.A (assign tg X.env u) (fun _ s' => ∃ σ' H', Inv X pins σ' H' s' ∧ Q σ' H') X.xe s
theorem pg_wg {tg : Expr} : PG X tg (Wg X tg) := ⟨fun pins s σ H v u Q I r h => h.run pins s u I r⟩
theorem Wg.of {tg : Expr} {t : TG} {σ : L2.St} {H : Hp} {v : V} {Q : L2.St → Hp → Prop} (h : PG X tg t) (q : t v σ H Q) : Wg X tg v σ H Q := ⟨fun pins s u I r => h.run pins s σ H v u Q I r q⟩
structure Wi (X : Cx) (tg it : Expr) (σ : L2.St) (H : Hp) (R : It → Hp → Prop) : Prop where
  run : ∀ (pins : List (Addr × Obj)) (s : Shared), Inv X pins σ H s → wpAny (model X.prog X.w) X.A (eval it X.env) (fun v s1 => wpAny (model X.prog X.w) X.A (pyIter v) (PIE X pins σ tg R) X.xe s1) X.xe s
theorem pi_wi {tg it : Expr} : PI X tg it (Wi X tg it) := ⟨fun pins s σ H R I h => h.run pins s I⟩
theorem Wi.of {tg it : Expr} {t : TI} {σ : L2.St} {H : Hp} {R : It → Hp → Prop} (h : PI X tg it t) (q : t σ H R) : Wi X tg it σ H R := ⟨fun pins s I => h.run pins s σ H R I q⟩
instance {e : Expr} {σ : L2.St} {H : Hp} {Q : VK} : CoeFun (We X e σ H Q) (fun _ => ∀ (pins : List (Addr × Obj)) (s : Shared), Inv X pins σ H s → wpAny (model X.prog X.w) X.A (eval e X.env) (EP X pins σ Q) X.xe s) := ⟨We.run⟩
instance {e : Expr} {σ : L2.St} {H : Hp} {Q : Bool → Hp → Prop} : CoeFun (Wt X e σ H Q) (fun _ => ∀ (pins : List (Addr × Obj)) (s : Shared), Inv X pins σ H s → wpAny (model X.prog X.w) X.A (isTrue e X.env (eval e X.env)) (TP X pins σ Q) X.xe s) := ⟨Wt.run⟩
instance {sts : List Stmt} {σ : L2.St} {H : Hp} {D : Ends} : CoeFun (Wb X sts D σ H) (fun _ => ∀ (pins : List (Addr × Obj)) (s : Shared), Inv X pins σ H s → wpAny (model X.prog X.w) X.A (execs sts X.env) (SP X pins D) X.xe s) := ⟨Wb.run⟩
instance {st : Stmt} {σ : L2.St} {H : Hp} {D : Ends} : CoeFun (Ws X st D σ H) (fun _ => ∀ (pins : List (Addr × Obj)) (s : Shared), Inv X pins σ H s → wpAny (model X.prog X.w) X.A (exec st X.env) (SP X pins D) X.xe s) := ⟨Ws.run⟩
instance {tg : Expr} {v : V} {σ : L2.St} {H : Hp} {Q : L2.St → Hp → Prop} : CoeFun (Wg X tg v σ H Q) (fun _ => ∀ (pins : List (Addr × Obj)) (s : Shared) (u : Value), Inv X pins σ H s → RelV v u → wpAny (model X.prog X.w) X.A (assign tg X.env u) (fun _ s' => ∃ σ' H', Inv X pins σ' H' s' ∧ Q σ' H') X.xe s) := ⟨Wg.run⟩
/-- what an expression tells, whatever the heap holds besides -/
def Pu (X : Cx) (e : Expr) (τ : List Sl) (d : D) : Prop := ∀ (H0 G H : Hp) (σ : L2.St), Ok H0 G H τ σ → ∀ Q : VK, (∀ v G' H', Gr m0 G H G' H' → Rp G' v d → Q v H') → We X e σ H Q
/-- .. a new list that nothing else holds -/
def Nu (X : Cx) (e : Expr) (τ : List Sl) (ds : List D) : Prop := ∀ (H0 G H : Hp) (σ : L2.St), Ok H0 G H τ σ → ∀ Q : VK,
  (∀ p vs G' H', Gr m0 G H G' H' → G' p = none → H p = none → H' p = some (.lst vs) → RpA G' vs ds → Q (.ref p) H') → We X e σ H Q
def Pt (X : Cx) (e : Expr) (τ : List Sl) (b : Bool) : Prop := ∀ (H0 G H : Hp) (σ : L2.St), Ok H0 G H τ σ → ∀ Q : Bool → Hp → Prop, (∀ G' H', Gr m0 G H G' H' → Q b H') → Wt X e σ H Q
def Pw (X : Cx) (e : Expr) (τ : List Sl) (b : Bool) : Prop := ∀ (H0 G H : Hp) (σ : L2.St), Ok H0 G H τ σ → ∀ Q : Bool → Hp → Prop, (∀ G' H', Gr m0 G H G' H' → Q b H') → Ww X e σ H Q
def Pa (X : Cx) (es : List Expr) (τ : List Sl) (ds : List D) : Prop := ∀ (H0 G H : Hp) (σ : L2.St), Ok H0 G H τ σ → ∀ Q : List V → Hp → Prop, (∀ vs G' H', Gr m0 G H G' H' → RpA G' vs ds → Q vs H') → Wa X es σ H Q
theorem Gr.known {m : Addr → Prop} {G H G' H' : Hp} {p : Addr} {vs : List V} (g : Gr m G H G' H') (h1 : G' p = none) (h2 : H p = none) (h3 : H' p = some (.lst vs)) : Gr m G H (upd G' p (.lst vs)) H' :=
  ⟨g.gg.trans (.new h1), g.hh, fun a u q => by
    by_cases z : a = p
    · subst z; rw [upd_same] at q; cases q; exact h3
    · rw [upd_ne z] at q; exact g.gh a u q, fun a q n => by
    rw [upd_ne (fun z => n (by rw [z]; exact h2))]; exact g.fr a q n, g.th⟩
theorem Nu.pu {e : Expr} {τ : List Sl} {ds : List D} (h : Nu X e τ ds) : Pu X e τ (.lst ds) := fun H0 G H σ k Q q =>
  h H0 G H σ k Q fun p vs G' H' g h1 h2 h3 r => q _ _ H' (g.known h1 h2 h3) (.lst upd_same (r.ex (.new h1)))
theorem Pu.is {e : Expr} {τ : List Sl} {d d' : D} (h : Pu X e τ d) (z : d = d') : Pu X e τ d' := by rw [← z]; exact h
theorem Nu.is {e : Expr} {τ : List Sl} {d d' : List D} (h : Nu X e τ d) (z : d = d') : Nu X e τ d' := by rw [← z]; exact h
theorem Pt.is {e : Expr} {τ : List Sl} {d d' : Bool} (h : Pt X e τ d) (z : d = d') : Pt X e τ d' := by rw [← z]; exact h
theorem Pw.pt {e : Expr} {τ : List Sl} {b : Bool} (h : Pw X e τ b) : Pt X e τ b := fun H0 G H σ k Q q => ⟨fun pins s I => (h H0 G H σ k Q q).run (eval e X.env) pins s I⟩
variable {τ : List Sl} {a b c e : Expr} {es rest : List Expr} {d x y z : D} {pos : Pos}
theorem pu_var (i : Nat) {n : Str} (h : τ[i]? = some (Sl.sh d)) (hN : X.N[i]? = some n := by rfl) (hv : Vis X.env.scope n := by first | exact Or.inl rfl | exact Or.inr (Or.inl rfl) | exact Or.inr (Or.inr rfl)) (hd : (n == ("__debug__" : Str)) = false := by decide)
    (hcd : (n == ("__classdict__" : Str)) = false := by decide) : Pu X (.Name n pos) τ d := fun H0 G H σ k Q q => by
  obtain ⟨v, h1, h2⟩ := k.sh i d h
  exact We.of (pe_var hN hv hd hcd) ⟨v, h1, q v G H (.refl k.ex) h2⟩
theorem pu_int {i : Int} {j : Nat} : Pu X (.Constant (.int i) j pos) τ (.int i) := fun H0 G H σ k Q q => We.of pe_int (q _ G H (.refl k.ex) (.int i))
theorem pu_bl {i : Bool} {j : Nat} : Pu X (.Constant (.bool i) j pos) τ (.bl i) := fun H0 G H σ k Q q => We.of pe_bl (q _ G H (.refl k.ex) (.bl i))
theorem pu_non {j : Nat} : Pu X (.Constant .none j pos) τ .non := fun H0 G H σ k Q q => We.of pe_non (q _ G H (.refl k.ex) .non)
theorem pu_str {i : Str} {j : Nat} : Pu X (.Constant (.str i) j pos) τ (.str i) := fun H0 G H σ k Q q => We.of pe_str (q _ G H (.refl k.ex) (.str i))
theorem pu_globI {n : Str} {i : Int} (hm : ∃ t, X.mg n = some (.int i t)) (hg : Gl X n := by rfl) (hd : (n == ("__debug__" : Str)) = false := by decide) : Pu X (.Name n pos) τ (.int i) := fun H0 G H σ k Q q => by
  obtain ⟨t, hm⟩ := hm
  exact We.of (pe_glob (v := .int i) hg hm ⟨_, rfl⟩ hd) (q _ G H (.refl k.ex) (.int i))
theorem pu_globS {n : Str} {i : Str} (hm : ∃ t, X.mg n = some (.str i t)) (hg : Gl X n := by rfl) (hd : (n == ("__debug__" : Str)) = false := by decide) : Pu X (.Name n pos) τ (.str i) := fun H0 G H σ k Q q => by
  obtain ⟨t, hm⟩ := hm
  exact We.of (pe_glob (v := .str i) hg hm ⟨_, rfl⟩ hd) (q _ G H (.refl k.ex) (.str i))
def DOp (r : R2) (x y z : D) : Prop := ∀ v u G H, Ex G H → Rp G v x → Rp G u y → ∀ Q : VK, (∀ w G' H', Gr m0 G H G' H' → Rp G' w z → Q w H') → r v u H Q
def DOpN (r : R2) (x y : D) (ds : List D) : Prop := ∀ v u G H, Ex G H → Rp G v x → Rp G u y → ∀ Q : VK, (∀ p vs, H p = none → RpA G vs ds → Q (.ref p) (upd H p (.lst vs))) → r v u H Q
theorem pu_op {op : Operator} {r : R2} (ho : OpR X (binaryOp op) r) (hr : DOp r x y z) (ha : Pu X a τ x) (hb : Pu X b τ y) : Pu X (.BinOp a op b pos) τ z := fun H0 G H σ k Q q =>
  We.of (pe_op ho pe_we pe_we) (ha H0 G H σ k _ fun v G1 H1 g1 r1 => hb H0 G1 H1 σ (k.gr g1) _ fun u G2 H2 g2 r2 => hr v u G2 H2 g2.gh (r1.ex g2.gg) r2 Q fun w G3 H3 g3 r3 => q w G3 H3 ((g1.trans g2).trans g3) r3)
theorem nu_op {op : Operator} {r : R2} {ds : List D} (ho : OpR X (binaryOp op) r) (hr : DOpN r x y ds) (ha : Pu X a τ x) (hb : Pu X b τ y) : Nu X (.BinOp a op b pos) τ ds := fun H0 G H σ k Q q =>
  We.of (pe_op ho pe_we pe_we) (ha H0 G H σ k _ fun v G1 H1 g1 r1 => hb H0 G1 H1 σ (k.gr g1) _ fun u G2 H2 g2 r2 => hr v u G2 H2 g2.gh (r1.ex g2.gg) r2 Q fun p vs n r3 =>
    q p vs G2 _ ((g1.trans g2).trans (.newO g2.gh n)) (g2.gh.back n) ((g1.trans g2).ex.back n) upd_same r3)
theorem pu_cmp {op : CmpOp} {r : R2} (ho : OpR X (compareOp op) r) (hr : DOp r x y z) (ha : Pu X a τ x) (hb : Pu X b τ y) (hm : behindInMarks op b = false := by first | exact nomark _ | rfl) : Pu X (.Compare a [op] [b] pos) τ z := fun H0 G H σ k Q q =>
  We.of (pe_cmpR ho pe_we pe_we hm) (ha H0 G H σ k _ fun v G1 H1 g1 r1 => hb H0 G1 H1 σ (k.gr g1) _ fun u G2 H2 g2 r2 => hr v u G2 H2 g2.gh (r1.ex g2.gg) r2 Q fun w G3 H3 g3 r3 => q w G3 H3 ((g1.trans g2).trans g3) r3)
theorem pt_cmp' {op : CmpOp} {r : R2} {t : Bool} (ho : OpR X (compareOp op) r) (hr : DOp r x y (.bl t)) (ha : Pu X a τ x) (hb : Pu X b τ y) (hm : behindInMarks op b = false := by first | exact nomark _ | rfl) : Pt X (.Compare a [op] [b] pos) τ t := fun H0 G H σ k Q q =>
  Wt.of (pt_cmpR ho pe_we pe_we hm) (ha H0 G H σ k _ fun v G1 H1 g1 r1 => hb H0 G1 H1 σ (k.gr g1) _ fun u G2 H2 g2 r2 => hr v u G2 H2 g2.gh (r1.ex g2.gg) r2 _ fun w G3 H3 g3 r3 => by
    cases r3
    exact ⟨t, rfl, q G3 H3 ((g1.trans g2).trans g3)⟩)
theorem pt_chain' {op op' : CmpOp} {r r' : R2} {s t : Bool} (ho : OpR X (compareOp op) r) (ho' : OpR X (compareOp op') r') (hr : DOp r x y (.bl s)) (hr' : DOp r' y z (.bl t)) (ha : Pu X a τ x) (hb : Pu X b τ y) (hc : Pu X c τ z)
    (hm : lastMarks [op, op'] [b, c] = false := by with_unfolding_all rfl) : Pt X (.Compare a [op, op'] [b, c] pos) τ (s && t) := fun H0 G H σ k Q q =>
  Wt.of (pt_chain ho ho' pe_we pe_we pe_we hm) (ha H0 G H σ k _ fun v G1 H1 g1 r1 => hb H0 G1 H1 σ (k.gr g1) _ fun u G2 H2 g2 r2 => hr v u G2 H2 g2.gh (r1.ex g2.gg) r2 _ fun w G3 H3 g3 r3 => by
    cases r3
    refine ⟨s, rfl, ?_⟩
    cases s with
    | false => exact ⟨false, rfl, q G3 H3 ((g1.trans g2).trans g3)⟩
    | true =>
      refine hc H0 G3 H3 σ (((k.gr g1).gr g2).gr g3) _ fun w4 G4 H4 g4 r4 => hr' u w4 G4 H4 g4.gh ((r2.ex g3.gg).ex g4.gg) r4 _ fun w5 G5 H5 g5 r5 => ?_
      cases r5
      exact ⟨t, rfl, q G5 H5 ((((g1.trans g2).trans g3).trans g4).trans g5)⟩)
theorem pu_chain {op op' : CmpOp} {r r' : R2} {s t : Bool} (ho : OpR X (compareOp op) r) (ho' : OpR X (compareOp op') r') (hr : DOp r x y (.bl s)) (hr' : DOp r' y z (.bl t)) (ha : Pu X a τ x) (hb : Pu X b τ y) (hc : Pu X c τ z)
    (hm : lastMarks [op, op'] [b, c] = false := by with_unfolding_all rfl) : Pu X (.Compare a [op, op'] [b, c] pos) τ (.bl (s && t)) := fun H0 G H σ k Q q =>
  We.of (pe_chain ho ho' pe_we pe_we pe_we hm) (ha H0 G H σ k _ fun v G1 H1 g1 r1 => hb H0 G1 H1 σ (k.gr g1) _ fun u G2 H2 g2 r2 => hr v u G2 H2 g2.gh (r1.ex g2.gg) r2 _ fun w G3 H3 g3 r3 => by
    cases r3
    refine ⟨s, rfl, ?_⟩
    cases s with
    | false => exact q _ G3 H3 ((g1.trans g2).trans g3) (.bl _)
    | true => exact hc H0 G3 H3 σ (((k.gr g1).gr g2).gr g3) _ fun w4 G4 H4 g4 r4 => hr' u w4 G4 H4 g4.gh ((r2.ex g3.gg).ex g4.gg) r4 _ fun w5 G5 H5 g5 r5 => q w5 G5 H5 ((((g1.trans g2).trans g3).trans g4).trans g5) r5)
/-- a value that is a truth, as a test -/
theorem pt_pu {t : Bool} (h : Pu X e τ (.bl t)) (he : ∀ whole, isTrue e X.env whole = (do let v ← whole; standAt e.pos; holding [v] (truthy v)) := by intro _; rfl) : Pt X e τ t := fun H0 G H σ k Q q =>
  Wt.of (pt_val pe_we he) (h H0 G H σ k _ fun w G1 H1 g1 r1 => by
    cases r1
    exact ⟨t, rfl, q G1 H1 g1⟩)
theorem pt_not' {t : Bool} (h : Pt X a τ t) : Pt X (.UnaryOp .Not a pos) τ (!t) := fun H0 G H σ k Q q => Wt.of (pt_not pt_wt) (h H0 G H σ k _ fun G1 H1 g1 => q G1 H1 g1)
theorem pw_and1' {t : Bool} (h : Pt X a τ t) : Pw X (.BoolOp .And [a] pos) τ t := fun H0 G H σ k Q q => Ww.of (pw_and1 pt_wt) (h H0 G H σ k _ q)
theorem pw_or1' {t : Bool} (h : Pt X a τ t) : Pw X (.BoolOp .Or [a] pos) τ t := fun H0 G H σ k Q q => Ww.of (pw_or1 pt_wt) (h H0 G H σ k _ q)
theorem pw_and' {s t : Bool} (h : Pt X a τ s) (hr : s = true → Pw X (.BoolOp .And (b :: rest) pos) τ t) : Pw X (.BoolOp .And (a :: b :: rest) pos) τ (s && t) := fun H0 G H σ k Q q =>
  Ww.of (pw_and pt_wt pw_ww) (h H0 G H σ k _ fun G1 H1 g1 => by
    cases s with
    | true =>
      rw [if_pos rfl]
      exact hr rfl H0 G1 H1 σ (k.gr g1) _ fun G2 H2 g2 => q G2 H2 (g1.trans g2)
    | false =>
      rw [if_neg Bool.false_ne_true]
      exact q G1 H1 g1)
theorem pw_or' {s t : Bool} (h : Pt X a τ s) (hr : s = false → Pw X (.BoolOp .Or (b :: rest) pos) τ t) : Pw X (.BoolOp .Or (a :: b :: rest) pos) τ (s || t) := fun H0 G H σ k Q q =>
  Ww.of (pw_or pt_wt pw_ww) (h H0 G H σ k _ fun G1 H1 g1 => by
    cases s with
    | true =>
      rw [if_pos rfl]
      exact q G1 H1 g1
    | false =>
      rw [if_neg Bool.false_ne_true]
      exact hr rfl H0 G1 H1 σ (k.gr g1) _ fun G2 H2 g2 => q G2 H2 (g1.trans g2))
theorem pu_one {op : BoolOp} (h : Pu X a τ d) : Pu X (.BoolOp op [a] pos) τ d := fun H0 G H σ k Q q => We.of (pe_one pe_we) (h H0 G H σ k _ q)
theorem pu_and {s t : Bool} (h : Pu X a τ (.bl s)) (hr : s = true → Pu X (.BoolOp .And (b :: rest) pos) τ (.bl t)) : Pu X (.BoolOp .And (a :: b :: rest) pos) τ (.bl (s && t)) := fun H0 G H σ k Q q =>
  We.of (pe_and pe_we pe_we) (h H0 G H σ k _ fun w G1 H1 g1 r1 => by
    cases r1
    refine ⟨s, rfl, ?_⟩
    cases s with
    | true =>
      rw [if_pos rfl]
      exact hr rfl H0 G1 H1 σ (k.gr g1) _ fun w2 G2 H2 g2 r2 => q w2 G2 H2 (g1.trans g2) r2
    | false =>
      rw [if_neg Bool.false_ne_true]
      exact q _ G1 H1 g1 (.bl _))
theorem pu_or {s t : Bool} (h : Pu X a τ (.bl s)) (hr : s = false → Pu X (.BoolOp .Or (b :: rest) pos) τ (.bl t)) : Pu X (.BoolOp .Or (a :: b :: rest) pos) τ (.bl (s || t)) := fun H0 G H σ k Q q =>
  We.of (pe_or pe_we pe_we) (h H0 G H σ k _ fun w G1 H1 g1 r1 => by
    cases r1
    refine ⟨s, rfl, ?_⟩
    cases s with
    | true =>
      rw [if_pos rfl]
      exact q _ G1 H1 g1 (.bl _)
    | false =>
      rw [if_neg Bool.false_ne_true]
      exact hr rfl H0 G1 H1 σ (k.gr g1) _ fun w2 G2 H2 g2 r2 => q w2 G2 H2 (g1.trans g2) r2)
theorem pu_not {s : Bool} (h : Pu X a τ (.bl s)) : Pu X (.UnaryOp .Not a pos) τ (.bl (!s)) := fun H0 G H σ k Q q =>
  We.of (pe_not pe_we) (h H0 G H σ k _ fun w G1 H1 g1 r1 => by
    cases r1
    exact ⟨s, rfl, q _ G1 H1 g1 (.bl _)⟩)
theorem pu_ifExp {t : Bool} (hc : Pt X c τ t) (h1 : t = true → Pu X a τ d) (h2 : t = false → Pu X b τ d) : Pu X (.IfExp c a b pos) τ d := fun H0 G H σ k Q q =>
  We.of (pe_ifExp pt_wt pe_we pe_we) (hc H0 G H σ k _ fun G1 H1 g1 => by
    cases t with
    | true =>
      rw [if_pos rfl]
      exact h1 rfl H0 G1 H1 σ (k.gr g1) _ fun w2 G2 H2 g2 r2 => q w2 G2 H2 (g1.trans g2) r2
    | false =>
      rw [if_neg Bool.false_ne_true]
      exact h2 rfl H0 G1 H1 σ (k.gr g1) _ fun w2 G2 H2 g2 r2 => q w2 G2 H2 (g1.trans g2) r2)
def noStar : Expr → Bool
  | .Starred _ _ => false
  | _ => true
theorem star_cons {e : Expr} {es : List Expr} {env : Env} (h : noStar e = true) : starEach (e :: es) env = (false, eval e env) :: starEach es env := by
  cases e <;> first | rfl | cases h
theorem pas_nil : Pa X [] τ [] := fun H0 G H σ k Q q => Wa.of pa_nil (q [] G H (.refl k.ex) .nil)
theorem pas_cons {ds : List D} (h : Pu X e τ d) (hr : Pa X es τ ds) (hs : noStar e = true := by rfl) : Pa X (e :: es) τ (d :: ds) := fun H0 G H σ k Q q =>
  Wa.of (pa_cons pe_we pa_wa (star_cons hs)) (h H0 G H σ k _ fun v G1 H1 g1 r1 => hr H0 G1 H1 σ (k.gr g1) _ fun vs G2 H2 g2 r2 => q _ G2 H2 (g1.trans g2) (.cons (r1.ex g2.gg) r2))
theorem sl1000 {n : Nat} (h : n ≤ 1000) : n ≤ sizeLine := Nat.le_trans h (by decide)
theorem pu_tup {ds : List D} {x1} (h : Pa X es τ ds) (hl : ds.length ≤ 1000 := by simp) : Pu X (.Tuple es x1 pos) τ (.tup ds) := fun H0 G H σ k Q q =>
  We.of (pe_tup pa_wa) (h H0 G H σ k _ fun vs G1 H1 g1 r1 => ⟨sl1000 (by rw [r1.length]; exact hl), fun p hp => q _ _ _ (g1.trans (.new g1.gh hp)) (.tup upd_same (r1.ex (.new (g1.gh.back hp))))⟩)
theorem nu_lst {ds : List D} (h : Pa X es τ ds) (hl : ds.length ≤ 1000 := by simp) : Nu X (.List es pos) τ ds := fun H0 G H σ k Q q =>
  We.of (pe_lst pa_wa) (h H0 G H σ k _ fun vs G1 H1 g1 r1 => ⟨sl1000 (by rw [r1.length]; exact hl), fun p hp => q _ _ _ _ (g1.trans (.newO g1.gh hp)) (g1.gh.back hp) (g1.ex.back hp) upd_same r1⟩)
def DCall (r : List V → Hp → VK → Prop) (ds : List D) (d : D) : Prop := ∀ vs G H, Ex G H → RpA G vs ds → ∀ Q : VK, (∀ w G' H', Gr m0 G H G' H' → Rp G' w d → Q w H') → r vs H Q
def DCallN (r : List V → Hp → VK → Prop) (ds es : List D) : Prop := ∀ vs G H, Ex G H → RpA G vs ds → ∀ Q : VK, (∀ p us, H p = none → RpA G us es → Q (.ref p) (upd H p (.lst us))) → r vs H Q
variable {ds : List D} {n : Str} {id T : String} {r : List V → Hp → VK → Prop} {p : Pos}
theorem plain_args {es : List Expr} {env : Env} (h : es.all noStar = true) : (backTo pos (starEach es env)).any (·.1) = false := by
  induction es with
  | nil => rfl
  | cons e es ih =>
    rw [List.all_cons, Bool.and_eq_true] at h
    rw [star_cons h.1]
    have := ih h.2
    show (false || (backTo pos (starEach es env)).any (·.1)) = false
    rw [this]; rfl
theorem pu_callB (hc : CallR X (.builtin id) r) (hr : DCall r ds d) (hm : X.mg n = none) (ha : Pa X (e :: es) τ ds) (hv : bootBuiltins n = some (.builtin id) := by decide +kernel) (hg : Gl X n := by rfl) (hn : n ≠ "__name__" := by decide) (hdb : (n == ("__debug__" : Str)) = false := by decide)
    (hs : (e :: es).all noStar = true := by rfl) : Pu X (.Call (.Name n p) (e :: es) [] pos) τ d := fun H0 G H σ k Q q => by
  have hs' : noStar e = true ∧ es.all noStar = true := by rwa [List.all_cons, Bool.and_eq_true] at hs
  exact We.of (pe_callB hc hg hm hv pa_wa hn hdb (star_cons hs'.1) (plain_args hs'.2)) (ha H0 G H σ k _ fun vs G1 H1 g1 r1 => hr vs G1 H1 g1.gh r1 Q fun w G2 H2 g2 r2 => q w G2 H2 (g1.trans g2) r2)
theorem nu_callB {us : List D} (hc : CallR X (.builtin id) r) (hr : DCallN r ds us) (hm : X.mg n = none) (ha : Pa X (e :: es) τ ds) (hv : bootBuiltins n = some (.builtin id) := by decide +kernel) (hg : Gl X n := by rfl) (hn : n ≠ "__name__" := by decide) (hdb : (n == ("__debug__" : Str)) = false := by decide)
    (hs : (e :: es).all noStar = true := by rfl) : Nu X (.Call (.Name n p) (e :: es) [] pos) τ us := fun H0 G H σ k Q q => by
  have hs' : noStar e = true ∧ es.all noStar = true := by rwa [List.all_cons, Bool.and_eq_true] at hs
  exact We.of (pe_callB hc hg hm hv pa_wa hn hdb (star_cons hs'.1) (plain_args hs'.2)) (ha H0 G H σ k _ fun vs G1 H1 g1 r1 => hr vs G1 H1 g1.gh r1 Q fun p us n r2 => q p us G1 _ (g1.trans (.newO g1.gh n)) (g1.gh.back n) (g1.ex.back n) upd_same r2)
theorem pu_callTy (hc : CallR X (.type T) r) (hr : DCall r ds d) (hm : X.mg n = none) (ha : Pa X (e :: es) τ ds) (hv : bootBuiltins n = some (.type T) := by decide +kernel) (hg : Gl X n := by rfl) (hn : n ≠ "__name__" := by decide) (hdb : (n == ("__debug__" : Str)) = false := by decide)
    (hs : (e :: es).all noStar = true := by rfl) : Pu X (.Call (.Name n p) (e :: es) [] pos) τ d := fun H0 G H σ k Q q => by
  have hs' : noStar e = true ∧ es.all noStar = true := by rwa [List.all_cons, Bool.and_eq_true] at hs
  exact We.of (pe_callTy hc hg hm hv pa_wa hn hdb (star_cons hs'.1) (plain_args hs'.2)) (ha H0 G H σ k _ fun vs G1 H1 g1 r1 => hr vs G1 H1 g1.gh r1 Q fun w G2 H2 g2 r2 => q w G2 H2 (g1.trans g2) r2)
theorem nu_callTy {us : List D} (hc : CallR X (.type T) r) (hr : DCallN r ds us) (hm : X.mg n = none) (ha : Pa X (e :: es) τ ds) (hv : bootBuiltins n = some (.type T) := by decide +kernel) (hg : Gl X n := by rfl) (hn : n ≠ "__name__" := by decide) (hdb : (n == ("__debug__" : Str)) = false := by decide)
    (hs : (e :: es).all noStar = true := by rfl) : Nu X (.Call (.Name n p) (e :: es) [] pos) τ us := fun H0 G H σ k Q q => by
  have hs' : noStar e = true ∧ es.all noStar = true := by rwa [List.all_cons, Bool.and_eq_true] at hs
  exact We.of (pe_callTy hc hg hm hv pa_wa hn hdb (star_cons hs'.1) (plain_args hs'.2)) (ha H0 G H σ k _ fun vs G1 H1 g1 r1 => hr vs G1 H1 g1.gh r1 Q fun p us n r2 => q p us G1 _ (g1.trans (.newO g1.gh n)) (g1.gh.back n) (g1.ex.back n) upd_same r2)
/-- the promise of a def that tells data of data -/
def spP (R : List D → D → Prop) : Sp := fun vs H Q _ => ∃ G ds d, Ex G H ∧ RpA G vs ds ∧ R ds d ∧ ∀ v G' H', Gr m0 G H G' H' → Rp G' v d → Q v H'
/-- a def that stands under a module's name -/
structure Cal (P : Program) (w : World) (K : PySem.W.Frag) (mg : Str → Option Value) (base : Heap) (CX : CXT) (k : Nat) (x : Str) (sp : Sp) : Prop where
  ex : ∃ f fd ps, FnOk P w K mg base CX k f fd ps sp ∧ mg x = some (.ref f) ∧ PySem.W.keepIn K (.ref f) = true ∧ Binds K fd ps []
theorem pu_call {R : List D → D → Prop} {j k : Nat} (C : Cal X.prog X.w X.K X.mg X.base CX0 j n (spP R)) (hr : Room k X.A) (hR : R ds d) (ha : Pa X (e :: es) τ ds) (hj : j ≤ k := by decide) (hg : Gl X n := by rfl) (hdb : (n == ("__debug__" : Str)) = false := by decide)
    (hs : (e :: es).all noStar = true := by rfl) : Pu X (.Call (.Name n p) (e :: es) [] pos) τ d := fun H0 G H σ ok Q q => by
  have hs' : noStar e = true ∧ es.all noStar = true := by rwa [List.all_cons, Bool.and_eq_true] at hs
  obtain ⟨f, fd, ps, F, hm, hk, hb⟩ := C.ex
  refine We.of (pe_call F (hr.mono hj) hg hm hk hb .nil pass0 pa_wa hdb (star_cons hs'.1) (plain_args hs'.2)) (ha H0 G H σ ok _ fun vs G1 H1 g1 r1 => ?_)
  show spP R (vs ++ []) H1 Q E0
  rw [List.append_nil]
  exact ⟨G1, ds, d, g1.gh, r1, hR, fun v G2 H2 g2 r2 => q v G2 H2 (g1.trans g2) r2⟩
theorem pu_fld {C : Addr} {f : Str} {fs : List (Str × D)} (c : Cls X.K C) (na : NoAttr X.K C f) (h : Pu X e τ (.ins C fs)) (hl : fs.lookup f = some d) (hb : attributeBase e f X.env (eval e X.env) = eval e X.env := by rfl) : Pu X (.Attribute e f pos) τ d := fun H0 G H σ k Q q =>
  We.of (pe_fld pe_we hb) (h H0 G H σ k _ fun v G1 H1 g1 r1 => by
    cases r1 with
    | ins h1 h2 =>
      obtain ⟨u, h3, h4⟩ := h2.look hl
      exact ⟨_, C, _, _, u, rfl, g1.gh _ _ h1, c, na, h3, q u G1 H1 g1 h4⟩)
end
end R87
namespace R87
open PySem PySem.Spec PyProof.Rows L2
/-- what is wanted behind a block, of the slots, of the data told -/
structure AE where
  nx : List Sl → Prop
  rt : D → List Sl → Prop
  bk : List Sl → Prop := fun _ => False
  ct : List Sl → Prop := fun _ => False
/-- the same of the heap, from the entry at G0, H0 -/
def Cn (m : Addr → Prop) (G0 H0 : Hp) (N : AE) : Ends where
  nx := fun σ H => ∃ τ G, Gr m G0 H0 G H ∧ Ok H0 G H τ σ ∧ N.nx τ
  rt := fun v H => ∃ d τ G σ, Gr m G0 H0 G H ∧ Ok H0 G H τ σ ∧ Rp G v d ∧ N.rt d τ
  bk := fun σ H => ∃ τ G, Gr m G0 H0 G H ∧ Ok H0 G H τ σ ∧ N.bk τ
  ct := fun σ H => ∃ τ G, Gr m G0 H0 G H ∧ Ok H0 G H τ σ ∧ N.ct τ
def AB (X : Cx) (m : Addr → Prop) (sts : List Stmt) (τ : List Sl) (N : AE) : Prop := ∀ (G0 H0 G H : Hp) (σ : L2.St), Gr m G0 H0 G H → Ok H0 G H τ σ → Wb X sts (Cn m G0 H0 N) σ H
def AS (X : Cx) (m : Addr → Prop) (st : Stmt) (τ : List Sl) (N : AE) : Prop := ∀ (G0 H0 G H : Hp) (σ : L2.St), Gr m G0 H0 G H → Ok H0 G H τ σ → Ws X st (Cn m G0 H0 N) σ H
theorem Gr.shift {m : Addr → Prop} {G0 H0 G1 H1 G' H' : Hp} (g : Gr m G0 H0 G1 H1) (h : Gr m G1 H0 G' H') : Gr m G0 H0 G' H' :=
  ⟨g.gg.trans h.gg, h.hh, h.gh, fun a q n => h.fr a (g.fr a q n) n, h.th⟩
section
variable {X : Cx} {m : Addr → Prop} {st : Stmt} {rest : List Stmt} {τ τ' : List Sl} {N N' : AE} {e : Expr} {d : D} {ds : List D} {pos : Pos}
theorem sp_mono {pins : List (Addr × Obj)} {D D' : Ends} {f : Flow} {s : Shared} (h : SP X pins D f s) (h1 : ∀ σ H, D.nx σ H → D'.nx σ H) (h2 : ∀ v H, D.rt v H → D'.rt v H) (h3 : ∀ σ H, D.bk σ H → D'.bk σ H) (h4 : ∀ σ H, D.ct σ H → D'.ct σ H) : SP X pins D' f s := by
  cases f with
  | next => obtain ⟨σ', H', I, q⟩ := h; exact ⟨σ', H', I, h1 _ _ q⟩
  | brk => obtain ⟨σ', H', I, q⟩ := h; exact ⟨σ', H', I, h3 _ _ q⟩
  | cont => obtain ⟨σ', H', I, q⟩ := h; exact ⟨σ', H', I, h4 _ _ q⟩
  | ret u => obtain ⟨v, σ', H', I, r, q⟩ := h; exact ⟨v, σ', H', I, r, h2 _ _ q⟩
theorem AE.up (h1 : ∀ t, N.nx t → N'.nx t) (h2 : ∀ d t, N.rt d t → N'.rt d t) (h3 : ∀ t, N.bk t → N'.bk t) (h4 : ∀ t, N.ct t → N'.ct t) {G0 H0 : Hp} :
    (∀ σ H, (Cn m G0 H0 N).nx σ H → (Cn m G0 H0 N').nx σ H) ∧ (∀ v H, (Cn m G0 H0 N).rt v H → (Cn m G0 H0 N').rt v H) ∧ (∀ σ H, (Cn m G0 H0 N).bk σ H → (Cn m G0 H0 N').bk σ H) ∧ (∀ σ H, (Cn m G0 H0 N).ct σ H → (Cn m G0 H0 N').ct σ H) :=
  ⟨fun _ _ ⟨t, G, a, b, c⟩ => ⟨t, G, a, b, h1 t c⟩, fun _ _ ⟨d, t, G, σ, a, b, r, c⟩ => ⟨d, t, G, σ, a, b, r, h2 d t c⟩, fun _ _ ⟨t, G, a, b, c⟩ => ⟨t, G, a, b, h3 t c⟩, fun _ _ ⟨t, G, a, b, c⟩ => ⟨t, G, a, b, h4 t c⟩⟩
theorem AB.mono {sts : List Stmt} (h : AB X m sts τ N) (h1 : ∀ t, N.nx t → N'.nx t) (h2 : ∀ d t, N.rt d t → N'.rt d t) (h3 : ∀ t, N.bk t → N'.bk t) (h4 : ∀ t, N.ct t → N'.ct t) : AB X m sts τ N' := fun G0 H0 G H σ g k =>
  let ⟨a, b, c, d⟩ := AE.up (m := m) (N := N) (N' := N') h1 h2 h3 h4 (G0 := G0) (H0 := H0)
  ⟨fun pins s I => thn (h G0 H0 G H σ g k pins s I) fun f s1 q => sp_mono q a b c d⟩
theorem AB.le {sts : List Stmt} (h : AB X m sts τ N) (l : Le τ τ') : AB X m sts τ' N := fun G0 H0 G H σ g k => h G0 H0 G H σ g (k.le l)
theorem ab_nil (h : N.nx τ) : AB X m [] τ N := fun G0 H0 G H σ g k => Wb.of pss_nil ⟨τ, G, g, k, h⟩
theorem ab_cons (Mid : List Sl → Prop) (h1 : AS X m st τ { N with nx := Mid }) (h2 : ∀ τ', Mid τ' → AB X m rest τ' N) : AB X m (st :: rest) τ N := fun G0 H0 G H σ g k =>
  Wb.of (pss_cons ps_ws pss_wb) ⟨fun pins s I => thn (h1 G0 H0 G H σ g k pins s I) fun f s1 q => sp_mono q (fun σ' H' ⟨t, G', a, b, c⟩ => h2 t c G0 H0 G' H' σ' a b) (fun _ _ z => z) (fun _ _ z => z) (fun _ _ z => z)⟩
theorem ab_one (h1 : AS X m st τ N) : AB X m [st] τ N := fun G0 H0 G H σ g k => Wb.of (pss_one ps_ws) (h1 G0 H0 G H σ g k)
/-- a statement that leads to one state -/
theorem ab_then (h1 : ∀ N' : AE, N'.nx τ' → AS X m st τ N') (h2 : AB X m rest τ' N) : AB X m (st :: rest) τ N :=
  ab_cons (fun t => t = τ') (h1 _ rfl) fun _ e => by rw [e]; exact h2
/-- an owned list is handed out (shared) from here on -/
theorem ab_share (i : Nat) {sts : List Stmt} (h : τ[i]? = some (Sl.ow ds)) (h2 : AB X m sts (τ.set i (.sh (.lst ds))) N) : AB X m sts τ N := fun G0 H0 G H σ g k =>
  let ⟨G', g', k'⟩ := k.share g h
  h2 G0 H0 G' H σ g' k'
theorem ab_forget (i : Nat) {sts : List Stmt} (h2 : AB X m sts (τ.set i .no) N) : AB X m sts τ N := AB.le h2 (by
  have key : ∀ (l : List Sl) (i : Nat), Le (l.set i .no) l := by
    intro l
    induction l with
    | nil => intro i; exact .nil
    | cons x l ih => intro i; cases i with
      | zero => exact .no (Le.refl l)
      | succ i => exact .eq (ih i)
  exact key τ i)
theorem ab_ret (h : Pu X e τ d) (q : N.rt d τ) : AB X m (.Return (some e) pos :: rest) τ N := fun G0 H0 G H σ g k =>
  Wb.of (pss_cons (ps_ret pe_we) pss_wb) (h H0 G H σ k _ fun v G1 H1 g1 r1 => ⟨d, τ, G1, σ, g.trans g1.any, k.gr g1, r1, q⟩)
theorem ab_retN (q : N.rt .non τ) : AB X m (.Return none pos :: rest) τ N := fun G0 H0 G H σ g k =>
  Wb.of (pss_cons ps_retN pss_wb) ⟨.non, τ, G, σ, g, k, .non, q⟩
section
variable {n : Str} {p : Pos}
theorem ab_set (i : Nat) (h : Pu X e τ d) (h2 : AB X m rest (τ.set i (.sh d)) N) (hN : X.N.Nodup := by assumption) (hi : X.N[i]? = some n := by rfl) (hx : Loc X.env.scope n := by first | exact Or.inl rfl | exact Or.inr rfl) (hs : swapsWith e (some (.Name n p)) pos.line X.env = pure false := by rfl)
    (hf : X.fn n = true ∨ X.env.scope.names.lookup n = some .local := by first | exact .inl rfl | exact .inr rfl) : AB X m (.Assign [.Name n p] e pos :: rest) τ N := fun G0 H0 G H σ g k =>
  Wb.of (pss_cons (ps_set hN hi hx pe_we hs hf) pss_wb) (h H0 G H σ k _ fun v G1 H1 g1 r1 => h2 G0 H0 G1 H1 _ (g.trans g1.any) ((k.gr g1).setSh r1))
theorem ab_setO (i : Nat) (h : Nu X e τ ds) (h2 : AB X m rest (τ.set i (.ow ds)) N) (hN : X.N.Nodup := by assumption) (hi : X.N[i]? = some n := by rfl) (hx : Loc X.env.scope n := by first | exact Or.inl rfl | exact Or.inr rfl) (hs : swapsWith e (some (.Name n p)) pos.line X.env = pure false := by rfl)
    (hf : X.fn n = true ∨ X.env.scope.names.lookup n = some .local := by first | exact .inl rfl | exact .inr rfl) : AB X m (.Assign [.Name n p] e pos :: rest) τ N := fun G0 H0 G H σ g k =>
  Wb.of (pss_cons (ps_set hN hi hx pe_we hs hf) pss_wb) (h H0 G H σ k _ fun q vs G1 H1 g1 h1 h3 h4 r1 => by
    have h0 : H0 q = none := by
      cases z : H0 q with
      | none => rfl
      | some u => exact absurd h3 (g.th q (by rw [z]; exact fun z => by cases z))
    refine h2 G0 H0 G1 H1 _ (g.trans g1.any) ((k.gr g1).setOw h4 h1 h0 r1 (fun j es hj he hq => ?_) fun j n e => (k.sr j q n e).2.2.ne h3)
    obtain ⟨p', vs', a, b, _⟩ := k.ow j es he
    rw [hq] at a; cases a
    rw [h3] at b; cases b)
theorem ab_expr (h : Pu X e τ d) (h2 : AB X m rest τ N) (hs : swapsWith e none pos.line X.env = pure false := by rfl) : AB X m (.Expr e pos :: rest) τ N := fun G0 H0 G H σ g k =>
  Wb.of (pss_cons (ps_expr pe_we hs) pss_wb) (h H0 G H σ k _ fun v G1 H1 g1 r1 => h2 G0 H0 G1 H1 _ (g.trans g1.any) (k.gr g1))
/-- x.append(e), x an owned list -/
theorem ab_append (i : Nat) {es : List D} {p2 p3 : Pos} (hs : τ[i]? = some (Sl.ow es)) (h : Pu X e τ d) (h2 : AB X m rest (τ.set i (.ow (es ++ [d]))) N) (hl : es.length < 1000 := by first | assumption | (simp; done) | omega)
    (hN : X.N[i]? = some n := by rfl) (hv : Vis X.env.scope n := by first | exact Or.inl rfl | exact Or.inr (Or.inl rfl) | exact Or.inr (Or.inr rfl)) (hd : (n == ("__debug__" : Str)) = false := by decide) (hcd : (n == ("__classdict__" : Str)) = false := by decide)
    (hst : noStar e = true := by rfl)
    (he : PE X (.Call (.Attribute (.Name n p) "append" p2) [e] [] p3) (tBM X.K "list" rAppend (tVar i) (tCons (We X e) tNil)) := by exact pe_bm PySem.F.plainAttrs_list PySem.F.slot_list_append PySem.F.type_list_append mt_append (pv _) (pa_cons pe_we pa_nil))
    (hsw : swapsWith (.Call (.Attribute (.Name n p) "append" p2) [e] [] p3) none pos.line X.env = pure false := by rfl) :
    AB X m (.Expr (.Call (.Attribute (.Name n p) "append" p2) [e] [] p3) pos :: rest) τ N := fun G0 H0 G H σ g k => by
  obtain ⟨q, vs, h1, h3, h4, h5, r⟩ := k.ow i es hs
  refine Wb.of (pss_cons (ps_expr he hsw) pss_wb) ⟨_, h1, Or.inl ⟨rfl, _, SqL.of h3⟩, ?_⟩
  show We X e σ H (fun x H1 => rAppend (V.ref q) [x] H1 fun _ H2 => Wb X rest (Cn m G0 H0 N) σ H2)
  refine h H0 G H σ k _ fun v G1 H1 g1 r1 => ⟨q, vs, v, rfl, rfl, g1.ex _ _ h3, ?_, ?_⟩
  · rw [r.length]; exact Nat.lt_of_lt_of_le hl (by decide)
  · have k1 := k.gr g1
    obtain ⟨g2, k2⟩ := k1.change (g.trans g1.any) hs h1 ((r.ex g1.gg).append (.one r1))
    exact h2 G0 H0 G1 _ σ g2 k2
/-- x.extend(e) -/
theorem ab_extend (i : Nat) {es fs : List D} {p2 p3 : Pos} (hs : τ[i]? = some (Sl.ow es)) (h : Nu X e τ fs) (h2 : AB X m rest (τ.set i (.ow (es ++ fs))) N) (hl : es.length + fs.length ≤ 1000 := by first | assumption | (simp; done) | omega)
    (hN : X.N[i]? = some n := by rfl) (hv : Vis X.env.scope n := by first | exact Or.inl rfl | exact Or.inr (Or.inl rfl) | exact Or.inr (Or.inr rfl)) (hd : (n == ("__debug__" : Str)) = false := by decide) (hcd : (n == ("__classdict__" : Str)) = false := by decide)
    (he : PE X (.Call (.Attribute (.Name n p) "extend" p2) [e] [] p3) (tBM X.K "list" rExtend (tVar i) (tCons (We X e) tNil)) := by exact pe_bm PySem.F.plainAttrs_list PySem.F.slot_list_extend PySem.F.type_list_extend mt_extend (pv _) (pa_cons pe_we pa_nil))
    (hsw : swapsWith (.Call (.Attribute (.Name n p) "extend" p2) [e] [] p3) none pos.line X.env = pure false := by rfl) :
    AB X m (.Expr (.Call (.Attribute (.Name n p) "extend" p2) [e] [] p3) pos :: rest) τ N := fun G0 H0 G H σ g k => by
  obtain ⟨q, vs, h1, h3, h4, h5, r⟩ := k.ow i es hs
  refine Wb.of (pss_cons (ps_expr he hsw) pss_wb) ⟨_, h1, Or.inl ⟨rfl, _, SqL.of h3⟩, ?_⟩
  show We X e σ H (fun x H1 => rExtend (V.ref q) [x] H1 fun _ H2 => Wb X rest (Cn m G0 H0 N) σ H2)
  refine h H0 G H σ k _ fun b us G1 H1 g1 a1 a2 a3 r1 => ⟨q, b, vs, us, rfl, rfl, g1.ex _ _ h3, a3, ?_, ?_⟩
  · rw [r.length, r1.length]; exact sl1000 hl
  · have k1 := k.gr g1
    obtain ⟨g2, k2⟩ := k1.change (g.trans g1.any) hs h1 ((r.ex g1.gg).append r1)
    exact h2 G0 H0 G1 _ σ g2 k2
end
theorem ab_if {c : Expr} {a b : List Stmt} {t : Bool} (hc : Pt X c τ t) (h1 : t = true → AB X m (a ++ []) τ { N with nx := fun t => AB X m rest t N }) (h2 : t = false → AB X m b τ { N with nx := fun t => AB X m rest t N }) : AB X m (.If c a b pos :: rest) τ N := fun G0 H0 G H σ g k => by
  refine Wb.of (pss_cons (ps_if pt_wt pss_wb pss_wb) pss_wb) (hc H0 G H σ k _ fun G1 H1 g1 => ?_)
  have up : ∀ {sts : List Stmt}, AB X m sts τ { N with nx := fun t => AB X m rest t N } → Wb X sts { Cn m G0 H0 N with nx := Wb X rest (Cn m G0 H0 N) } σ H1 := fun {sts} h =>
    ⟨fun pins s I => thn (h G0 H0 G1 H1 σ (g.trans g1.any) (k.gr g1) pins s I) fun f s1 q => sp_mono q (fun σ' H' ⟨t, G', x, y, z⟩ => z G0 H0 G' H' σ' x y) (fun _ _ z => z) (fun _ _ z => z) (fun _ _ z => z)⟩
  cases t with
  | true =>
    rw [if_pos rfl]
    have := h1 rfl
    rw [List.append_nil] at this
    exact up this
  | false =>
    rw [if_neg Bool.false_ne_true]
    exact up (h2 rfl)
/-- if c: return .. / raise ..: never -/
theorem ab_ifF {c : Expr} {a : List Stmt} (hc : Pt X c τ false) (h : AB X m rest τ N) : AB X m (.If c a [] pos :: rest) τ N := ab_if hc (fun z => by cases z) fun _ => ab_nil h
theorem ab_never {sts : List Stmt} (h : False) : AB X m sts τ N := h.elim
/-- a target takes data: the slots from τ to τ1; is: the slots that it stores -/
def Tg (X : Cx) (tg : Expr) (d : D) (τ τ1 : List Sl) (is : List Nat) : Prop := ∀ (H0 G H : Hp) (σ : L2.St) (v : V), Ok H0 G H τ σ → Rp G v d → ∀ Q : L2.St → Hp → Prop, (∀ σ', Ok H0 G H τ1 σ' → σ'.length = σ.length → (∀ j, j ∉ is → σ'[j]? = σ[j]?) → Q σ' H) → Wg X tg v σ H Q
def Tgs (X : Cx) (tgs : List Expr) (ds : List D) (τ τ1 : List Sl) (is : List Nat) : Prop := ∀ (H0 G H : Hp) (σ : L2.St) (vs : List V), Ok H0 G H τ σ → RpA G vs ds → ∀ Q : L2.St → Hp → Prop, (∀ σ', Ok H0 G H τ1 σ' → σ'.length = σ.length → (∀ j, j ∉ is → σ'[j]? = σ[j]?) → Q σ' H) →
  ∀ pins s us, Inv X pins σ H s → Vals vs us → wpAny (model X.prog X.w) X.A (assignInOrder ((assignEach tgs X.env).map (·.2)) us) (fun _ s' => ∃ σ' H', Inv X pins σ' H' s' ∧ Q σ' H') X.xe s
theorem tg_name (i : Nat) {n : Str} (hN : X.N.Nodup := by assumption) (hi : X.N[i]? = some n := by rfl) (hx : Loc X.env.scope n := by first | exact Or.inl rfl | exact Or.inr rfl) (hf : X.fn n = true ∨ X.env.scope.names.lookup n = some .local := by first | exact .inl rfl | exact .inr rfl) :
    Tg X (.Name n pos) d τ (τ.set i (.sh d)) [i] := fun H0 G H σ v k r Q q => Wg.of (pg_name hN hi hx hf) (q _ (k.setSh r) (List.length_set ..) fun j hj => List.getElem?_set_ne (fun z => hj (by simp [z])))
theorem tgs_nil : Tgs X [] [] τ τ [] := fun H0 G H σ vs k r Q q pins s us I rv => by
  cases r
  exact pgs_nil.run pins s σ H [] us Q I rv ⟨rfl, q σ k rfl fun _ _ => rfl⟩
theorem asg_cons {e : Expr} {es : List Expr} {env : Env} (h : noStar e = true) : (assignEach (e :: es) env).map (·.2) = assign e env :: (assignEach es env).map (·.2) := by
  cases e <;> first | rfl | cases h
theorem tgs_cons {e : Expr} {es : List Expr} {τ1 τ2 : List Sl} {is js : List Nat} (h1 : Tg X e d τ τ1 is) (h2 : Tgs X es ds τ1 τ2 js) (hs : noStar e = true := by rfl) : Tgs X (e :: es) (d :: ds) τ τ2 (is ++ js) := fun H0 G H σ vs k r Q q pins s us I rv => by
  cases r with
  | cons r1 r2 =>
    cases rv with
    | cons rv1 rv2 =>
      rw [asg_cons hs]
      refine assignInOrder_cons (thn (h1 H0 G H σ _ k r1 (fun σ1 H1 => H1 = H ∧ Ok H0 G H τ1 σ1 ∧ σ1.length = σ.length ∧ ∀ j, j ∉ is → σ1[j]? = σ[j]?) (fun σ1 k1 l1 f1 => ⟨rfl, k1, l1, f1⟩) pins s _ I rv1) fun _ s1 ⟨σ1, H1, I1, e1, k1, l1, f1⟩ => ?_)
      subst e1
      exact h2 H0 G H1 σ1 _ k1 r2 Q (fun σ2 k2 l2 f2 => q σ2 k2 (l2.trans l1) fun j hj => (f2 j fun z => hj (List.mem_append_right _ z)).trans (f1 j fun z => hj (List.mem_append_left _ z))) pins s1 _ I1 rv2
theorem asg_len {es : List Expr} {env : Env} (h : es.all noStar = true) : (assignEach es env).length = es.length ∧ (assignEach es env).findIdx? (·.1) = none := by
  induction es with
  | nil => exact ⟨rfl, rfl⟩
  | cons e es ih =>
    rw [List.all_cons, Bool.and_eq_true] at h
    have e1 : assignEach (e :: es) env = (false, assign e env) :: assignEach es env := by
      have h1 := h.1
      cases e <;> first | rfl | cases h1
    obtain ⟨a, b⟩ := ih h.2
    rw [e1]
    refine ⟨by rw [List.length_cons, a]; rfl, ?_⟩
    rw [List.findIdx?_cons]
    show (if false = true then _ else _) = none
    rw [if_neg Bool.false_ne_true, b]; rfl
theorem tg_tup {es : List Expr} {k0 : Nat} {τ1 : List Sl} {is : List Nat} (h : Tgs X es ds τ τ1 is) (hc : X.calm = true := by rfl) (hl : ds.length = es.length := by rfl) (hs : es.all noStar = true := by rfl) : Tg X (.Tuple es k0 pos) (.tup ds) τ τ1 is := fun H0 G H σ v k r Q q => by
  cases r with
  | tup h1 r1 =>
    obtain ⟨l1, l2⟩ := asg_len (env := X.env) hs
    refine Wg.of (pg_tup (n := es.length) (t := fun xs σ H Q => ∃ G, ∃ H0, Ok H0 G H τ σ ∧ RpA G xs ds ∧ ∀ σ', Ok H0 G H τ1 σ' → σ'.length = σ.length → (∀ j, j ∉ is → σ'[j]? = σ[j]?) → Q σ' H) hc ⟨fun pins s σ H vs us Q I rv ⟨G, H0, a, b, c⟩ => h H0 G H σ vs a b Q c pins s us I rv⟩ l1 l2) ?_
    exact ⟨_, _, rfl, SqT.of (k.ex _ _ h1), by rw [r1.length]; exact hl, G, H0, k, r1, q⟩
/-- the same from a list -/
theorem tg_lst {es : List Expr} {k0 : Nat} {τ1 : List Sl} {is : List Nat} (h : Tgs X es ds τ τ1 is) (hc : X.calm = true := by rfl) (hl : ds.length = es.length := by rfl) (hs : es.all noStar = true := by rfl) : Tg X (.Tuple es k0 pos) (.lst ds) τ τ1 is := fun H0 G H σ v k r Q q => by
  cases r with
  | lst h1 r1 =>
    obtain ⟨l1, l2⟩ := asg_len (env := X.env) hs
    refine Wg.of (pg_lst (n := es.length) (t := fun xs σ H Q => ∃ G, ∃ H0, Ok H0 G H τ σ ∧ RpA G xs ds ∧ ∀ σ', Ok H0 G H τ1 σ' → σ'.length = σ.length → (∀ j, j ∉ is → σ'[j]? = σ[j]?) → Q σ' H) hc ⟨fun pins s σ H vs us Q I rv ⟨G, H0, a, b, c⟩ => h H0 G H σ vs a b Q c pins s us I rv⟩ l1 l2) ?_
    exact ⟨_, _, rfl, SqL.of (k.ex _ _ h1), by rw [r1.length]; exact hl, G, H0, k, r1, q⟩
/-- a, b = e -/
theorem ab_unpack {tg : Expr} {τ1 : List Sl} {is : List Nat} (h : Pu X e τ d) (ht : Tg X tg d τ τ1 is) (h2 : AB X m rest τ1 N) (hs : swapsWithSole [tg] e pos.line X.env = pure false := by rfl) (hw : swappedStores [tg] e X.env = pure none := by rfl)
    (h1 : (assignEach [tg] X.env).map (·.2) = [assign tg X.env] := by rfl) : AB X m (.Assign [tg] e pos :: rest) τ N := fun G0 H0 G H σ g k =>
  Wb.of (pss_cons (ps_asg pe_we pg_wg hs hw h1) pss_wb) (h H0 G H σ k _ fun v G1 H1 g1 r1 => ht H0 G1 H1 σ v (k.gr g1) r1 _ fun σ' k' _ _ => h2 G0 H0 G1 H1 σ' (g.trans g1.any) k')
/-- the iterator gives these data in turn, while G stands -/
structure ItD (J : It) (G : Hp) (ds : List D) : Prop where
  go : ∀ (i : Nat) (d : D) (G1 H1 : Hp), ds[i]? = some d → Ex G G1 → Ex G1 H1 → J.go i H1 ∧ ∀ x H2, J.yld i H1 x H2 → ∃ G2, Gr m0 G1 H1 G2 H2 ∧ Rp G2 x d
  stop : ∀ (G1 H1 : Hp), Ex G G1 → Ex G1 H1 → J.stop ds.length H1
def Pi (X : Cx) (tg e : Expr) (τ : List Sl) (ds : List D) : Prop := ∀ (H0 G H : Hp) (σ : L2.St), Ok H0 G H τ σ → ∀ R : It → Hp → Prop, (∀ J G' H', Gr m0 G H G' H' → ItD J G' ds → R J H') → Wi X tg e σ H R
theorem pi_lst {tg : Expr} (h : Pu X e τ (.lst ds)) : Pi X tg e τ ds := fun H0 G H σ k R q =>
  Wi.of (pi_list pe_we) (h H0 G H σ k _ fun v G1 H1 g1 r1 => by
    cases r1 with
    | lst h1 r1 =>
      refine ⟨_, rfl, ⟨_, SqL.of (g1.gh _ _ h1)⟩, q _ G1 H1 g1 ⟨fun i d G2 H2 hi e1 e2 => ?_, fun G2 H2 e1 e2 => ?_⟩⟩
      · obtain ⟨v, hv, rv⟩ := r1.get hi
        refine ⟨⟨_, v, SqL.of (e2 _ _ (e1 _ _ h1)), hv⟩, fun x H3 ⟨z, y⟩ => ?_⟩
        subst z
        have := y _ (SqL.of (e2 _ _ (e1 _ _ h1)))
        rw [hv] at this; cases this
        exact ⟨G2, .refl e2, rv.ex e1⟩
      · exact ⟨_, SqL.of (e2 _ _ (e1 _ _ h1)), Nat.le_of_eq r1.length⟩)
theorem pi_tupl {tg : Expr} (h : Pu X e τ (.tup ds)) : Pi X tg e τ ds := fun H0 G H σ k R q =>
  Wi.of (pi_tup pe_we) (h H0 G H σ k _ fun v G1 H1 g1 r1 => by
    cases r1 with
    | tup h1 r1 =>
      refine ⟨_, rfl, ⟨_, SqT.of (g1.gh _ _ h1)⟩, q _ G1 H1 g1 ⟨fun i d G2 H2 hi e1 e2 => ?_, fun G2 H2 e1 e2 => ?_⟩⟩
      · obtain ⟨v, hv, rv⟩ := r1.get hi
        refine ⟨⟨_, v, SqT.of (e2 _ _ (e1 _ _ h1)), hv⟩, fun x H3 ⟨z, y⟩ => ?_⟩
        subst z
        have := y _ (SqT.of (e2 _ _ (e1 _ _ h1)))
        rw [hv] at this; cases this
        exact ⟨G2, .refl e2, rv.ex e1⟩
      · exact ⟨_, SqT.of (e2 _ _ (e1 _ _ h1)), Nat.le_of_eq r1.length⟩)
/-- range(n) -/
theorem pi_rng {tg : Expr} {n : Nat} {p : Pos} (hm : X.mg "range" = none) (h : Pu X e τ (.int (n : Int))) (hl : n ≤ 1000 := by omega) (hg : Gl X "range" := by rfl) (hs : noStar e = true := by rfl) :
    Pi X tg (.Call (.Name "range" p) [e] [] pos) τ ((List.range n).map fun (i : Nat) => D.int (i : Int)) := fun H0 G H σ k R q =>
  Wi.of (pi_range1 hg hm (pa_cons pe_we pa_nil (star_cons hs)) (star_cons hs)) (h H0 G H σ k _ fun v G1 H1 g1 r1 => by
    cases r1
    refine ⟨(n : Int), rfl, by omega, by omega, q _ G1 H1 g1 ⟨fun i d G2 H2 hi e1 e2 => ?_, fun G2 H2 e1 e2 => ?_⟩⟩
    · rw [List.getElem?_map] at hi
      obtain ⟨j, hj, hd⟩ := Option.map_eq_some_iff.mp hi
      obtain ⟨hlt, hv⟩ := List.getElem?_eq_some_iff.mp hj
      rw [List.length_range] at hlt
      rw [List.getElem_range] at hv
      subst hv; subst hd
      refine ⟨by show i < _; omega, fun x H3 ⟨z, y⟩ => ?_⟩
      subst z
      subst y
      refine ⟨G2, .refl e2, ?_⟩
      rw [Int.zero_add]
      exact .int _
    · show _ ≤ _
      rw [List.length_map, List.length_range]; omega)
theorem ab_for {tg : Expr} {body : List Stmt} (I : Nat → List Sl) (hp : PassesOwn (model X.prog X.w) X.A X.env X.xe) (hi : Pi X tg e τ ds) (h0 : Le (I 0) τ)
    (hs : ∀ i d, ds[i]? = some d → ∃ τ1 is, Tg X tg d (I i) τ1 is ∧ AB X m body τ1 { N with nx := fun t => Le (I (i + 1)) t, ct := fun t => Le (I (i + 1)) t, bk := fun t => AB X m rest t N })
    (h2 : AB X m rest (I ds.length) N) (hc : X.calm = true := by rfl) (hfs : ∀ x, foldedSetIterable e X.env x = pure x := by intro _; rfl) : AB X m (.For tg e body [] pos :: rest) τ N := fun G0 H0 G H σ g k => by
  refine Wb.of (pss_cons (ps_for hp hc pi_wi pg_wg pss_wb hfs) pss_wb) (hi H0 G H σ k _ fun J G1 H1 g1 it => ?_)
  have gg := g.trans (g1.any (m := m))
  refine ⟨fun i mm σ' H' => mm = ds.length - i ∧ i ≤ ds.length ∧ ∃ G', Gr m G1 H0 G' H' ∧ Ok H0 G' H' (I i) σ', ⟨_, rfl, Nat.zero_le _, G1, ⟨.refl _, gg.hh, gg.gh, fun _ h _ => h, gg.th⟩, (k.gr g1).le h0⟩, ?_⟩
  rintro i mm σ2 H2 ⟨rfl, hle, G2, g2, k2⟩
  by_cases hlt : i < ds.length
  · obtain ⟨d, hd⟩ : ∃ d, ds[i]? = some d := ⟨_, List.getElem?_eq_getElem hlt⟩
    obtain ⟨a, b⟩ := it.go i d G2 H2 hd g2.gg k2.ex
    refine .inr ⟨a, fun σ' H' => ∃ G', Gr m G1 H0 G' H' ∧ Ok H0 G' H' (I (i + 1)) σ', fun σ' H' w => ⟨ds.length - (i + 1), by omega, rfl, hlt, w⟩, fun x H3 y => ?_⟩
    obtain ⟨G3, g3, r3⟩ := b x H3 y
    obtain ⟨τ1, is, ht, hb⟩ := hs i d hd
    refine ht H0 G3 H3 σ2 x (k2.gr g3) r3 _ fun σ4 k4 _ _ => ?_
    refine ⟨fun pins s I4 => ?_⟩
    refine thn (hb G1 H0 G3 H3 σ4 (g2.trans g3.any) k4 pins s I4) fun f s1 q => sp_mono q (fun σ' H' ⟨t, G', x, y, z⟩ => ⟨G', x, y.le z⟩) (fun v H' ⟨d, t, G', σ', x, o, y, z⟩ => ⟨d, t, G', σ', gg.shift x, o, y, z⟩) (fun σ' H' ⟨t, G', x, y, z⟩ => z G0 H0 G' H' σ' (gg.shift x) y) (fun σ' H' ⟨t, G', x, y, z⟩ => ⟨G', x, y.le z⟩)
  · have e : i = ds.length := by omega
    subst e
    exact .inl ⟨it.stop G2 H2 g2.gg k2.ex, h2 G0 H0 G2 H2 σ2 (gg.shift g2) k2⟩
end
end R87
namespace R87
open PySem PySem.Spec PyProof.Rows L2
def wipeS (τ : List Sl) : List Nat → List Sl
  | [] => τ
  | v :: vs => (wipeS τ vs).set v .no
theorem Ok.setNo {H0 G H : Hp} {τ : List Sl} {σ : L2.St} {i : Nat} {o : Option V} (k : Ok H0 G H τ σ) : Ok H0 G H (τ.set i .no) (σ.set i o) := by
  refine ⟨k.ex, by rw [List.length_set, List.length_set]; exact k.len, fun j e he => ?_, fun j ds he => ?_, fun j l ds es p n h1 h2 h3 => ?_, fun j a n he => ?_, fun j l ds a n h1 h2 => ?_, su_set k.su (fun _ _ z => by cases z)⟩
  · rcases set_at he with ⟨z, e1, hl⟩ | ⟨z, he⟩
    · cases e1
    · rw [List.getElem?_set_ne z]
      exact k.sh j e he
  · rcases set_at he with ⟨z, e1, hl⟩ | ⟨z, he⟩
    · cases e1
    · rw [List.getElem?_set_ne z]
      exact k.ow j ds he
  · rcases set_at h1 with ⟨z, e1, hl⟩ | ⟨z, h1⟩
    · cases e1
    · rcases set_at h2 with ⟨z2, e2, hl⟩ | ⟨z2, h2⟩
      · cases e2
      · rw [List.getElem?_set_ne z] at h3
        rw [List.getElem?_set_ne z2]
        exact k.ap j l ds es p n h1 h2 h3
  · rcases set_at he with ⟨z, e1, hl⟩ | ⟨z, he⟩
    · cases e1
    · rw [List.getElem?_set_ne z]
      exact k.sr j a n he
  · rcases set_at h1 with ⟨z, e1, hl⟩ | ⟨z, h1⟩
    · cases e1
    · rcases set_at h2 with ⟨z2, e2, hl⟩ | ⟨z2, h2⟩
      · cases e2
      · rw [List.getElem?_set_ne z]
        exact k.aq j l ds a n h1 h2
theorem Ok.wipe {H0 G H : Hp} {τ : List Sl} {σ : L2.St} (k : Ok H0 G H τ σ) : ∀ vs : List Nat, Ok H0 G H (wipeS τ vs) (L2.wipe σ vs)
  | [] => k
  | v :: vs => by
    show Ok H0 G H ((wipeS τ vs).set v .no) ((L2.wipe σ vs).set v none)
    exact (Ok.wipe k vs).setNo
theorem wipe_in {σ : L2.St} {j : Nat} (hj : j < σ.length) : ∀ {vs : List Nat}, j ∈ vs → (L2.wipe σ vs)[j]? = some none
  | [], h => by cases h
  | v :: vs, h => by
    show ((L2.wipe σ vs).set v none)[j]? = some none
    by_cases z : v = j
    · subst z
      exact List.getElem?_set_self (by rw [wipe_length]; exact hj)
    · rw [List.getElem?_set_ne z]
      rcases List.mem_cons.mp h with q | q
      · exact absurd q.symm z
      · exact wipe_in hj q
theorem wipe_same {σ σ' : L2.St} {vs is : List Nat} (hl : σ'.length = (L2.wipe σ vs).length) (hj : ∀ j, j ∉ is → σ'[j]? = (L2.wipe σ vs)[j]?) (hi : ∀ i ∈ is, i ∈ vs) : L2.wipe σ' vs = L2.wipe σ vs := by
  have hl2 : σ'.length = σ.length := by rw [hl, wipe_length]
  apply List.ext_getElem?
  intro j
  by_cases h : j ∈ vs
  · by_cases hb : j < σ.length
    · rw [wipe_in hb h, wipe_in (by omega) h]
    · rw [List.getElem?_eq_none (by rw [wipe_length]; omega), List.getElem?_eq_none (by rw [wipe_length]; omega)]
  · rw [wipe_out h, hj j fun z => h (hi j z)]
def Pts (X : Cx) (ifs : List Expr) (τ : List Sl) (b : Bool) : Prop := ∀ (H0 G H : Hp) (σ : L2.St), Ok H0 G H τ σ → ∀ Q : Bool → Hp → Prop, (∀ G' H', Gr m0 G H G' H' → Q b H') →
  ∀ pins s, Inv X pins σ H s → wpAny (model X.prog X.w) X.A (forIn ifs true fun c r => if r = true then do let ok ← isTrue c X.env (eval c X.env); pure (ForInStep.yield ok) else pure (ForInStep.yield r)) (TP X pins σ Q) X.xe s
section
variable {X : Cx} {m : Addr → Prop} {τ : List Sl} {ds : List D} {elt tg iter : Expr} {ifs : List Expr} {scope : Scope} {pos : Pos}
theorem ptl_nil : Pts X [] τ true := fun H0 G H σ k Q q pins s I => pts_nil.run pins s σ H Q I (q G H (.refl k.ex))
theorem ptl_one {c : Expr} {b : Bool} (h : Pt X c τ b) : Pts X [c] τ b := fun H0 G H σ k Q q pins s I => (pts_one pt_wt).run pins s σ H Q I (h H0 G H σ k Q q)
/-- the context of the comprehension's block, whatever it starts from -/
abbrev Bk (X : Cx) (scope : Scope) (p : Cx → Prop) : Prop := ∀ (s : Shared) (H : Hp) (C : Addr) (cl : List (Str × Addr)) (fp : List Addr), p (X.blk s H scope (compEnvC scope cl C X.env) fp)
def gB (X : Cx) (scope : Scope) (tg : Expr) : TG := fun v σ H Q => Bk X scope fun Y => Wg Y tg v σ H Q
def tB' (X : Cx) (scope : Scope) (ifs : List Expr) : TT := fun σ H Q => Bk X scope fun Y => ∀ pins s, Inv Y pins σ H s → wpAny (model Y.prog Y.w) Y.A (forIn ifs true fun c r => if r = true then do let ok ← isTrue c Y.env (eval c Y.env); pure (ForInStep.yield ok) else pure (ForInStep.yield r)) (TP Y pins σ Q) Y.xe s
def eB (X : Cx) (scope : Scope) (e : Expr) : TE := fun σ H Q => Bk X scope fun Y => We Y e σ H Q
/-- one turn: the target's slots, the test, the element -/
structure Turn1 (X : Cx) (scope : Scope) (vs : List Nat) (tg elt : Expr) (ifs : List Expr) (τ : List Sl) (d : D) (b : Bool) (e : D) : Prop where
  ex : ∃ τ1 is, Bk X scope (fun Y => Tg Y tg d (wipeS τ vs) τ1 is) ∧ (∀ i ∈ is, i ∈ vs) ∧ Bk X scope (fun Y => Pts Y ifs τ1 b) ∧ (b = true → Bk X scope (fun Y => Pu Y elt τ1 e))
theorem lc_go {α : Type} {own : List (Str × Nat)} (xs : List α) (enc : α → D) (f : α → Bool) (v : α → D) (hi : Pi X tg iter τ (xs.map enc)) (hl : xs.length ≤ 1000) (ht : ∀ x ∈ xs, Turn1 X scope (own.map (·.2)) tg elt ifs τ (enc x) (f x) (v x))
    {H0 G H : Hp} {σ : L2.St} (k : Ok H0 G H τ σ) {Q : VK} (q : ∀ p vs G' H', Gr m0 G H G' H' → G' p = none → H p = none → H' p = some (.lst vs) → RpA G' vs ((xs.filter f).map v) → Q (.ref p) H') :
    tLc (Wi X tg iter) (gB X scope tg) (tB' X scope ifs) (eB X scope elt) (own.map (·.2)) σ H Q := by
  refine hi H0 G H σ k _ fun J G1 H1 g1 it => fun D hD => ?_
  refine ⟨fun i mm H' => mm = xs.length - i ∧ i ≤ xs.length ∧ ∃ G' acc, Gr m0 G1 H1 G' H' ∧ G' D = none ∧ H' D = some (.lst acc) ∧ RpA G' acc (((xs.take i).filter f).map v), ⟨_, rfl, Nat.zero_le _, G1, [], .newO g1.gh hD, g1.gh.back hD, upd_same, .nil⟩, ?_⟩
  rintro i mm H2 ⟨rfl, hle, G2, acc, g2, d2, a2, r2⟩
  by_cases hlt : i < xs.length
  · obtain ⟨x, hx⟩ : ∃ x, xs[i]? = some x := ⟨_, List.getElem?_eq_getElem hlt⟩
    obtain ⟨a, b⟩ := it.go i (enc x) G2 H2 (by rw [List.getElem?_map, hx]; rfl) g2.gg g2.gh
    refine .inr ⟨a, fun H' => ∃ G' acc, Gr m0 G1 H1 G' H' ∧ G' D = none ∧ H' D = some (.lst acc) ∧ RpA G' acc (((xs.take (i + 1)).filter f).map v), fun H' w => ⟨xs.length - (i + 1), by omega, rfl, hlt, w⟩, fun y H3 hy => ?_⟩
    obtain ⟨G3, g3, r3⟩ := b y H3 hy
    obtain ⟨τ1, is, t1, t2, t3, t4⟩ := (ht x (List.mem_of_getElem? hx)).ex
    have k3 : Ok H0 G3 H3 (wipeS τ (own.map (·.2))) (L2.wipe σ (own.map (·.2))) := (((k.gr g1).gr g2).gr g3).wipe _
    have et : xs.take (i + 1) = xs.take i ++ [x] := by rw [List.take_add_one, hx]; rfl
    have Dn : ∀ {G' H' : Hp}, Gr m0 G2 H2 G' H' → G' D = none ∧ H' D = some (.lst acc) := fun g => ⟨g.fr D d2 (by rw [a2]; exact fun z => by cases z), g.ex _ _ a2⟩
    intro s' H' C cl fp
    refine t1 s' H' C cl fp H0 G3 H3 _ y k3 r3 _ fun σ4 k4 l4 f4 => ⟨wipe_same l4 f4 t2, ?_⟩
    intro s'' H'' C' cl' fp'
    refine t3 s'' H'' C' cl' fp' H0 G3 H3 σ4 k4 _ fun G5 H5 g5 => ?_
    have g25 := g3.trans g5
    cases hf : f x with
    | true =>
      rw [if_pos rfl]
      intro s6 H6 C6 cl6 fp6
      refine t4 hf s6 H6 C6 cl6 fp6 H0 G5 H5 σ4 (k4.gr g5) _ fun u G7 H7 g7 r7 => ?_
      have g27 := g25.trans g7
      obtain ⟨n7, h7⟩ := Dn g27
      have hlen : acc.length < sizeLine := by
        rw [r2.length, List.length_map]
        have h1 := List.length_filter_le f (xs.take i)
        rw [List.length_take] at h1
        exact Nat.lt_of_le_of_lt (show _ ≤ 1000 by omega) (by decide)
      refine ⟨acc, h7, hlen, G7, acc ++ [u], ?_, n7, upd_same, ?_⟩
      · have g17 := g2.trans g27
        refine ⟨g17.gg, fun z o n h => ?_, fun z o h => ?_, g17.fr, fun z h => ?_⟩
        · rw [upd_ne (fun w => by rw [w, hD] at h; cases h)]; exact g17.hh z o n h
        · rw [upd_ne (fun w => by rw [w, n7] at h; cases h)]; exact g17.gh z o h
        · rw [upd_ne (fun w => h (by rw [w]; exact hD))]; exact g17.th z h
      · rw [et, List.filter_append, List.map_append]
        have e1 : [x].filter f = [x] := by simp [hf]
        rw [e1]
        exact (r2.ex g27.gg).append (.one r7)
    | false =>
      rw [if_neg Bool.false_ne_true]
      obtain ⟨n5, h5⟩ := Dn g25
      refine ⟨G5, acc, g2.trans g25, n5, h5, ?_⟩
      rw [et, List.filter_append, List.map_append]
      have e1 : [x].filter f = [] := by simp [hf]
      rw [e1, List.map_nil, List.append_nil]
      exact r2.ex g25.gg
  · have e : i = xs.length := by omega
    subst e
    rw [List.take_length] at r2
    have st := it.stop G2 H2 g2.gg g2.gh
    rw [List.length_map] at st
    exact .inl ⟨st, q D acc G2 H2 (g1.trans g2) d2 (g1.ex.back hD) a2 r2⟩
theorem pg_gB : Bk X scope fun Y => PG Y tg (gB X scope tg) := fun s H C cl fp => ⟨fun pins s' σ H' v u Q I r h => h s H C cl fp pins s' u I r⟩
theorem pts_tB : Bk X scope fun Y => PTs Y ifs (tB' X scope ifs) := fun s H C cl fp => ⟨fun pins s' σ H' Q I h => h s H C cl fp pins s' I⟩
theorem pe_eB : Bk X scope fun Y => PE Y elt (eB X scope elt) := fun s H C cl fp => ⟨fun pins s' σ H' Q I h => h s H C cl fp pins s' I⟩
/-- [elt for tg in iter if ..] -/
theorem nu_lc {α : Type} (own : List (Str × Nat)) (xs : List α) (enc : α → D) (f : α → Bool) (v : α → D) (hi : Pi X tg iter τ (xs.map enc)) (ht : ∀ x ∈ xs, Turn1 X scope (own.map (·.2)) tg elt ifs τ (enc x) (f x) (v x))
    (ok : BlkOk X.N X.env.scope scope own) (hl : xs.length ≤ 1000 := by first | assumption | omega) (hN : X.N.Nodup := by assumption) (hc : X.calm = true := by rfl) (hs : ∀ x, foldedSetIterable iter X.env x = pure x := by intro _; rfl) :
    Nu X (.ListComp elt [⟨tg, iter, ifs, 0⟩] scope pos) τ ((xs.filter f).map v) := fun H0 G H σ k Q q =>
  We.of (pe_lc hc hN pi_wi ok pg_gB pts_tB pe_eB hs) (lc_go xs enc f v hi hl ht k q)
/-- y = [elt for tg in iter if ..] -/
theorem ab_setLc {α : Type} {N : AE} {rest : List Stmt} {y : Str} {py spos : Pos} (i : Nat) (own : List (Str × Nat)) (xs : List α) (enc : α → D) (f : α → Bool) (v : α → D) (hi : Pi X tg iter τ (xs.map enc)) (ht : ∀ x ∈ xs, Turn1 X scope (own.map (·.2)) tg elt ifs τ (enc x) (f x) (v x))
    (ok : BlkOk X.N X.env.scope scope own) (h2 : AB X m rest (τ.set i (.ow ((xs.filter f).map v))) N) (hsw : swapsWith (.ListComp elt [⟨tg, iter, ifs, 0⟩] scope pos) (some (.Name y py)) spos.line X.env = pure true) (hl : xs.length ≤ 1000 := by first | assumption | omega) (hN : X.N.Nodup := by assumption)
    (hc : X.calm = true := by rfl) (hs : ∀ x, foldedSetIterable iter X.env x = pure x := by intro _; rfl) (hy : X.N[i]? = some y := by rfl) (hyl : X.env.scope.names.lookup y = some .local := by rfl) :
    AB X m (.Assign [.Name y py] (.ListComp elt [⟨tg, iter, ifs, 0⟩] scope pos) spos :: rest) τ N := fun G0 H0 G H σ g k => by
  refine Wb.of (pss_cons (ps_setLc hc hN hy hyl hsw pi_wi ok pg_gB pts_tB pe_eB hs) pss_wb) ?_
  show tLc (Wi X tg iter) (gB X scope tg) (tB' X scope ifs) (eB X scope elt) (own.map (·.2)) σ H fun x H1 => Wb X rest (Cn m G0 H0 N) (σ.set i (some x)) H1
  refine lc_go xs enc f v hi hl ht k fun q vs G1 H1 g1 h1 h3 h4 r1 => ?_
  have h0 : H0 q = none := by
    cases z : H0 q with
    | none => rfl
    | some u => exact absurd h3 (g.th q (by rw [z]; exact fun z => by cases z))
  refine h2 G0 H0 G1 H1 _ (g.trans g1.any) ((k.gr g1).setOw h4 h1 h0 r1 (fun j es hj he hq => ?_) fun j n e => (k.sr j q n e).2.2.ne h3)
  obtain ⟨p', vs', a, b, _⟩ := k.ow j es he
  rw [hq] at a; cases a
  rw [h3] at b; cases b
end
/-- the slots at the entry -/
abbrev ent (N : List Str) (ds : List D) : List Sl := ds.map Sl.sh ++ List.replicate (N.length - ds.length) .no
theorem ok_ent {G H : Hp} {N : List Str} {vs : List V} {ds : List D} (e : Ex G H) (r : RpA G vs ds) : Ok H G H (ent N ds) (L2.start N vs) := by
  have hl := r.length
  have key : ∀ (i : Nat) (x : Sl), (ent N ds)[i]? = some x → (∃ d v, x = .sh d ∧ (L2.start N vs)[i]? = some (some v) ∧ Rp G v d) ∨ x = .no := fun i x h => by
    by_cases z : i < ds.length
    · rw [List.getElem?_append_left (by rw [List.length_map]; exact z), List.getElem?_map] at h
      obtain ⟨d, hd, e1⟩ := Option.map_eq_some_iff.mp h
      obtain ⟨v, hv, rv⟩ := r.get hd
      refine .inl ⟨d, v, e1.symm, ?_, rv⟩
      unfold L2.start
      rw [List.getElem?_append_left (by rw [List.length_map]; omega), List.getElem?_map, hv]; rfl
    · rw [List.getElem?_append_right (by rw [List.length_map]; omega), List.getElem?_replicate] at h
      split at h
      · exact .inr (Option.some.inj h).symm
      · cases h
  refine ⟨e, ?_, fun i d h => ?_, fun i d h => ?_, fun i j ds' es p n h1 h2 h3 => ?_, fun i a n h => ?_, fun i j es a n h1 h2 => ?_, fun i j a b n q h1 h2 => ?_⟩
  · unfold L2.start
    rw [List.length_append, List.length_append, List.length_map, List.length_map, List.length_replicate, List.length_replicate, hl]
  · rcases key i _ h with ⟨d', v, e1, e2, e3⟩ | z
    · cases e1; exact ⟨v, e2, e3⟩
    · cases z
  · rcases key i _ h with ⟨d', v, e1, e2, e3⟩ | z
    · cases e1
    · cases z
  · rcases key i _ h1 with ⟨d', v, e1, e2, e3⟩ | z
    · cases e1
    · cases z
  · rcases key i _ h with ⟨d', v, e1, e2, e3⟩ | z
    · cases e1
    · cases z
  · rcases key i _ h1 with ⟨d', v, e1, e2, e3⟩ | z
    · cases e1
    · cases z
  · rcases key i _ h1 with ⟨d', v, e1, e2, e3⟩ | z
    · cases e1
    · cases z
section
variable {P : Program} {w : World} {K : PySem.W.Frag} {mg : Str → Option Value} {base : Heap}
theorem fun_pu {x qual : Str} {st : Stmt} {f : Addr} {fd : FuncData} {N ps : List Str} {k : Nat} {R : List D → D → Prop} (F : Fun K x qual st f fd) (S : FnScope N ps (defScope st)) (len : ∀ ds d, R ds d → ds.length = ps.length)
    (hbody : ∀ (cdv : Value) (A : Around) (outer : List Env) (s : Shared) (H : Hp) (E : XK) (ds : List D) (d : D), Room k (A.deeper (envOfC qual (defScope st) s.heap.objs.size f cdv)) → R ds d →
      AB (cxOf CX0 P w K mg base N qual (defScope st) f cdv A outer s H E).nox m0 (defBody st) (ent N ds) { nx := fun _ => d = .non, rt := fun e _ => e = d }) : FnOk P w K mg base CX0 (k + 1) f fd ps (spP R) := by
  refine F.ok S (fun vs H Q E h => ?_) (fun cdv A outer s H vs Q E hr h => ?_)
  · obtain ⟨G, ds, d, _, r, hR, _⟩ := h
    rw [r.length]; exact len ds d hR
  · obtain ⟨G, ds, d, e, r, hR, c⟩ := h
    refine ⟨_, pss_wb, ?_⟩
    refine ⟨fun pins s1 I => ?_⟩
    refine thn (hbody cdv A outer s H E ds d hr hR G H G H _ (.refl e) (ok_ent e r) pins s1 I) fun f s2 q => sp_mono q (fun σ' H' ⟨t, G', a, b, z⟩ => ?_) (fun v H' ⟨d', t, G', σ', a, _, b, z⟩ => ?_) (fun σ' H' ⟨t, G', a, b, z⟩ => z.elim) (fun σ' H' ⟨t, G', a, b, z⟩ => z.elim)
    · have z' : d = .non := z
      subst z'
      exact c .non G' H' a .non
    · have z' : d' = d := z
      subst z'
      exact c v G' H' a b
end
end R87
namespace R87
open PySem PySem.Spec PyProof.Rows L2
open PySem.W (Datum DatumOrd Tup T4 Holds HoldAll)
instance : DatumOrd Nat where
  toD n := .int (n : Int)
  plain _ := rfl
  eqv a b := by
    simp only [PyData.eqv]
    rw [Bool.eq_iff_iff, beq_iff_eq, decide_eq_true_eq]; omega
  depth := 0
  depth_le _ := Nat.le_refl _
  lt a b := decide (a < b)
  alike a b := by show PySem.W.alike (.int a) (.int b) = true; simp only [PySem.W.alike]
  notNone a := fun e => by cases e
  lt_eq a b := by rw [PySem.W.dataLt_int]; exact decide_eq_decide.mpr (by omega)
/-- a Lean type's data among ours -/
class En (α : Type) [DecidableEq α] [Datum α] where
  e : α → D
  dp : ∀ {K : PySem.W.Frag} {G : Hp} {v : V} {a : α}, Rp G v (e a) → Dp K G v (Datum.toD a)
section
variable {α β γ δ : Type} [DecidableEq α] [Datum α] [En α] [DecidableEq β] [Datum β] [En β] [DecidableEq γ] [Datum γ] [En γ] [DecidableEq δ] [Datum δ] [En δ]
instance : En Int := ⟨.int, fun r => by cases r; exact .int _⟩
instance : En Nat := ⟨fun n => .int (n : Int), fun r => by cases r; exact .int _⟩
instance : En Str := ⟨.str, fun r => by cases r; exact .str _⟩
instance : En Bool := ⟨.bl, fun r => by cases r; exact .bl _⟩
theorem dpAll {K : PySem.W.Frag} {G : Hp} : ∀ {vs : List V} {xs : List α}, RpA G vs (xs.map En.e) → DpAll K G vs (xs.map Datum.toD)
  | _, [], .nil => .nil
  | _, x :: xs, .cons h r => .cons (En.dp h) (dpAll r)
instance : En (List α) := ⟨fun xs => .lst (xs.map En.e), fun r => by
  cases r with
  | lst h r => exact .lst (SqL.of h) (dpAll r)⟩
instance : En (Tup α) := ⟨fun xs => .tup (xs.items.map En.e), fun r => by
  cases r with
  | tup h r => exact .tup (SqT.of h) (dpAll r)⟩
instance : En (α × β) := ⟨fun p => .tup [En.e p.1, En.e p.2], fun r => by
  cases r with
  | tup h r => cases r with
    | cons r1 r => cases r with
      | cons r2 r => cases r; exact .tup (SqT.of h) (.cons (En.dp r1) (.cons (En.dp r2) .nil))⟩
instance : En (T4 α β γ δ) := ⟨fun p => .tup [En.e p.a, En.e p.b, En.e p.c, En.e p.d], fun r => by
  cases r with
  | tup h r => cases r with
    | cons r1 r => cases r with
      | cons r2 r => cases r with
        | cons r3 r => cases r with
          | cons r4 r => cases r; exact .tup (SqT.of h) (.cons (En.dp r1) (.cons (En.dp r2) (.cons (En.dp r3) (.cons (En.dp r4) .nil))))⟩
instance : En (PySem.W.T3 α β γ) := ⟨fun p => .tup [En.e p.a, En.e p.b, En.e p.c], fun r => by
  cases r with
  | tup h r => cases r with
    | cons r1 r => cases r with
      | cons r2 r => cases r with
        | cons r3 r => cases r; exact .tup (SqT.of h) (.cons (En.dp r1) (.cons (En.dp r2) (.cons (En.dp r3) .nil)))⟩
end
theorem SqL.ex {K : PySem.W.Frag} {G H : Hp} {a : Addr} {xs : List V} (e : Ex G H) (h : SqL K G a xs) : SqL K H a xs := by
  rcases h with (h | ⟨o, h⟩) | h
  · exact .inl (.inl (e _ _ h))
  · exact .inl (.inr ⟨o, e _ _ h⟩)
  · exact .inr h
theorem SqT.ex {K : PySem.W.Frag} {G H : Hp} {a : Addr} {xs : List V} (e : Ex G H) (h : SqT K G a xs) : SqT K H a xs := by
  rcases h with (h | ⟨o, h⟩) | h
  · exact .inl (.inl (e _ _ h))
  · exact .inl (.inr ⟨o, e _ _ h⟩)
  · exact .inr h
mutual
theorem Dp.ex {K : PySem.W.Frag} {G H : Hp} (e : Ex G H) : ∀ {v : V} {d : PyData}, Dp K G v d → Dp K H v d
  | _, _, .non => .non
  | _, _, .bl b => .bl b
  | _, _, .int i => .int i
  | _, _, .str s => .str s
  | _, _, .lst h r => .lst (SqL.ex e h) (DpAll.ex e r)
  | _, _, .tup h r => .tup (SqT.ex e h) (DpAll.ex e r)
theorem DpAll.ex {K : PySem.W.Frag} {G H : Hp} (e : Ex G H) : ∀ {v : List V} {d : List PyData}, DpAll K G v d → DpAll K H v d
  | _, _, .nil => .nil
  | _, _, .cons h r => .cons (Dp.ex e h) (DpAll.ex e r)
end
section
variable {X : Cx} {pins : List (Addr × Obj)} {σ : L2.St} {G H : Hp} {s : Shared} {α : Type} [DecidableEq α] [Datum α] [En α]
theorem Rp.holds (I : Inv X pins σ H s) (ex : Ex G H) {x : α} {v : V} {u : Value} (r : Rp G v (En.e x)) (rv : RelV v u) : Holds s.heap u x :=
  Dp.reads I (Datum.toD x) v u (Dp.ex ex (En.dp (K := X.K) r)) rv
theorem RpA.holds (I : Inv X pins σ H s) (ex : Ex G H) {xs : List α} {vs : List V} {us : List Value} (r : RpA G vs (xs.map En.e)) (rv : Vals vs us) : HoldAll s.heap us xs :=
  Dp.readsAll I (xs.map Datum.toD) vs us (DpAll.ex ex (dpAll (K := X.K) r)) rv
theorem list_of_rp (I : Inv X pins σ H s) (ex : Ex G H) {a : Addr} {ds : List D} {u : Value} (r : Rp G (.ref a) (.lst ds)) : ∃ vs its, RpA G vs ds ∧ Vals vs its ∧ s.heap.IsList a its.toArray ∧ vs.length ≤ sizeLine := by
  cases r with
  | lst h r =>
    obtain ⟨its, rv, pl, hz⟩ := I.list (SqL.of (ex _ _ h))
    exact ⟨_, its, r, rv, pl.isList, hz⟩
end
def rEqT (α : Type) [DecidableEq α] [Datum α] [En α] : R2 := fun v u H Q => ∃ (x y : α) (G : Hp), Ex G H ∧ Rp G v (En.e x) ∧ Rp G u (En.e y) ∧ Q (.bl (decide (x = y))) H
def rNeT (α : Type) [DecidableEq α] [Datum α] [En α] : R2 := fun v u H Q => ∃ (x y : α) (G : Hp), Ex G H ∧ Rp G v (En.e x) ∧ Rp G u (En.e y) ∧ Q (.bl (decide (x ≠ y))) H
def rLeT (α : Type) [DecidableEq α] [DatumOrd α] [En α] : R2 := fun v u H Q => ∃ (x y : α) (G : Hp), Ex G H ∧ Rp G v (En.e x) ∧ Rp G u (En.e y) ∧ Q (.bl (!DatumOrd.lt y x)) H
def rLtT' (α : Type) [DecidableEq α] [DatumOrd α] [En α] : R2 := fun v u H Q => ∃ (x y : α) (G : Hp), Ex G H ∧ Rp G v (En.e x) ∧ Rp G u (En.e y) ∧ Q (.bl (DatumOrd.lt x y)) H
def rInT (α : Type) [DecidableEq α] [Datum α] [En α] : R2 := fun v u H Q => ∃ (x : α) (ys : List α) (G : Hp), Ex G H ∧ Rp G v (En.e x) ∧ Rp G u (.lst (ys.map En.e)) ∧ Q (.bl (decide (x ∈ ys))) H
def rNiT (α : Type) [DecidableEq α] [Datum α] [En α] : R2 := fun v u H Q => ∃ (x : α) (ys : List α) (G : Hp), Ex G H ∧ Rp G v (En.e x) ∧ Rp G u (.lst (ys.map En.e)) ∧ Q (.bl (decide (x ∉ ys))) H
def rNiU (α : Type) [DecidableEq α] [Datum α] [En α] : R2 := fun v u H Q => ∃ (x : α) (ys : List α) (G : Hp), Ex G H ∧ Rp G v (En.e x) ∧ Rp G u (.tup (ys.map En.e)) ∧ Q (.bl (decide (x ∉ ys))) H
section
variable {X : Cx} {α : Type} [DecidableEq α] [Datum α] [En α]
theorem roomD {A : Around} {k n : Nat} (hr : Room k A) (h : n ≤ 60) : A.units + n < cLine ∧ A.units + 1 + n < cLine ∧ A.units + 2 + n < cLine := by
  have := hr.units
  omega
theorem op_eqT {k : Nat} (hr : Room k X.A) (hd : Datum.depth α ≤ 60 := by decide) : OpR X (compareOp .Eq) (rEqT α) := by
  rintro pins s σ H v u a b Q I ra rb ⟨x, y, G, ex, r1, r2, q⟩
  exact PySem.W.eq_datum (Rp.holds I ex r1 ra) (Rp.holds I ex r2 rb) (roomD hr hd).1 ⟨.bl _, H, I, rfl, q⟩
theorem op_neT {k : Nat} (hr : Room k X.A) (hd : Datum.depth α ≤ 60 := by decide) : OpR X (compareOp .NotEq) (rNeT α) := by
  rintro pins s σ H v u a b Q I ra rb ⟨x, y, G, ex, r1, r2, q⟩
  exact PySem.W.ne_datum (Rp.holds I ex r1 ra) (Rp.holds I ex r2 rb) (roomD hr hd).1 ⟨.bl _, H, I, rfl, q⟩
theorem op_inT {k : Nat} (hr : Room k X.A) (hd : Datum.depth α ≤ 60 := by decide) : OpR X (compareOp .In) (rInT α) := by
  rintro pins s σ H v u a b Q I ra rb ⟨x, ys, G, ex, r1, r2, q⟩
  cases u with
  | ref p =>
    cases rb
    obtain ⟨vs, its, r, rv, hl, _⟩ := list_of_rp (u := .none) I ex r2
    exact PySem.W.in_list_datum hl (by simpa using RpA.holds I ex r rv) (Rp.holds I ex r1 ra) (roomD hr hd).2.1 ⟨.bl _, H, I, rfl, q⟩
  | _ => cases r2
theorem op_niT {k : Nat} (hr : Room k X.A) (hd : Datum.depth α ≤ 60 := by decide) : OpR X (compareOp .NotIn) (rNiT α) := by
  rintro pins s σ H v u a b Q I ra rb ⟨x, ys, G, ex, r1, r2, q⟩
  cases u with
  | ref p =>
    cases rb
    obtain ⟨vs, its, r, rv, hl, _⟩ := list_of_rp (u := .none) I ex r2
    exact PySem.W.notIn_list_datum hl (by simpa using RpA.holds I ex r rv) (Rp.holds I ex r1 ra) (roomD hr hd).2.1 ⟨.bl _, H, I, rfl, q⟩
  | _ => cases r2
theorem op_niU {k : Nat} (hr : Room k X.A) (hd : Datum.depth α ≤ 60 := by decide) : OpR X (compareOp .NotIn) (rNiU α) := by
  rintro pins s σ H v u a b Q I ra rb ⟨x, ys, G, ex, r1, r2, q⟩
  cases u with
  | ref p =>
    cases rb
    cases r2 with
    | tup h r =>
      obtain ⟨its, rv, pl, hz⟩ := I.tuple (SqT.of (ex _ _ h))
      exact PySem.W.notIn_tuple_datum pl (by simpa using RpA.holds I ex r rv) (Rp.holds I ex r1 ra) (roomD hr hd).2.1 ⟨.bl _, H, I, rfl, q⟩
  | _ => cases r2
end
section
variable {X : Cx} {α : Type} [DecidableEq α] [DatumOrd α] [En α]
theorem op_leT {k : Nat} (hr : Room k X.A) (hd : Datum.depth α ≤ 60 := by decide) : OpR X (compareOp .LtE) (rLeT α) := by
  rintro pins s σ H v u a b Q I ra rb ⟨x, y, G, ex, r1, r2, q⟩
  exact PySem.W.le_datum (Rp.holds I ex r1 ra) (Rp.holds I ex r2 rb) (roomD hr hd).1 ⟨.bl _, H, I, rfl, q⟩
theorem op_ltT' {k : Nat} (hr : Room k X.A) (hd : Datum.depth α ≤ 60 := by decide) : OpR X (compareOp .Lt) (rLtT' α) := by
  rintro pins s σ H v u a b Q I ra rb ⟨x, y, G, ex, r1, r2, q⟩
  exact PySem.W.lt_datum (Rp.holds I ex r1 ra) (Rp.holds I ex r2 rb) (roomD hr hd).1 ⟨.bl _, H, I, rfl, q⟩
end
section
variable {α : Type} [DecidableEq α] [Datum α] [En α]
theorem d_eq {x y : α} : DOp (rEqT α) (En.e x) (En.e y) (.bl (decide (x = y))) := fun v u G H ex r1 r2 Q q => ⟨x, y, G, ex, r1, r2, q _ G H (.refl ex) (.bl _)⟩
theorem d_ne {x y : α} : DOp (rNeT α) (En.e x) (En.e y) (.bl (decide (x ≠ y))) := fun v u G H ex r1 r2 Q q => ⟨x, y, G, ex, r1, r2, q _ G H (.refl ex) (.bl _)⟩
theorem d_in {x : α} {ys : List α} : DOp (rInT α) (En.e x) (.lst (ys.map En.e)) (.bl (decide (x ∈ ys))) := fun v u G H ex r1 r2 Q q => ⟨x, ys, G, ex, r1, r2, q _ G H (.refl ex) (.bl _)⟩
theorem d_ni {x : α} {ys : List α} : DOp (rNiT α) (En.e x) (.lst (ys.map En.e)) (.bl (decide (x ∉ ys))) := fun v u G H ex r1 r2 Q q => ⟨x, ys, G, ex, r1, r2, q _ G H (.refl ex) (.bl _)⟩
theorem d_niU {x : α} {ys : List α} : DOp (rNiU α) (En.e x) (.tup (ys.map En.e)) (.bl (decide (x ∉ ys))) := fun v u G H ex r1 r2 Q q => ⟨x, ys, G, ex, r1, r2, q _ G H (.refl ex) (.bl _)⟩
end
theorem d_le {α : Type} [DecidableEq α] [DatumOrd α] [En α] {x y : α} : DOp (rLeT α) (En.e x) (En.e y) (.bl (!DatumOrd.lt y x)) := fun v u G H ex r1 r2 Q q => ⟨x, y, G, ex, r1, r2, q _ G H (.refl ex) (.bl _)⟩
theorem d_lt {α : Type} [DecidableEq α] [DatumOrd α] [En α] {x y : α} : DOp (rLtT' α) (En.e x) (En.e y) (.bl (DatumOrd.lt x y)) := fun v u G H ex r1 r2 Q q => ⟨x, y, G, ex, r1, r2, q _ G H (.refl ex) (.bl _)⟩
theorem d_I {C : Int → Int → Prop} {g : Int → Int → Int} {i j : Int} (h : C i j) : DOp (rI C fun i j => .int (g i j)) (.int i) (.int j) (.int (g i j)) := fun v u G H ex r1 r2 Q q => by
  cases r1; cases r2
  exact ⟨i, j, rfl, rfl, h, q _ G H (.refl ex) (.int _)⟩
theorem d_I0 {g : Int → Int → Int} {i j : Int} : DOp (rI0 fun i j => .int (g i j)) (.int i) (.int j) (.int (g i j)) := fun v u G H ex r1 r2 Q q => by
  cases r1; cases r2
  exact ⟨i, j, rfl, rfl, q _ G H (.refl ex) (.int _)⟩
theorem d_B0 {g : Int → Int → Bool} {i j : Int} : DOp (rI0 fun i j => .bl (g i j)) (.int i) (.int j) (.bl (g i j)) := fun v u G H ex r1 r2 Q q => by
  cases r1; cases r2
  exact ⟨i, j, rfl, rfl, q _ G H (.refl ex) (.bl _)⟩
section
variable {X : Cx} {τ : List Sl} {a b c : Expr} {pos : Pos} {i j l : Int} {ds es : List D} {d : D} {n : Str} {p : Pos}
theorem pu_add (ha : Pu X a τ (.int i)) (hb : Pu X b τ (.int j)) : Pu X (.BinOp a .Add b pos) τ (.int (i + j)) := pu_op op_add d_I0 ha hb
theorem pu_sub (ha : Pu X a τ (.int i)) (hb : Pu X b τ (.int j)) : Pu X (.BinOp a .Sub b pos) τ (.int (i - j)) := pu_op op_sub d_I0 ha hb
theorem pu_mul (ha : Pu X a τ (.int i)) (hb : Pu X b τ (.int j)) (h : CMul i j) : Pu X (.BinOp a .Mult b pos) τ (.int (i * j)) := pu_op op_mul (d_I (C := CMul) h) ha hb
theorem pt_lt (ha : Pu X a τ (.int i)) (hb : Pu X b τ (.int j)) : Pt X (.Compare a [.Lt] [b] pos) τ (decide (i < j)) := pt_cmp' op_lt d_B0 ha hb
theorem pt_le (ha : Pu X a τ (.int i)) (hb : Pu X b τ (.int j)) : Pt X (.Compare a [.LtE] [b] pos) τ (decide (i ≤ j)) := pt_cmp' op_le d_B0 ha hb
theorem pt_gt (ha : Pu X a τ (.int i)) (hb : Pu X b τ (.int j)) : Pt X (.Compare a [.Gt] [b] pos) τ (decide (j < i)) := pt_cmp' op_gt d_B0 ha hb
theorem pt_ge (ha : Pu X a τ (.int i)) (hb : Pu X b τ (.int j)) : Pt X (.Compare a [.GtE] [b] pos) τ (decide (j ≤ i)) := pt_cmp' op_ge d_B0 ha hb
theorem pu_lt (ha : Pu X a τ (.int i)) (hb : Pu X b τ (.int j)) : Pu X (.Compare a [.Lt] [b] pos) τ (.bl (decide (i < j))) := pu_cmp op_lt d_B0 ha hb
theorem pu_le (ha : Pu X a τ (.int i)) (hb : Pu X b τ (.int j)) : Pu X (.Compare a [.LtE] [b] pos) τ (.bl (decide (i ≤ j))) := pu_cmp op_le d_B0 ha hb
theorem pu_gt (ha : Pu X a τ (.int i)) (hb : Pu X b τ (.int j)) : Pu X (.Compare a [.Gt] [b] pos) τ (.bl (decide (j < i))) := pu_cmp op_gt d_B0 ha hb
theorem pu_ge (ha : Pu X a τ (.int i)) (hb : Pu X b τ (.int j)) : Pu X (.Compare a [.GtE] [b] pos) τ (.bl (decide (j ≤ i))) := pu_cmp op_ge d_B0 ha hb
theorem nu_cat (ha : Pu X a τ (.lst ds)) (hb : Pu X b τ (.lst es)) (hl : ds.length + es.length ≤ 1000) : Nu X (.BinOp a .Add b pos) τ (ds ++ es) := nu_op op_cat (fun v u G H ex r1 r2 Q q => by
  cases r1 with
  | lst h1 r1 => cases r2 with
    | lst h2 r2 => exact ⟨_, _, _, _, rfl, rfl, ex _ _ h1, ex _ _ h2, by rw [r1.length, r2.length]; exact sl1000 hl, fun p hp => q p _ hp (r1.append r2)⟩) ha hb
theorem pu_catT (ha : Pu X a τ (.tup ds)) (hb : Pu X b τ (.tup es)) (hl : ds.length + es.length ≤ 1000 := by simp) : Pu X (.BinOp a .Add b pos) τ (.tup (ds ++ es)) := pu_op op_catA (fun v u G H ex r1 r2 Q q => by
  cases r1 with
  | tup h1 r1 => cases r2 with
    | tup h2 r2 =>
      refine ⟨_, _, _, _, rfl, rfl, SqT.of (ex _ _ h1), SqT.of (ex _ _ h2), by rw [r1.length, r2.length]; exact sl1000 hl, fun z => ?_, fun z1 z2 => ?_, fun z1 z2 p hp => q _ _ _ (.new ex hp) (.tup upd_same ((r1.append r2).ex (.new (ex.back hp))))⟩
      · subst z; cases r1; exact q _ G H (.refl ex) (.tup h2 r2)
      · subst z2; cases r2; rw [List.append_nil] at q; exact q _ G H (.refl ex) (.tup h1 r1)) ha hb
theorem nu_rep {k : Nat} (ha : Pu X a τ (.lst ds)) (hb : Pu X b τ (.int (k : Int))) (hl : ds.length * k ≤ 1000) (hk : k ≤ 1000) : Nu X (.BinOp a .Mult b pos) τ (List.replicate k ds).flatten := nu_op op_rep (fun v u G H ex r1 r2 Q q => by
  cases r1 with
  | lst h1 r1 =>
    cases r2
    refine ⟨_, _, _, rfl, rfl, ex _ _ h1, by omega, by omega, by rw [r1.length, Int.toNat_natCast]; exact sl1000 hl, fun p hp => ?_⟩
    refine q p _ hp ?_
    rw [Int.toNat_natCast]
    clear hl hk q hb
    induction k with
    | zero => exact .nil
    | succ k ih => exact r1.append ih) ha hb
theorem pu_ixL {k : Nat} (ha : Pu X a τ (.lst ds)) (hb : Pu X b τ (.int (k : Int))) (h : ds[k]? = some d) (hs : PlainIx b := by exact fun _ _ => rfl) : Pu X (.Subscript a b pos) τ d := fun H0 G H σ ok Q q =>
  We.of (pe_ix ix_list pe_we pe_we hs) (ha H0 G H σ ok _ fun v G1 H1 g1 r1 => hb H0 G1 H1 σ (ok.gr g1) _ fun u G2 H2 g2 r2 => by
    cases r1 with
    | lst h1 r1 =>
      cases r2
      obtain ⟨w, hw, rw⟩ := r1.get h
      exact ⟨_, _, _, w, rfl, rfl, SqL.of (g2.gh _ _ (g2.gg _ _ h1)), atI_nat hw, q w G2 H2 (g1.trans g2) (rw.ex g2.gg)⟩)
theorem pu_ixT {k : Nat} (ha : Pu X a τ (.tup ds)) (hb : Pu X b τ (.int (k : Int))) (h : ds[k]? = some d) (hs : PlainIx b := by exact fun _ _ => rfl) : Pu X (.Subscript a b pos) τ d := fun H0 G H σ ok Q q =>
  We.of (pe_ix ix_tup pe_we pe_we hs) (ha H0 G H σ ok _ fun v G1 H1 g1 r1 => hb H0 G1 H1 σ (ok.gr g1) _ fun u G2 H2 g2 r2 => by
    cases r1 with
    | tup h1 r1 =>
      cases r2
      obtain ⟨w, hw, rw⟩ := r1.get h
      exact ⟨_, _, _, w, rfl, rfl, SqT.of (g2.gh _ _ (g2.gg _ _ h1)), atI_nat hw, q w G2 H2 (g1.trans g2) (rw.ex g2.gg)⟩)
theorem pu_ixS {k : Nat} {z : Str} {c : Nat} (ha : Pu X a τ (.str z)) (hb : Pu X b τ (.int (k : Int))) (h : z.cps.toList[k]? = some c) (hl : z.length ≤ 1000) (hs : PlainIx b := by exact fun _ _ => rfl) : Pu X (.Subscript a b pos) τ (.str ⟨#[c]⟩) := fun H0 G H σ ok Q q =>
  We.of (pe_ix ix_str pe_we pe_we hs) (ha H0 G H σ ok _ fun v G1 H1 g1 r1 => hb H0 G1 H1 σ (ok.gr g1) _ fun u G2 H2 g2 r2 => by
    cases r1; cases r2
    exact ⟨z, _, c, rfl, rfl, sl1000 hl, atI_nat h, q _ G2 H2 (g1.trans g2) (.str _)⟩)
/-- a slice's part -/
def Po (X : Cx) (e : Option Expr) (τ : List Sl) (o : Option Int) : Prop := match e with
  | none => o = none
  | some e => ∃ i, o = some i ∧ Pu X e τ (.int i)
theorem po_n : Po X none τ none := rfl
theorem po_s {e : Expr} {i : Int} (h : Pu X e τ (.int i)) : Po X (some e) τ (some i) := ⟨i, rfl, h⟩
theorem slice_run {r : V → Option Int → Option Int → Hp → VK → Prop} {lo hi : Option Expr} {ol oh : Option Int} {p2 : Pos} (hr : SlR X r) (ha : Pu X a τ d) (hl : Po X lo τ ol) (hh : Po X hi τ oh) {H0 G H : Hp} {σ : L2.St} (ok : Ok H0 G H τ σ) {Q : VK}
    (q : ∀ v G' H', Gr m0 G H G' H' → Rp G' v d → r v ol oh H' Q) : We X (.Subscript a (.Slice lo hi none p2) pos) σ H Q := by
  have e2 : ∃ th, PO X hi th ∧ ∀ (G1 H1 : Hp), Ok H0 G1 H1 τ σ → ∀ R : Option Int → Hp → Prop, (∀ G' H', Gr m0 G1 H1 G' H' → R oh H') → th σ H1 R := by
    cases hi with
    | none => cases hh; exact ⟨_, po_none, fun G1 H1 k R h => h G1 H1 (.refl k.ex)⟩
    | some e =>
      obtain ⟨i, rfl, h⟩ := hh
      exact ⟨_, po_some pe_we, fun G1 H1 k R h' => h H0 G1 H1 σ k _ fun v G2 H2 g2 r2 => by cases r2; exact ⟨i, rfl, h' G2 H2 g2⟩⟩
  have e1 : ∃ th, PO X lo th ∧ ∀ (G1 H1 : Hp), Ok H0 G1 H1 τ σ → ∀ R : Option Int → Hp → Prop, (∀ G' H', Gr m0 G1 H1 G' H' → R ol H') → th σ H1 R := by
    cases lo with
    | none => cases hl; exact ⟨_, po_none, fun G1 H1 k R h => h G1 H1 (.refl k.ex)⟩
    | some e =>
      obtain ⟨i, rfl, h⟩ := hl
      exact ⟨_, po_some pe_we, fun G1 H1 k R h' => h H0 G1 H1 σ k _ fun v G2 H2 g2 r2 => by cases r2; exact ⟨i, rfl, h' G2 H2 g2⟩⟩
  obtain ⟨t1, p1, q1⟩ := e1
  obtain ⟨t2, p2', q2⟩ := e2
  refine We.of (pe_slice hr pe_we p1 p2') (ha H0 G H σ ok _ fun v G1 H1 g1 r1 => q1 G1 H1 (ok.gr g1) _ fun G2 H2 g2 => q2 G2 H2 ((ok.gr g1).gr g2) _ fun G3 H3 g3 => ?_)
  exact q v G3 H3 ((g1.trans g2).trans g3) (r1.ex (g2.gg.trans g3.gg))
/-- items from lo to hi -/
def cutD (ds : List D) (lo hi : Option Int) : List D := (ds.drop (HT.sIx ds.length 0 lo)).take (HT.sIx ds.length ds.length hi - HT.sIx ds.length 0 lo)
theorem rpa_cut {G : Hp} {vs : List V} {ds : List D} (r : RpA G vs ds) (lo hi : Option Int) : RpA G (cutV vs lo hi) (cutD ds lo hi) := by
  unfold cutV cutD
  rw [r.length]
  exact (r.drop _).take _
theorem nu_slice {lo hi : Option Expr} {ol oh : Option Int} {p2 : Pos} (ha : Pu X a τ (.lst ds)) (hl : Po X lo τ ol) (hh : Po X hi τ oh) : Nu X (.Subscript a (.Slice lo hi none p2) pos) τ (cutD ds ol oh) := fun H0 G H σ ok Q q =>
  slice_run sl_list ha hl hh ok fun v G1 H1 g1 r1 => by
    cases r1 with
    | lst h1 r1 => exact ⟨_, _, rfl, SqL.of (g1.gh _ _ h1), fun p hp => q p _ G1 _ (g1.trans (.newO g1.gh hp)) (g1.gh.back hp) (g1.ex.back hp) upd_same (rpa_cut r1 ol oh)⟩
theorem pu_sliceT {lo hi : Option Expr} {ol oh : Option Int} {p2 : Pos} (ha : Pu X a τ (.tup ds)) (hl : Po X lo τ ol) (hh : Po X hi τ oh) : Pu X (.Subscript a (.Slice lo hi none p2) pos) τ (.tup (cutD ds ol oh)) := fun H0 G H σ ok Q q =>
  slice_run sl_tupA ha hl hh ok fun v G1 H1 g1 r1 => by
    cases r1 with
    | tup h1 r1 =>
      refine ⟨_, _, rfl, SqT.of (g1.gh _ _ h1), fun z => ?_, fun z p hp => q _ _ _ (g1.trans (.new g1.gh hp)) (.tup upd_same ((rpa_cut r1 ol oh).ex (.new (g1.gh.back hp))))⟩
      refine q _ G1 H1 g1 (.tup h1 ?_)
      have := rpa_cut r1 ol oh
      unfold cutV at this
      rw [z.1, z.2, List.drop_zero, Nat.sub_zero, List.take_length] at this
      exact this
/-- len -/
theorem pu_lenL (hm : X.mg "len" = none) (ha : Pu X a τ (.lst ds)) (hg : Gl X "len" := by rfl) (hs : [a].all noStar = true := by rfl) : Pu X (.Call (.Name "len" p) [a] [] pos) τ (.int (ds.length : Int)) :=
  pu_callB call_len_seq (fun vs G H ex r Q q => by
    cases r with
    | cons r r' =>
      cases r'
      cases r with
      | lst h r => exact ⟨_, _, rfl, .inl (SqL.of (ex _ _ h)), by rw [r.length]; exact q _ G H (.refl ex) (.int _)⟩) hm (pas_cons ha pas_nil (by rw [List.all_cons, Bool.and_eq_true] at hs; exact hs.1)) PySem.boot_len hg (by decide) (by decide) hs
theorem pu_lenT (hm : X.mg "len" = none) (ha : Pu X a τ (.tup ds)) (hg : Gl X "len" := by rfl) (hs : [a].all noStar = true := by rfl) : Pu X (.Call (.Name "len" p) [a] [] pos) τ (.int (ds.length : Int)) :=
  pu_callB call_len_seq (fun vs G H ex r Q q => by
    cases r with
    | cons r r' =>
      cases r'
      cases r with
      | tup h r => exact ⟨_, _, rfl, .inr (SqT.of (ex _ _ h)), by rw [r.length]; exact q _ G H (.refl ex) (.int _)⟩) hm (pas_cons ha pas_nil (by rw [List.all_cons, Bool.and_eq_true] at hs; exact hs.1)) PySem.boot_len hg (by decide) (by decide) hs
theorem pu_lenS {z : Str} (hm : X.mg "len" = none) (ha : Pu X a τ (.str z)) (hl : z.length ≤ 1000) (hg : Gl X "len" := by rfl) (hs : [a].all noStar = true := by rfl) : Pu X (.Call (.Name "len" p) [a] [] pos) τ (.int (z.length : Int)) :=
  pu_callB call_len_str (fun vs G H ex r Q q => by
    cases r with
    | cons r r' =>
      cases r'; cases r
      exact ⟨z, rfl, sl1000 hl, q _ G H (.refl ex) (.int _)⟩) hm (pas_cons ha pas_nil (by rw [List.all_cons, Bool.and_eq_true] at hs; exact hs.1)) PySem.boot_len hg (by decide) (by decide) hs
/-- list(xs), list(t), tuple(xs) -/
theorem nu_listL (hm : X.mg "list" = none) (ha : Pu X a τ (.lst ds)) (hg : Gl X "list" := by rfl) (hs : [a].all noStar = true := by rfl) : Nu X (.Call (.Name "list" p) [a] [] pos) τ ds :=
  nu_callTy call_list_of (fun vs G H ex r Q q => by
    cases r with
    | cons r r' =>
      cases r'
      cases r with
      | lst h r => exact ⟨_, _, rfl, .inl (SqL.of (ex _ _ h)), fun l hl => q l _ hl r⟩) hm (pas_cons ha pas_nil (by rw [List.all_cons, Bool.and_eq_true] at hs; exact hs.1)) (by decide +kernel) hg (by decide) (by decide) hs
theorem nu_listT (hm : X.mg "list" = none) (ha : Pu X a τ (.tup ds)) (hg : Gl X "list" := by rfl) (hs : [a].all noStar = true := by rfl) : Nu X (.Call (.Name "list" p) [a] [] pos) τ ds :=
  nu_callTy call_list_of (fun vs G H ex r Q q => by
    cases r with
    | cons r r' =>
      cases r'
      cases r with
      | tup h r => exact ⟨_, _, rfl, .inr (SqT.of (ex _ _ h)), fun l hl => q l _ hl r⟩) hm (pas_cons ha pas_nil (by rw [List.all_cons, Bool.and_eq_true] at hs; exact hs.1)) (by decide +kernel) hg (by decide) (by decide) hs
theorem pu_tupleL (hm : X.mg "tuple" = none) (ha : Pu X a τ (.lst ds)) (hg : Gl X "tuple" := by rfl) (hs : [a].all noStar = true := by rfl) : Pu X (.Call (.Name "tuple" p) [a] [] pos) τ (.tup ds) :=
  pu_callTy call_tuple_of (fun vs G H ex r Q q => by
    cases r with
    | cons r r' =>
      cases r'
      cases r with
      | lst h r => exact ⟨_, _, rfl, .inl ⟨SqL.of (ex _ _ h), fun l hl => q _ _ _ (.new ex hl) (.tup upd_same (r.ex (.new (ex.back hl))))⟩⟩) hm (pas_cons ha pas_nil (by rw [List.all_cons, Bool.and_eq_true] at hs; exact hs.1)) (by decide +kernel) hg (by decide) (by decide) hs
/-- all(list of truths) -/
theorem rp_bools {G : Hp} : ∀ {vs : List V} {bs : List Bool}, RpA G vs (bs.map D.bl) → vs = bs.map V.bl
  | _, [], .nil => rfl
  | _, b :: bs, .cons h r => by cases h; rw [rp_bools r]; rfl
theorem pu_all {bs : List Bool} (hm : X.mg "all" = none) (ha : Pu X a τ (.lst (bs.map D.bl))) (hg : Gl X "all" := by rfl) (hs : [a].all noStar = true := by rfl) (hc : X.calm = true := by rfl) : Pu X (.Call (.Name "all" p) [a] [] pos) τ (.bl (bs.all id)) :=
  pu_callB (cr_all hc) (fun vs G H ex r Q q => by
    cases r with
    | cons r r' =>
      cases r'
      cases r with
      | lst h r =>
        have := rp_bools r
        subst this
        exact ⟨_, bs, rfl, SqL.of (ex _ _ h), q _ G H (.refl ex) (.bl _)⟩) hm (pas_cons ha pas_nil (by rw [List.all_cons, Bool.and_eq_true] at hs; exact hs.1)) (by decide +kernel) hg (by decide) (by decide) hs
end
end R87
namespace R87
open PySem PySem.Spec PyProof.Rows L2
open PySem.W (Datum DatumOrd Tup T4 Holds HoldAll)
/-- Python's sorted of a list of such data -/
def sortT {α : Type} [DecidableEq α] [DatumOrd α] (xs : List α) : List α := xs.mergeSort (PySem.W.dataLe false Datum.toD)
section
variable {α : Type} [DecidableEq α] [DatumOrd α] [En α]
def rSortT (α : Type) [DecidableEq α] [DatumOrd α] [En α] : List V → Hp → VK → Prop := fun vs H Q => ∃ (a : Addr) (xs : List α) (G : Hp), vs = [.ref a] ∧ Ex G H ∧ Rp G (.ref a) (.lst (xs.map En.e)) ∧ ∀ p us, H p = none → RpA G us ((sortT xs).map En.e) → Q (.ref p) (upd H p (.lst us))
theorem each_of {h : Heap} {G : Hp} : ∀ {us : List Value} {vs : List V} {xs : List α}, Vals vs us → RpA G vs (xs.map En.e) → PySem.W.EachIs (fun u x => ∃ v, RelV v u ∧ Rp G v (En.e x)) us xs
  | [], [], [], .nil, .nil => .nil
  | _ :: _, _ :: _, x :: xs, .cons r rs, .cons q qs => .cons ⟨_, r, q⟩ (each_of (h := h) rs qs)
theorem of_each {G : Hp} : ∀ {us : List Value} {xs : List α}, PySem.W.EachIs (fun u x => ∃ v, RelV v u ∧ Rp G v (En.e x)) us xs → ∃ vs, Vals vs us ∧ RpA G vs (xs.map En.e)
  | [], [], .nil => ⟨[], .nil, .nil⟩
  | _ :: _, x :: xs, .cons ⟨v, r, q⟩ rs => let ⟨vs, a, b⟩ := of_each rs; ⟨v :: vs, .cons r a, .cons q b⟩
theorem each_reads {h : Heap} : ∀ {us : List Value} {xs : List α}, (∀ (i : Nat) (u : Value) (x : α), us[i]? = some u → xs[i]? = some x → Holds h u x) → us.length = xs.length → PySem.W.EachIs (fun u x => ∃ as, Reads h u (Datum.toD x) as) us xs
  | [], [], _, _ => .nil
  | u :: us, x :: xs, k, hl => .cons (k 0 u x rfl rfl) (each_reads (fun i u x a b => k (i + 1) u x (by simpa using a) (by simpa using b)) (by simpa using hl))
  | [], _ :: _, _, hl => by simp at hl
  | _ :: _, [], _, hl => by simp at hl
theorem sortable (xs : List α) (h : (∀ a : α, ∃ x r, Datum.toD a = PyData.tuple (x :: r)) ∨ ∀ a : α, Datum.toD a ≠ PyData.none ∧ ∀ ys, Datum.toD a ≠ PyData.tuple ys) : PySem.W.Sortable (xs.map (Datum.toD (α := α))) := by
  rcases h with h | h
  · exact .tuples h
  · exact .others h
variable {X : Cx}
theorem call_sortT {k : Nat} (hr : Room k X.A) (hk : (∀ a : α, ∃ x r, Datum.toD a = PyData.tuple (x :: r)) ∨ ∀ a : α, Datum.toD a ≠ PyData.none ∧ ∀ ys, Datum.toD a ≠ PyData.tuple ys) (hd : Datum.depth α ≤ 60) : CallR X (.builtin "sorted") (rSortT α) := by
  rintro pins s σ H vs us Q I rv ⟨a, xs, G, rfl, ex, r, q⟩
  rw [Vals.ref1 rv]
  obtain ⟨vs, its, r1, rv1, hl, hz⟩ := list_of_rp (u := .none) I ex r
  have hold := RpA.holds I ex r1 rv1
  have hlen : its.length = xs.length := hold.length
  have hxl : xs.length ≤ sizeLine := by rw [← hlen, ← rv1.length]; exact hz
  refine PySem.W.sorted_data (enc := Datum.toD) hl (each_of (h := s.heap) rv1 r1) (each_reads (fun i u x hu hx => ?_) hlen) (PySem.W.AllAlike.of fun a b => DatumOrd.alike a b) (sortable xs hk) hxl (fun b hb => ?_) fun out ho eo => ?_
  · obtain ⟨y, hy, hh⟩ := hold.at hu
    rw [hx] at hy; cases hy
    exact hh
  · have := Datum.depth_le b
    have := hr.units
    omega
  · obtain ⟨ws, a1, a2⟩ := of_each eo
    obtain ⟨ep, he⟩ := PyProof.Rows.sortedAll_at s.heap its (List.toArray out)
    have hw : ws.length ≤ sizeLine := by rw [a2.length, List.length_map, List.length_mergeSort]; exact hxl
    exact ⟨.ref _, upd H (s.heap.objs.size + 1) (.lst ws), I.laid (t' := s.toks) (fun _ _ => PyProof.Rows.sortedAll_old) (Nat.le_succ _) ⟨hw, out, ep, a1, he⟩, rfl, q _ ws (I.hok.fresh (Nat.le_succ _)) a2⟩
end
/-- which data may be sorted: tuples with an item, or no tuples and not None -/
class Sob (α : Type) [DecidableEq α] [DatumOrd α] : Prop where
  h : (∀ a : α, ∃ x r, Datum.toD a = PyData.tuple (x :: r)) ∨ ∀ a : α, Datum.toD a ≠ PyData.none ∧ ∀ ys, Datum.toD a ≠ PyData.tuple ys
instance : Sob Nat := ⟨.inr fun a => ⟨fun z => (nomatch (z : _ = PyData.none)), fun (ys : List PyData) z => (nomatch (z : _ = PyData.tuple ys))⟩⟩
instance : Sob Int := ⟨.inr fun a => ⟨fun z => (nomatch (z : _ = PyData.none)), fun (ys : List PyData) z => (nomatch (z : _ = PyData.tuple ys))⟩⟩
instance : Sob Str := ⟨.inr fun a => ⟨fun z => (nomatch (z : _ = PyData.none)), fun (ys : List PyData) z => (nomatch (z : _ = PyData.tuple ys))⟩⟩
instance {α β : Type} [DecidableEq α] [DatumOrd α] [DecidableEq β] [DatumOrd β] : Sob (α × β) := ⟨.inl fun a => ⟨_, _, rfl⟩⟩
instance {α β γ δ : Type} [DecidableEq α] [DatumOrd α] [DecidableEq β] [DatumOrd β] [DecidableEq γ] [DatumOrd γ] [DecidableEq δ] [DatumOrd δ] : Sob (T4 α β γ δ) := ⟨.inl fun a => ⟨_, _, rfl⟩⟩
section
variable {X : Cx} {τ : List Sl} {a b c : Expr} {pos p : Pos} {ds es : List D} {d : D} {n : Str}
/-- sorted(xs) -/
theorem nu_sorted {α : Type} [DecidableEq α] [DatumOrd α] [En α] [Sob α] {k : Nat} {xs : List α} (hr : Room k X.A) (hm : X.mg "sorted" = none) (ha : Pu X a τ (.lst (xs.map En.e))) (hd : Datum.depth α ≤ 60 := by decide) (hg : Gl X "sorted" := by rfl) (hs : [a].all noStar = true := by rfl) :
    Nu X (.Call (.Name "sorted" p) [a] [] pos) τ ((sortT xs).map En.e) :=
  nu_callB (call_sortT hr Sob.h hd) (fun vs G H ex r Q q => by
    cases r with
    | cons r r' =>
      cases r'
      cases r with
      | lst h r => exact ⟨_, xs, G, rfl, ex, .lst h r, fun p us hp ru => q p us hp ru⟩) hm (pas_cons ha pas_nil (by rw [List.all_cons, Bool.and_eq_true] at hs; exact hs.1)) (by decide +kernel) hg (by decide) (by decide) hs
/-- a tuple sorted -/
def rSortU (α : Type) [DecidableEq α] [DatumOrd α] [En α] : List V → Hp → VK → Prop := rSortT α
/-- xs.index(x) -/
def rIndexT (α : Type) [DecidableEq α] [Datum α] [En α] : V → List V → Hp → VK → Prop := fun o vs H Q => ∃ (l : Addr) (v : V) (x : α) (xs : List α) (G : Hp), o = .ref l ∧ vs = [v] ∧ Ex G H ∧ Rp G (.ref l) (.lst (xs.map En.e)) ∧ Rp G v (En.e x) ∧ x ∈ xs ∧ Q (.int (xs.idxOf x : Nat)) H
theorem mt_indexT {α : Type} [DecidableEq α] [Datum α] [En α] {k : Nat} (hr : Room k X.A) (hd : Datum.depth α ≤ 60) : MtR X "list.index" (rIndexT α) := by
  rintro pins s σ H o vs ov us Q I ro rv ⟨l, v, x, xs, G, rfl, rfl, ex, r1, r2, hx, q⟩
  cases ro
  obtain ⟨u, rfl, ru⟩ := Vals.one rv
  obtain ⟨ws, its, r3, rv3, hl, hz⟩ := list_of_rp (u := .none) I ex r1
  have hold := RpA.holds I ex r3 rv3
  exact PySem.W.index_list_datum hl hold (Rp.holds I ex r2 ru) (roomD hr hd).2.1 (by rw [← hold.length, ← rv3.length]; exact hz) hx ⟨.int _, H, I.tok _, ⟨_, rfl⟩, q⟩
theorem pu_index {α : Type} [DecidableEq α] [Datum α] [En α] {k : Nat} {xs : List α} {x : α} {p2 p3 : Pos} (hr : Room k X.A) (ho : Pu X a τ (.lst (xs.map En.e))) (ha : Pu X b τ (En.e x)) (hx : x ∈ xs) (hd : Datum.depth α ≤ 60 := by decide) (hs : noStar b = true := by rfl)
    (he : PE X (.Call (.Attribute a "index" p2) [b] [] p3) (tBM X.K "list" (rIndexT α) (We X a) (tCons (We X b) tNil)) := by exact pe_bm PySem.F.plainAttrs_list PySem.F.slot_list_index PySem.F.type_list_index (mt_indexT (by assumption) (by decide)) pe_we (pa_cons pe_we pa_nil)) :
    Pu X (.Call (.Attribute a "index" p2) [b] [] p3) τ (.int (xs.idxOf x : Nat)) := fun H0 G H σ ok Q q =>
  We.of he (ho H0 G H σ ok _ fun v G1 H1 g1 r1 => by
    cases r1 with
    | lst h1 r1 =>
      refine ⟨Or.inl ⟨rfl, _, SqL.of (g1.gh _ _ h1)⟩, ?_⟩
      show We X b σ H1 (fun u H2 => rIndexT α _ [u] H2 Q)
      exact ha H0 G1 H1 σ (ok.gr g1) _ fun u G2 H2 g2 r2 => ⟨_, u, x, xs, G2, rfl, rfl, g2.gh, .lst (g2.gg _ _ h1) (r1.ex g2.gg), r2, hx, q _ G2 H2 (g1.trans g2) (.int _)⟩)
end
/-- min(a, b), max(a, b) as Python tells them -/
def minT {α : Type} [DecidableEq α] [DatumOrd α] (x y : α) : α := if DatumOrd.lt y x = true then y else x
def maxT {α : Type} [DecidableEq α] [DatumOrd α] (x y : α) : α := if DatumOrd.lt x y = true then y else x
section
variable {prog : Program} {w : World} {A : Around} {E : Value → Shared → Prop} {s : Shared} {α : Type} [DecidableEq α] [DatumOrd α] {x y : α} {a b : Value}
/-- what is asked of the two that are compared -/
theorem two_data {h : Heap} (ra : Holds h a x) (rb : Holds h b y) : ∃ as, ReadsAll h [a, b] ([x, y].map Datum.toD) as := HoldAll.cons ra (HoldAll.cons rb HoldAll.nil)
theorem two_pick {v : Value} {f : Nat → Nat → Bool} {c : Bool} (hf : f 1 0 = c) (hp : #[a, b][argBest f (#[a, b].size - 1)]? = some v) : v = if c = true then b else a := by
  subst hf
  have e : argBest f (#[a, b].size - 1) = if f 1 0 = true then 1 else 0 := rfl
  rw [e] at hp
  cases q : f 1 0 <;> rw [q] at hp <;> simpa using hp.symm
theorem two_lt {A' : Around} (ra : Holds s.heap a x) (rb : Holds s.heap b y) (hu : A'.units + Datum.depth α < cLine) :
    CmpIn prog w A' .Lt s.heap (fun i v => #[a, b][i]? = some v) (fun i j => PySem.W.dataLt (([x, y].map Datum.toD).getD i .none) (([x, y].map Datum.toD).getD j .none)) := by
  obtain ⟨as, rs⟩ := two_data ra rb
  exact PySem.W.cmpIn_lt (vs := #[a, b]) rs (PySem.W.alikeAll_datum [x, y]) (PySem.W.room_all (PySem.W.depthAll_map [x, y]) hu)
theorem two_gt {A' : Around} (ra : Holds s.heap a x) (rb : Holds s.heap b y) (hu : A'.units + Datum.depth α < cLine) :
    CmpIn prog w A' .Gt s.heap (fun i v => #[a, b][i]? = some v) (fun i j => PySem.W.dataLt (([x, y].map Datum.toD).getD j .none) (([x, y].map Datum.toD).getD i .none)) := by
  obtain ⟨as, rs⟩ := two_data ra rb
  exact PySem.W.cmpIn_gt (vs := #[a, b]) rs (PySem.W.alikeAll_datum [x, y]) (PySem.W.room_all (PySem.W.depthAll_map [x, y]) hu)
theorem lst_min2 {l : Addr} {Q : Value → Shared → Prop} (hh : A.handled = none) (hl : s.heap.IsList l #[a, b]) (ra : Holds s.heap a x) (rb : Holds s.heap b y) (hu : A.units + 1 + Datum.depth α < cLine)
    (h : ∀ h' tk, (∀ c o, s.heap.get? c = some o → h'.get? c = some o) → Q (if DatumOrd.lt y x = true then b else a) { s with heap := h', toks := tk }) : wpAny (model prog w) A (call (.builtin "min") [.ref l]) Q E s :=
  call_min_walkH (PySem.W.iter_listW (A := A.in1) hh hl fun s2 e W st hfp hw hk => ⟨_, _, _, _, _, _, _, s.heap, _, rfl, W, st, hfp, by simp, hw, hk, two_lt (A' := A.in1) ra rb hu, fun v s' hp m => by
    obtain ⟨h', tk, rfl, hk'⟩ := PySem.W.moved_old e rfl m
    rw [two_pick (DatumOrd.lt_eq y x) hp]
    exact h h' tk hk'⟩)
theorem lst_max2 {l : Addr} {Q : Value → Shared → Prop} (hh : A.handled = none) (hl : s.heap.IsList l #[a, b]) (ra : Holds s.heap a x) (rb : Holds s.heap b y) (hu : A.units + 1 + Datum.depth α < cLine)
    (h : ∀ h' tk, (∀ c o, s.heap.get? c = some o → h'.get? c = some o) → Q (if DatumOrd.lt x y = true then b else a) { s with heap := h', toks := tk }) : wpAny (model prog w) A (call (.builtin "max") [.ref l]) Q E s :=
  call_max_walkH (PySem.W.iter_listW (A := A.in1) hh hl fun s2 e W st hfp hw hk => ⟨_, _, _, _, _, _, _, s.heap, _, rfl, W, st, hfp, by simp, hw, hk, two_gt (A' := A.in1) ra rb hu, fun v s' hp m => by
    obtain ⟨h', tk, rfl, hk'⟩ := PySem.W.moved_old e rfl m
    rw [two_pick (DatumOrd.lt_eq x y) hp]
    exact h h' tk hk'⟩)
/-- iter of a tuple just laid -/
theorem iter_laid {l : Addr} {Q : Value → Shared → Prop} {s0 : Shared} (hh : A.handled = none) (hl : s0.heap.IsTuple l #[a, b]) (ho : ∀ c o, s.heap.get? c = some o → s0.heap.get? c = some o ∧ c < s0.heap.objs.size) (hg : ∃ tk, s0 = { s with heap := s0.heap, toks := tk }) (ra : Holds s.heap a x) (rb : Holds s.heap b y)
    (h : ∀ s2 : Shared, ∀ W : WalksS prog w A s0.heap.objs.size [s0.heap.objs.size, l] [s0.heap.objs.size] (fun a b => b = a) 2 (fun i v => #[a, b][i]? = some v) (fun i s' => s'.heap.IsTupleIter s0.heap.objs.size l i ∧ s'.heap.IsTuple l #[a, b]),
      (s2.heap.IsTupleIter s0.heap.objs.size l 0 ∧ s2.heap.IsTuple l #[a, b]) → (∀ c ∈ [s0.heap.objs.size, l], c < s2.heap.objs.size) → (∀ c o, s.heap.get? c = some o → c ∉ [s0.heap.objs.size]) → (∀ c o, s.heap.get? c = some o → s2.heap.get? c = some o) →
      (∀ s', Moved [s0.heap.objs.size] (fun a b => b = a) s2 s' → ∃ h' tk, s' = { s with heap := h', toks := tk } ∧ ∀ c o, s.heap.get? c = some o → h'.get? c = some o) → Q (.ref s0.heap.objs.size) s2) :
    wpAny (model prog w) A (pyIter (.ref l)) Q E s0 :=
  PySem.W.iter_tupleW (A := A) hh hl fun s2 e W st hfp hw hk => h s2 W st hfp (fun c o z => hw c o (ho c o z).1) (fun c o z => hk c o (ho c o z).1) fun s' m => by
    obtain ⟨h', tk, rfl, hk'⟩ := PySem.W.moved_old e rfl m
    obtain ⟨tk0, e0⟩ := hg
    refine ⟨h', tk, ?_, fun c o z => hk' c o (ho c o z).1⟩
    rw [e0]
theorem two_min {Q : Value → Shared → Prop} (hh : A.handled = none) (ra : Holds s.heap a x) (rb : Holds s.heap b y) (hu : A.units + 1 + Datum.depth α < cLine)
    (h : ∀ h' tk, (∀ c o, s.heap.get? c = some o → h'.get? c = some o) → Q (if DatumOrd.lt y x = true then b else a) { s with heap := h', toks := tk }) : wpAny (model prog w) A (call (.builtin "min") [a, b]) Q E s := by
  refine call_function_tree F.kind_min F.plain_min F.entry_min (F.args_min2 a b) ?_
  have he : Builtin.Builtins.bindParams "min" ["key", "default"] 0 ⟨[], []⟩ = pure [none, none] := rfl
  show wpAny (model prog w) A.in1 (Builtin.Builtins.bindParams "min" ["key", "default"] 0 ⟨[], []⟩ >>= _) _ _ s; refine wpAny_bind (wpAny_of_eq he ?_); show wpAny (model prog w) A.in1 (newTuple [a, b] >>= _) _ _ s
  refine wpAny_bind (wpAny_newObj_type (wpAny_bind ?_))
  have hT : (s.heap.push { cls := .type "tuple", data := .seq #[a, b] }).IsTuple s.heap.objs.size #[a, b] := ⟨_, Heap.get?_push_size _ rfl, rfl, 0, rfl⟩
  refine iter_laid (A := A.in1) (s := s) (a := a) (b := b) (x := x) (y := y) hh hT (fun c o z => ⟨Heap.get?_push_of_some _ z, by rw [Heap.size_push]; exact Nat.lt_succ_of_lt (Heap.lt_size z)⟩) ⟨s.toks, rfl⟩ ra rb fun s2 W st hfp hw hk hm => ?_
  refine wpAny_bind (wpAny_newObj_type ?_)
  rw [show (toString "min" ++ toString ".loop" : String) = "min.loop" from by decide]
  have hS : s2.heap.objs.size ∉ [(s.heap.push { cls := .type "tuple", data := .seq #[a, b] }).objs.size, s.heap.objs.size] := fun z => Nat.lt_irrefl _ (hfp _ z)
  refine wpAny_pure ⟨plainId_quiet F.plain_min_loop _, codeAny_min_loop_firstH W s.heap hw _ (two_lt (A' := A.in1) ra rb hu) s2.heap.objs.size hS (fresh_in hk) _ (by decide) (fun c o z => Heap.get?_push_of_some _ (hk c o z))
    (W.frame 0 s2 _ s2.toks st (Nat.le_refl _) fun c _ o z => Heap.get?_push_of_some _ z) (Heap.get?_push_size _ rfl) fun v s' hp m => ?_⟩
  obtain ⟨h', tk, rfl, hk'⟩ := hm s' (Moved.drop_new (tk := s2.toks) m (Nat.le_refl _))
  rw [two_pick (a := a) (b := b) (DatumOrd.lt_eq y x) hp]
  exact h h' tk hk'
theorem two_max {Q : Value → Shared → Prop} (hh : A.handled = none) (ra : Holds s.heap a x) (rb : Holds s.heap b y) (hu : A.units + 1 + Datum.depth α < cLine)
    (h : ∀ h' tk, (∀ c o, s.heap.get? c = some o → h'.get? c = some o) → Q (if DatumOrd.lt x y = true then b else a) { s with heap := h', toks := tk }) : wpAny (model prog w) A (call (.builtin "max") [a, b]) Q E s := by
  refine call_function_tree F.kind_max F.plain_max F.entry_max (F.args_max2 a b) ?_
  have he : Builtin.Builtins.bindParams "max" ["key", "default"] 0 ⟨[], []⟩ = pure [none, none] := rfl
  show wpAny (model prog w) A.in1 (Builtin.Builtins.bindParams "max" ["key", "default"] 0 ⟨[], []⟩ >>= _) _ _ s; refine wpAny_bind (wpAny_of_eq he ?_); show wpAny (model prog w) A.in1 (newTuple [a, b] >>= _) _ _ s
  refine wpAny_bind (wpAny_newObj_type (wpAny_bind ?_))
  have hT : (s.heap.push { cls := .type "tuple", data := .seq #[a, b] }).IsTuple s.heap.objs.size #[a, b] := ⟨_, Heap.get?_push_size _ rfl, rfl, 0, rfl⟩
  refine iter_laid (A := A.in1) (s := s) (a := a) (b := b) (x := x) (y := y) hh hT (fun c o z => ⟨Heap.get?_push_of_some _ z, by rw [Heap.size_push]; exact Nat.lt_succ_of_lt (Heap.lt_size z)⟩) ⟨s.toks, rfl⟩ ra rb fun s2 W st hfp hw hk hm => ?_
  refine wpAny_bind (wpAny_newObj_type ?_)
  rw [show (toString "max" ++ toString ".loop" : String) = "max.loop" from by decide]
  have hS : s2.heap.objs.size ∉ [(s.heap.push { cls := .type "tuple", data := .seq #[a, b] }).objs.size, s.heap.objs.size] := fun z => Nat.lt_irrefl _ (hfp _ z)
  refine wpAny_pure ⟨plainId_quiet F.plain_max_loop _, codeAny_max_loop_firstH W s.heap hw _ (two_gt (A' := A.in1) ra rb hu) s2.heap.objs.size hS (fresh_in hk) _ (by decide) (fun c o z => Heap.get?_push_of_some _ (hk c o z))
    (W.frame 0 s2 _ s2.toks st (Nat.le_refl _) fun c _ o z => Heap.get?_push_of_some _ z) (Heap.get?_push_size _ rfl) fun v s' hp m => ?_⟩
  obtain ⟨h', tk, rfl, hk'⟩ := hm s' (Moved.drop_new (tk := s2.toks) m (Nat.le_refl _))
  rw [two_pick (a := a) (b := b) (DatumOrd.lt_eq x y) hp]
  exact h h' tk hk'
end
section
variable {X : Cx} {α : Type} [DecidableEq α] [DatumOrd α] [En α]
def rTwo (α : Type) [DecidableEq α] [DatumOrd α] [En α] (f : α → α → α) : List V → Hp → VK → Prop := fun vs H Q => ∃ (v u : V) (x y : α) (G : Hp), vs = [v, u] ∧ Ex G H ∧ Rp G v (En.e x) ∧ Rp G u (En.e y) ∧ ∀ w, Rp G w (En.e (f x y)) → Q w H
def rTwoL (α : Type) [DecidableEq α] [DatumOrd α] [En α] (f : α → α → α) : List V → Hp → VK → Prop := fun vs H Q => ∃ (l : Addr) (x y : α) (G : Hp), vs = [.ref l] ∧ Ex G H ∧ Rp G (.ref l) (.lst [En.e x, En.e y]) ∧ ∀ w, Rp G w (En.e (f x y)) → Q w H
theorem pick_end {pins : List (Addr × Obj)} {σ : L2.St} {H G : Hp} {s : Shared} (I : Inv X pins σ H s) {v u : V} {a b : Value} {c : Bool} {x y : α} {f : α → α → α} {Q : VK} (r1 : Rp G v (En.e x)) (r2 : Rp G u (En.e y)) (ra : RelV v a) (rb : RelV u b) (hf : f x y = if c = true then y else x)
    (q : ∀ w, Rp G w (En.e (f x y)) → Q w H) {h' : Heap} {tk : _} (k : ∀ c o, s.heap.get? c = some o → h'.get? c = some o) : EP X pins σ Q (if c = true then b else a) { s with heap := h', toks := tk } := by
  cases c with
  | true => exact ⟨u, H, I.kept k, rb, q u (by rw [hf]; exact r2)⟩
  | false => exact ⟨v, H, I.kept k, ra, q v (by rw [hf]; exact r1)⟩
variable {k : Nat}
theorem call_min2T (hr : Room k X.A) (hd : Datum.depth α ≤ 60) (hc : X.calm = true) : CallR X (.builtin "min") (rTwo α minT) := by
  rintro pins s σ H vs us Q I rv ⟨v, u, x, y, G, rfl, ex, r1, r2, q⟩
  obtain ⟨a, b, rfl, ra, rb⟩ := vals2 rv
  exact two_min (I.ok.hd hc) (Rp.holds I ex r1 ra) (Rp.holds I ex r2 rb) (roomD hr hd).2.1 fun h' tk k => pick_end I r1 r2 ra rb rfl q k
theorem call_max2T (hr : Room k X.A) (hd : Datum.depth α ≤ 60) (hc : X.calm = true) : CallR X (.builtin "max") (rTwo α maxT) := by
  rintro pins s σ H vs us Q I rv ⟨v, u, x, y, G, rfl, ex, r1, r2, q⟩
  obtain ⟨a, b, rfl, ra, rb⟩ := vals2 rv
  exact two_max (I.ok.hd hc) (Rp.holds I ex r1 ra) (Rp.holds I ex r2 rb) (roomD hr hd).2.1 fun h' tk k => pick_end I r1 r2 ra rb rfl q k
theorem rp_two {G : Hp} {ws : List V} {d e : D} (r : RpA G ws [d, e]) : ∃ v u, ws = [v, u] ∧ Rp G v d ∧ Rp G u e := by
  cases r with
  | cons r1 r => cases r with
    | cons r2 r => cases r; exact ⟨_, _, rfl, r1, r2⟩
theorem call_minLT (hr : Room k X.A) (hd : Datum.depth α ≤ 60) (hc : X.calm = true) : CallR X (.builtin "min") (rTwoL α minT) := by
  rintro pins s σ H vs us Q I rv ⟨l, x, y, G, rfl, ex, r, q⟩
  rw [Vals.ref1 rv]
  obtain ⟨ws, its, r3, rv3, hl, hz⟩ := list_of_rp (u := .none) I ex r
  obtain ⟨v, u, rfl, r1, r2⟩ := rp_two r3
  obtain ⟨a, b, rfl, ra, rb⟩ := vals2 rv3
  exact lst_min2 (I.ok.hd hc) hl (Rp.holds I ex r1 ra) (Rp.holds I ex r2 rb) (roomD hr hd).2.1 fun h' tk k => pick_end I r1 r2 ra rb rfl q k
theorem call_maxLT (hr : Room k X.A) (hd : Datum.depth α ≤ 60) (hc : X.calm = true) : CallR X (.builtin "max") (rTwoL α maxT) := by
  rintro pins s σ H vs us Q I rv ⟨l, x, y, G, rfl, ex, r, q⟩
  rw [Vals.ref1 rv]
  obtain ⟨ws, its, r3, rv3, hl, hz⟩ := list_of_rp (u := .none) I ex r
  obtain ⟨v, u, rfl, r1, r2⟩ := rp_two r3
  obtain ⟨a, b, rfl, ra, rb⟩ := vals2 rv3
  exact lst_max2 (I.ok.hd hc) hl (Rp.holds I ex r1 ra) (Rp.holds I ex r2 rb) (roomD hr hd).2.1 fun h' tk k => pick_end I r1 r2 ra rb rfl q k
variable {τ : List Sl} {a b : Expr} {pos p : Pos} {x y : α}
theorem dc_two {f : α → α → α} : DCall (rTwo α f) [En.e x, En.e y] (En.e (f x y)) := fun vs G H ex r Q q => by
  obtain ⟨v, u, rfl, r1, r2⟩ := rp_two r
  exact ⟨v, u, x, y, G, rfl, ex, r1, r2, fun w rw => q w G H (.refl ex) rw⟩
theorem dc_twoL {f : α → α → α} : DCall (rTwoL α f) [.lst [En.e x, En.e y]] (En.e (f x y)) := fun vs G H ex r Q q => by
  cases r with
  | cons r r' =>
    cases r'
    cases r with
    | lst h r => exact ⟨_, x, y, G, rfl, ex, .lst h r, fun w rw => q w G H (.refl ex) rw⟩
theorem pu_min2 (hr : Room k X.A) (hm : X.mg "min" = none) (ha : Pu X a τ (En.e x)) (hb : Pu X b τ (En.e y)) (hd : Datum.depth α ≤ 60 := by decide) (hg : Gl X "min" := by rfl) (h1 : noStar a = true := by rfl) (h2 : noStar b = true := by rfl) (hc : X.calm = true := by rfl) : Pu X (.Call (.Name "min" p) [a, b] [] pos) τ (En.e (minT x y)) :=
  pu_callB (call_min2T hr hd hc) dc_two hm (pas_cons ha (pas_cons hb pas_nil h2) h1) (by decide +kernel) hg (by decide) (by decide) (by rw [List.all_cons, List.all_cons, h1, h2]; rfl)
theorem pu_max2 (hr : Room k X.A) (hm : X.mg "max" = none) (ha : Pu X a τ (En.e x)) (hb : Pu X b τ (En.e y)) (hd : Datum.depth α ≤ 60 := by decide) (hg : Gl X "max" := by rfl) (h1 : noStar a = true := by rfl) (h2 : noStar b = true := by rfl) (hc : X.calm = true := by rfl) : Pu X (.Call (.Name "max" p) [a, b] [] pos) τ (En.e (maxT x y)) :=
  pu_callB (call_max2T hr hd hc) dc_two hm (pas_cons ha (pas_cons hb pas_nil h2) h1) (by decide +kernel) hg (by decide) (by decide) (by rw [List.all_cons, List.all_cons, h1, h2]; rfl)
theorem pu_minL (hr : Room k X.A) (hm : X.mg "min" = none) (ha : Pu X a τ (.lst [En.e x, En.e y])) (hd : Datum.depth α ≤ 60 := by decide) (hg : Gl X "min" := by rfl) (h1 : noStar a = true := by rfl) (hc : X.calm = true := by rfl) : Pu X (.Call (.Name "min" p) [a] [] pos) τ (En.e (minT x y)) :=
  pu_callB (call_minLT hr hd hc) dc_twoL hm (pas_cons ha pas_nil h1) (by decide +kernel) hg (by decide) (by decide) (by rw [List.all_cons, h1]; rfl)
theorem pu_maxL (hr : Room k X.A) (hm : X.mg "max" = none) (ha : Pu X a τ (.lst [En.e x, En.e y])) (hd : Datum.depth α ≤ 60 := by decide) (hg : Gl X "max" := by rfl) (h1 : noStar a = true := by rfl) (hc : X.calm = true := by rfl) : Pu X (.Call (.Name "max" p) [a] [] pos) τ (En.e (maxT x y)) :=
  pu_callB (call_maxLT hr hd hc) dc_twoL hm (pas_cons ha pas_nil h1) (by decide +kernel) hg (by decide) (by decide) (by rw [List.all_cons, h1]; rfl)
end
end R87
namespace R87
open PySem PySem.Spec PyProof.Rows L2
/-- the new set -/
abbrev set0 (w : World) : Obj := { cls := .type "set", dict := none, data := .set #[] 0 (.fresh 0 0 (!w.params.followText "set-order")) }
/-- what a set keeps while it is filled from items -/
structure Fill (P : Program) (w : World) (a : Addr) (items : Array Value) (J : Nat → Heap → Prop) : Prop where
  new : ∀ h : Heap, h.get? a = some (set0 w) → J 0 h
  keep : ∀ i (h h' : Heap), J i h → (∀ o, h.get? a = some o → h'.get? a = some o) → J i h'
  add : ∀ i v, items[i]? = some v → ∀ (A : Around) (s : Shared) (Q : Bool → Shared → Prop) (E : Value → Shared → Prop), J i s.heap → (∀ h' tk b, Heap.SameBut a s.heap h' → J (i + 1) h' → s.toks ≤ tk → Q b { s with heap := h', toks := tk }) → wpAny (model P w) A (setAdd a v) Q E s
section
variable {P : Program} {w : World} {A : Around} {E : Value → Shared → Prop} {s : Shared}
theorem fill_go {I S : Addr} {fp wr : List Addr} {g : Array GenState → Array GenState → Prop} {n : Nat} {St : Nat → Shared → Prop} {R : Result → Shared → Prop} {items : Array Value} {J : Nat → Heap → Prop}
    (W : WalksS P w A.in1 I fp wr g n (fun i v => items[i]? = some v) St) (F : Fill P w S items J) (hS : S ∉ fp) : ∀ (m i : Nat) (s : Shared), n - i = m → i ≤ n → St i s → J i s.heap → (∀ s', Moved (S :: wr) g s s' → J n s'.heap → R (.ok (.ret .none)) s') →
      codeAny (model P w) A (.builtin "set.update.loop" ⟨[.ref S, .ref I], []⟩) R s := by
  have nw : S ∉ wr := fun z => hS (W.sub _ z)
  have up : ∀ b ∈ wr, b ∈ S :: wr := fun b hb => .tail _ hb
  intro m
  induction m with
  | zero =>
    intro i s hm hi st j fin
    obtain rfl : i = n := by omega
    refine codeAny_builtin PyProof.Rows.F.entry_set_update_loop ?_
    rw [Around.under_plainId PyProof.Rows.F.plain_set_update_loop ⟨[.ref S, .ref I], []⟩]
    show wpAny (model P w) A.in1 (pyNext (.ref I) >>= _) _ _ s; refine wpAny_bind (W.done s _ _ st fun s' mv => ?_)
    show wpAny (model P w) A.in1 (ret Value.none) _ _ s'; exact wpAny_pure (fin s' (mv.mono up) (F.keep i _ _ j fun o e => mv.heap S o nw e))
  | succ m ih =>
    intro i s hm hi st j fin
    have lt : i < n := by omega
    refine codeAny_builtin PyProof.Rows.F.entry_set_update_loop ?_
    rw [Around.under_plainId PyProof.Rows.F.plain_set_update_loop ⟨[.ref S, .ref I], []⟩]
    show wpAny (model P w) A.in1 (pyNext (.ref I) >>= _) _ _ s; refine wpAny_bind (W.item i s _ _ lt st fun v s' hv st' mv => ?_)
    have j' := F.keep i _ _ j fun o e => mv.heap S o nw e
    show wpAny (model P w) A.in1 (holding [v] (setAdd S v) >>= _) _ _ s'; refine wpAny_bind (wpAny_holding (F.add i v hv _ s' _ _ j' fun h' tk b sb j2 le => ?_))
    have k1 : ∀ b, b ≠ S → ∀ o, s'.heap.get? b = some o → h'.get? b = some o := fun b z o e => by rw [sb.2 b z]; exact e
    refine wpAny_pure ⟨plainId_quiet PyProof.Rows.F.plain_set_update_loop _, ih (i + 1) _ (by omega) lt (W.frame _ s' _ _ st' le fun b hb o e => k1 b (fun z => hS (z ▸ hb)) o e) j2 fun s2 mv2 j3 => fin s2 ?_ j3⟩
    exact Moved.trans W.gtrans ((mv.mono up).then_heap le fun b o hb e => k1 b (fun z => hb (z ▸ .head _)) o e) mv2
theorem call_set_fill {l : Addr} {items : Array Value} {J : Nat → Heap → Prop} {Q : Value → Shared → Prop} (hh : A.handled = none) (hl : s.heap.IsList l items) (F : Fill P w s.heap.objs.size items J)
    (h : ∀ (h' : Heap) (tk : Nat), J items.size h' → (∀ b o, s.heap.get? b = some o → h'.get? b = some o) → Q (.ref s.heap.objs.size) { s with heap := h', toks := tk }) : wpAny (model P w) A (call (.type "set") [.ref l]) Q E s := by
  have ⟨c, tl, c1⟩ := PySem.F.called_set.mro; have c2 := PySem.F.called_set.made; have c3 := PySem.F.called_set.sub
  refine wpAny_call (codeAny_of_tree ?_); show wpAny (model P w) _ (callAny (.type "set") _) _ _ _
  refine wpAny_pure ⟨Code.quiet_builtin _ (by decide +kernel), codeAny_builtin PySem.F.entry_type_call ?_⟩
  rw [Around.under_plain (weight_type_call_type "set" [.ref l] []) rfl]
  have c4 := PySem.F.called_set.notType; have c5 := PySem.F.called_set.canCreate; have c6 := PySem.F.typeCall_set_1 (.ref l)
  repeat (any_goals (first | assumption | wp_step))
  have n1 : (s.heap.push (set0 w)).get? s.heap.objs.size = some (set0 w) := Heap.get?_push_size _ rfl
  refine codeAny_mono (code_set_led1 (.ref l) (E := E) (Q₁ := fun u z => u = .ref s.heap.objs.size ∧ z = { s with heap := s.heap.push (set0 w) }) ⟨rfl, rfl⟩) fun r z hr => ?_
  cases r with
  | error e => exact hr
  | ok fl => cases fl with
    | ret u =>
      obtain ⟨rfl, rfl⟩ := hr
      have n2 : Shared.TypeIs { s with heap := s.heap.push (set0 w) } (.ref s.heap.objs.size) "set" := ⟨_, n1, rfl⟩
      have c7 := PySem.F.called_set.init.lookup; have c8 := PySem.F.called_set.init.bind (.ref s.heap.objs.size)
      repeat (any_goals (first | assumption | wp_step))
      refine codeAny_mono (codeAny_call_builtin (R := wants (fun r z => r = .none ∧ ∃ h' tk, z = { s with heap := h', toks := tk } ∧ J items.size h' ∧ (∀ b o, s.heap.get? b = some o → h'.get? b = some o)) E) PySem.F.called_set.init.plain PySem.F.entry_set_init (check_set_init_1 n2 ?_)) fun r z hz => ?_
      · obtain ⟨⟨oc, od, dt, sl⟩, ho, hc, k, hd⟩ := hl
        simp only at hc hd; subst hc; subst hd
        have n3 : (s.heap.push (set0 w)).get? l = some { cls := .type "list", dict := od, data := .seq items k, slots := sl } := Heap.get?_push_of_some _ ho
        have d1 := PySem.F.sub_list_set; have d2 := PySem.F.sub_list_frozenset; have d3 : (Value.type "list" == Value.type "dict") = false := by decide
        have n4 : (s.heap.push (set0 w)).IsList l items := ⟨_, n3, rfl, k, rfl⟩
        unfold Builtin.«set.__init__» noKeywords Builtin.Frozenset.updateFrom
        generalize hPI : pyIter = PI; wp_walk; subst hPI
        refine wpAny_pyIter_list n4 (wpAny_bind (wpAny_runValue ?_))
        have lt := Heap.lt_size ho
        have z1 : (s.heap.push (set0 w)).objs.size = s.heap.objs.size + 1 := Heap.size_push ..
        have ne : l ≠ (s.heap.push (set0 w)).objs.size := by rw [z1]; exact Nat.ne_of_lt (Nat.lt_succ_of_lt lt)
        have nf : s.heap.objs.size ∉ [(s.heap.push (set0 w)).objs.size, l] := by
          rw [z1]; intro z
          rcases List.mem_cons.mp z with z | z
          · exact absurd z (Nat.ne_of_lt (Nat.lt_succ_self _))
          · exact absurd (List.mem_singleton.mp z) (Nat.ne_of_gt lt)
        refine fill_go ((Walks.list (by simp [hh]) _ l ne items).toS) F nf (items.size - 0) 0 _ rfl (Nat.zero_le _) ⟨⟨_, Heap.get?_push_size _ rfl, rfl, rfl⟩, n4.push _⟩ (F.new _ (Heap.get?_push_of_some _ n1)) fun s' mv j => ?_
        obtain ⟨h', g', d', tk', os'⟩ := s'
        obtain rfl : g' = s.gens := mv.gens
        obtain rfl : d' = s.drawn := mv.drawn
        obtain rfl : os' = s.os := mv.os
        show wpAny (model P w) _ _ _ _ _; refine wpAny_pure ?_; show wpAny (model P w) _ (ret Value.none) _ _ _
        refine wpAny_pure ⟨rfl, h', tk', rfl, j, fun b o e => mv.heap b o (fun z => ?_) (Heap.get?_push_of_some _ (Heap.get?_push_of_some _ e))⟩
        have lb := Heap.lt_size e
        rcases List.mem_cons.mp z with z | z
        · exact absurd z (Nat.ne_of_lt lb)
        · have z2 := List.mem_singleton.mp z
          rw [z1] at z2
          exact absurd z2 (Nat.ne_of_lt (Nat.lt_succ_of_lt lb))
      · cases r with
        | error e => exact hz
        | ok fl => cases fl with
          | ret r =>
            obtain ⟨rfl, h', tk, rfl, j, k⟩ := hz
            repeat (any_goals (first | assumption | wp_step))
            exact h _ _ j k
          | _ => exact hz.elim
    | _ => exact hr.elim
end
def dst {α : Type} [DecidableEq α] : List α → List α := List.foldl (fun acc x => if x ∈ acc then acc else acc ++ [x]) []
section
variable {α : Type} [DecidableEq α]
theorem dst_add (xs : List α) (x : α) : dst (xs ++ [x]) = if x ∈ dst xs then dst xs else dst xs ++ [x] := by unfold dst; rw [List.foldl_append]; rfl
theorem rev_ind {p : List α → Prop} (h0 : p []) (h1 : ∀ xs x, p xs → p (xs ++ [x])) (xs : List α) : p xs := by
  have : ∀ n (xs : List α), xs.length = n → p xs := fun n => by
    induction n with
    | zero => intro xs h; rw [List.eq_nil_of_length_eq_zero h]; exact h0
    | succ n ih =>
      intro xs h
      rcases List.eq_nil_or_concat xs with e | ⟨ys, y, e⟩
      · rw [e]; exact h0
      · rw [List.concat_eq_append] at e
        subst e
        exact h1 _ _ (ih ys (by rw [List.length_append, List.length_singleton] at h; omega))
  exact this _ xs rfl
theorem mem_dst {xs : List α} {x : α} : x ∈ dst xs ↔ x ∈ xs := by
  revert xs
  apply rev_ind
  · exact Iff.rfl
  · intro xs y ih
    rw [dst_add, List.mem_append, ← ih, List.mem_singleton]
    split
    · rename_i h
      exact ⟨.inl, fun z => z.elim id fun e => e ▸ h⟩
    · rw [List.mem_append, List.mem_singleton]
theorem nodup_dst (xs : List α) : (dst xs).Nodup := by
  revert xs
  apply rev_ind
  · exact List.nodup_nil
  · intro xs y ih
    rw [dst_add]
    split
    · exact ih
    · rename_i h
      rw [List.nodup_append]
      exact ⟨ih, by simp, fun a ha b hb e => h (by rw [List.mem_singleton] at hb; rw [← hb, ← e]; exact ha)⟩
theorem dst_len (xs : List α) : (dst xs).length ≤ xs.length := by
  revert xs
  apply rev_ind
  · exact Nat.le_refl _
  · intro xs y ih
    rw [dst_add]
    split
    · rw [List.length_append, List.length_singleton]; omega
    · rw [List.length_append, List.length_append, List.length_singleton]; omega
theorem dst_take {xs : List α} {i : Nat} {x : α} (h : xs[i]? = some x) : dst (xs.take (i + 1)) = if x ∈ dst (xs.take i) then dst (xs.take i) else dst (xs.take i) ++ [x] := by
  rw [List.take_add_one, h]; exact dst_add _ _
theorem dst_map {β : Type} [DecidableEq β] {f : α → β} (hf : ∀ a b, f a = f b → a = b) (xs : List α) : dst (xs.map f) = (dst xs).map f := by
  revert xs
  apply rev_ind
  · rfl
  · intro xs y ih
    rw [List.map_append, List.map_singleton, dst_add, dst_add, ih]
    have : f y ∈ (dst xs).map f ↔ y ∈ dst xs := by
      rw [List.mem_map]
      exact ⟨fun ⟨a, ha, e⟩ => hf _ _ e ▸ ha, fun h => ⟨y, h, rfl⟩⟩
    by_cases h : y ∈ dst xs
    · rw [if_pos h, if_pos (this.2 h)]
    · rw [if_neg h, if_neg (fun z => h (this.1 z)), List.map_append]; rfl
theorem nodup_subset_len {xs ys : List α} (h : xs.Nodup) (s : ∀ x ∈ xs, x ∈ ys) : xs.length ≤ ys.length := by
  induction xs generalizing ys with
  | nil => exact Nat.zero_le _
  | cons x xs ih =>
    rw [List.nodup_cons] at h
    have hx := s x (.head _)
    have := ih (ys := ys.erase x) h.2 fun z hz => (List.mem_erase_of_ne (fun e => h.1 (by rw [← e]; exact hz))).2 (s z (.tail _ hz))
    rw [List.length_erase_of_mem hx] at this
    have : 0 < ys.length := List.length_pos_of_mem hx
    rw [List.length_cons]; omega
theorem dst_len_eq {xs ys : List α} (hy : ys.Nodup) (h : ∀ x, x ∈ ys ↔ x ∈ xs) : (dst xs).length = ys.length :=
  Nat.le_antisymm (nodup_subset_len (nodup_dst xs) fun x hx => (h x).2 (mem_dst.1 hx)) (nodup_subset_len hy fun x hx => mem_dst.2 ((h x).1 hx))
theorem dst_nodup {xs : List α} (h : xs.Nodup) : (dst xs).length = xs.length := dst_len_eq h fun _ => Iff.rfl
theorem dst_lt_iff {xs : List α} : (dst xs).length < xs.length ↔ ¬ xs.Nodup := by
  constructor
  · intro h n
    rw [dst_nodup n] at h; omega
  · intro h
    refine Nat.lt_of_le_of_ne (dst_len xs) fun e => h ?_
    revert e
    revert xs
    apply rev_ind (p := fun xs => ¬ xs.Nodup → (dst xs).length = xs.length → xs.Nodup)
    · intro _ _; exact List.nodup_nil
    · intro xs y ih _ e
      have l := dst_len xs
      rw [dst_add] at e
      split at e
      · rw [List.length_append, List.length_singleton] at e; omega
      · rename_i hy
        rw [List.length_append, List.length_append] at e
        have nx : xs.Nodup := Classical.byContradiction fun z => z (ih z (by omega))
        rw [List.nodup_append]
        exact ⟨nx, by simp, fun a ha b hb e => hy (by rw [List.mem_singleton] at hb; rw [← hb, ← e]; exact mem_dst.2 ha)⟩
end
end R87
namespace R87
open PySem PySem.Spec PyProof.Rows L2
open PySem.W (Datum DatumOrd Tup T4 Holds HoldAll)
section
variable {P : Program} {w : World}
theorem scan_ok {n : Nat} (h : n ≤ 1000) : n + 1 < scanBound := Nat.lt_of_le_of_lt (Nat.succ_le_succ h) (by decide)
theorem fill_int {a : Addr} {items : Array Value} {ns : List Int} (hi : ∀ (i : Nat) (v : Value), items[i]? = some v → ∃ k t, ns[i]? = some k ∧ v = .int k t) (hl : ns.length ≤ 1000) :
    Fill P w a items fun i h => SetR w h a (fun j => decide (j ∈ ns.take i)) (dst (ns.take i)).length where
  new := fun h e => setR_new_at e
  keep := fun i h h' R k => R.at k
  add := fun i v hv A s Q E R q => by
    obtain ⟨k, t, hk, rfl⟩ := hi i v hv
    unfold setAdd
    refine wpAny_holding (wpAny_bind ((intKind P w).pyHash (k := k) (intKind_is P w k t) ?_))
    have hb : (dst (ns.take i)).length + 1 < scanBound := scan_ok (Nat.le_trans (Nat.le_trans (dst_len _) (by rw [List.length_take]; exact Nat.min_le_right _ _)) hl)
    refine setR_add_hashed (s := { s with toks := s.toks + 1 }) R hb fun h' sb R2 => q h' _ _ sb ?_ (Nat.le_succ _)
    have e : (dst (ns.take (i + 1))).length = if decide (k ∈ ns.take i) = true then (dst (ns.take i)).length else (dst (ns.take i)).length + 1 := by
      rw [dst_take hk]
      by_cases m : k ∈ ns.take i
      · rw [if_pos (mem_dst.2 m), if_pos (by simpa using m)]
      · rw [if_neg (fun z => m (mem_dst.1 z)), if_neg (by simpa using m), List.length_append]; rfl
    show SetR w h' a _ (dst (ns.take (i + 1))).length
    rw [e]
    exact R2.congr fun j => by rw [List.take_add_one, hk]; simp [List.mem_append]
theorem fill_str {a : Addr} {items : Array Value} {ns : List Str} (hi : ∀ (i : Nat) (v : Value), items[i]? = some v → ∃ k t, ns[i]? = some k ∧ v = .str k t) (hl : ns.length ≤ 1000) :
    Fill P w a items fun i h => h.SetOf (PySem.strKind P w) a (fun j => decide (j ∈ ns.take i)) (dst (ns.take i)).length where
  new := fun h e => PyProof.Rows.SetOf_congr ((PyProof.Rows.setObjOf_fresh (knd := PySem.strKind P w) _).setOf e (by unfold scanBound; omega)) (fun _ => by simp) rfl
  keep := fun i h h' R k => by
    obtain ⟨o, es, ep, t, e, r⟩ := R
    exact ⟨o, es, ep, t, k o e, r⟩
  add := fun i v hv A s Q E R q => by
    obtain ⟨k, t, hk, rfl⟩ := hi i v hv
    unfold setAdd
    refine wpAny_holding (wpAny_bind ((PySem.strKind P w).pyHash (k := k) (strKind_is P w k t) ?_))
    have hb : (dst (ns.take i)).length + 1 < scanBound := scan_ok (Nat.le_trans (Nat.le_trans (dst_len _) (by rw [List.length_take]; exact Nat.min_le_right _ _)) hl)
    refine wpAny_setAddHashed_of (knd := PySem.strKind P w) (s := { s with toks := s.toks + 1 }) (strKind_is P w k t) rfl R hb fun h' sb R2 => q h' _ _ sb ?_ (Nat.le_succ _)
    have e : (dst (ns.take (i + 1))).length = if decide (k ∈ ns.take i) = true then (dst (ns.take i)).length else (dst (ns.take i)).length + 1 := by
      rw [dst_take hk]
      by_cases m : k ∈ ns.take i
      · rw [if_pos (mem_dst.2 m), if_pos (by simpa using m)]
      · rw [if_neg (fun z => m (mem_dst.1 z)), if_neg (by simpa using m), List.length_append]; rfl
    exact PyProof.Rows.SetOf_congr R2 (fun j => by rw [List.take_add_one, hk]; simp [List.mem_append]) e.symm
end
section
variable {X : Cx}
/-- a set of so many members -/
def SzO (p : Addr) (n : Nat) : HO := .ext fun h => ∃ o es ep t, h.get? p = some o ∧ o.ExactSet ∧ o.data = .set es ep t ∧ t.fits es.size = true ∧ es.size = n ∧ n ≤ 1000
def rSetI (w : World) : List V → Hp → VK → Prop := fun vs H Q => ∃ (a : Addr) (ns : List Int) (G : Hp), vs = [.ref a] ∧ Ex G H ∧ Rp G (.ref a) (.lst (ns.map D.int)) ∧ ns.length ≤ 1000 ∧ ∀ p, H p = none → Q (.ref p) (upd H p (SetO w p (fun j => decide (j ∈ ns)) (dst ns).length))
def rSetS : List V → Hp → VK → Prop := fun vs H Q => ∃ (a : Addr) (ns : List Str) (G : Hp), vs = [.ref a] ∧ Ex G H ∧ Rp G (.ref a) (.lst (ns.map D.str)) ∧ ns.length ≤ 1000 ∧ ∀ p, H p = none → Q (.ref p) (upd H p (SzO p (dst ns).length))
theorem rp_int_at {G : Hp} {vs : List V} {us : List Value} {ns : List Int} (r : RpA G vs (ns.map D.int)) (rv : Vals vs us) (i : Nat) (v : Value) (h : us.toArray[i]? = some v) : ∃ k t, ns[i]? = some k ∧ v = .int k t := by
  induction ns generalizing vs us i with
  | nil => cases r; cases rv; simp at h
  | cons n ns ih =>
    cases r with
    | cons r1 r2 => cases rv with
      | cons v1 v2 => cases i with
        | zero =>
          cases r1
          obtain ⟨t, e⟩ := v1
          rw [e] at h
          have : some (Value.int n t) = some v := by simpa using h
          exact ⟨n, t, rfl, (Option.some.inj this).symm⟩
        | succ i =>
          obtain ⟨k, t, a, b⟩ := ih r2 v2 i (by simpa using h)
          exact ⟨k, t, by simpa using a, b⟩
theorem rp_str_at {G : Hp} {vs : List V} {us : List Value} {ns : List Str} (r : RpA G vs (ns.map D.str)) (rv : Vals vs us) (i : Nat) (v : Value) (h : us.toArray[i]? = some v) : ∃ k t, ns[i]? = some k ∧ v = .str k t := by
  induction ns generalizing vs us i with
  | nil => cases r; cases rv; simp at h
  | cons n ns ih =>
    cases r with
    | cons r1 r2 => cases rv with
      | cons v1 v2 => cases i with
        | zero =>
          cases r1
          obtain ⟨t, e⟩ := v1
          rw [e] at h
          have : some (Value.str n t) = some v := by simpa using h
          exact ⟨n, t, rfl, (Option.some.inj this).symm⟩
        | succ i =>
          obtain ⟨k, t, a, b⟩ := ih r2 v2 i (by simpa using h)
          exact ⟨k, t, by simpa using a, b⟩
theorem call_setI (hc : X.calm = true) : CallR X (.type "set") (rSetI X.w) := by
  rintro pins s σ H vs us Q I rv ⟨a, ns, G, rfl, ex, r, hl, q⟩
  rw [Vals.ref1 rv]
  obtain ⟨ws, its, r3, rv3, hL, hz⟩ := list_of_rp (u := .none) I ex r
  have e : its.toArray.size = ns.length := by rw [List.size_toArray, ← rv3.length, r3.length, List.length_map]
  refine call_set_fill (I.ok.hd hc) hL (fill_int (rp_int_at r3 rv3) hl) fun h' tk R k => ?_
  rw [e, List.take_length] at R
  exact ⟨.ref _, upd H s.heap.objs.size _, I.laid (t' := tk) k (Nat.le_refl _) (setO_new R), rfl, q _ (I.hok.fresh (Nat.le_refl _))⟩
theorem call_setS (hc : X.calm = true) : CallR X (.type "set") rSetS := by
  rintro pins s σ H vs us Q I rv ⟨a, ns, G, rfl, ex, r, hl, q⟩
  rw [Vals.ref1 rv]
  obtain ⟨ws, its, r3, rv3, hL, hz⟩ := list_of_rp (u := .none) I ex r
  have e : its.toArray.size = ns.length := by rw [List.size_toArray, ← rv3.length, r3.length, List.length_map]
  refine call_set_fill (I.ok.hd hc) hL (fill_str (rp_str_at r3 rv3) hl) fun h' tk R k => ?_
  rw [e, List.take_length] at R
  obtain ⟨o, es, ep, t, e1, e2, e3, _, _, _, e4, e5⟩ := R
  have new : ObjOk X.prog X.w (upd H s.heap.objs.size (SzO s.heap.objs.size (dst ns).length)) h' s.heap.objs.size (SzO s.heap.objs.size (dst ns).length) :=
    ⟨⟨o, es, ep, t, e1, e2, e3, e4, e5, Nat.le_trans (dst_len _) hl⟩, ⟨o, e1⟩, fun h1 h2 ⟨o, es, ep, t, e, r⟩ k => ⟨o, es, ep, t, k o e, r⟩⟩
  exact ⟨.ref _, upd H s.heap.objs.size _, I.laid (t' := tk) k (Nat.le_refl _) new, rfl, q _ (I.hok.fresh (Nat.le_refl _))⟩
def rLenSz : List V → Hp → VK → Prop := fun vs H Q => ∃ (p : Addr) (n : Nat), vs = [.ref p] ∧ H p = some (SzO p n) ∧ Q (.int n) H
def rLenSO (w : World) : List V → Hp → VK → Prop := fun vs H Q => ∃ (p : Addr) (S : Int → Bool) (n : Nat), vs = [.ref p] ∧ H p = some (SetO w p S n) ∧ n ≤ 1000 ∧ Q (.int n) H
theorem call_lenSz : CallR X (.builtin "len") rLenSz := by
  rintro pins s σ H vs us Q I rv ⟨p, n, rfl, h, q⟩
  rw [Vals.ref1 rv]
  obtain ⟨o, es, ep, t, e1, e2, e3, e4, e5, e6⟩ := (I.hok p _ h).1
  exact call_len_set e1 e2 e3 e4 (by rw [e5]; omega) ⟨.int n, H, I.tok _, ⟨_, by rw [e5]⟩, q⟩
theorem call_lenSO : CallR X (.builtin "len") (rLenSO X.w) := by
  rintro pins s σ H vs us Q I rv ⟨p, S, n, rfl, h, hn, q⟩
  rw [Vals.ref1 rv]
  obtain ⟨o, es, ep, t, e1, e2, e3, _, _, _, _, e4, e5⟩ := setO_get I h
  exact call_len_set e1 e2 e3 e4 (by rw [e5.1]; omega) ⟨.int n, H, I.tok _, ⟨_, by rw [e5.1]⟩, q⟩
variable {τ : List Sl} {a b : Expr} {pos p p2 q2 : Pos}
theorem pe_set {r : List V → Hp → VK → Prop} {t : TE} (hr : CallR X (.type "set") r) (hm : X.mg "set" = none) (ha : PE X a t) (hg : Gl X "set" := by rfl) (hs : noStar a = true := by rfl) : PE X (.Call (.Name "set" p) [a] [] pos) (tCB r (tCons t tNil)) :=
  pe_callTy hr hg hm (by decide +kernel) (pa_cons ha pa_nil (star_cons hs)) (by decide) (by decide) (star_cons hs) rfl
theorem rpl {G : Hp} {v : V} {ds : List D} (r : Rp G v (.lst ds)) : ∃ l, v = .ref l := by cases r with | lst h r => exact ⟨_, rfl⟩
theorem int_map (ns : List Nat) : (ns.map (En.e (α := Nat))) = (ns.map (fun (n : Nat) => (n : Int))).map D.int := by rw [List.map_map]; rfl
/-- len(set(xs)) -/
theorem pu_lenSetS {ns : List Str} (hm : X.mg "len" = none) (hm2 : X.mg "set" = none) (ha : Pu X a τ (.lst (ns.map En.e))) (hl : ns.length ≤ 1000) (hg : Gl X "len" := by rfl) (hg2 : Gl X "set" := by rfl) (hs : noStar a = true := by rfl) (hc : X.calm = true := by rfl) :
    Pu X (.Call (.Name "len" p) [.Call (.Name "set" p2) [a] [] q2] [] pos) τ (.int ((dst ns).length : Int)) := fun H0 G H σ k Q q =>
  We.of (pe_callB call_lenSz hg hm PySem.boot_len (pa_cons (pe_set (call_setS hc) hm2 pe_we hg2 hs) pa_nil)) (ha H0 G H σ k _ fun v G1 H1 g1 r1 => by
    obtain ⟨l, rfl⟩ := rpl r1
    exact ⟨l, ns, G1, rfl, g1.gh, r1, hl, fun t ht => ⟨t, _, rfl, upd_same, q _ G1 _ (g1.trans (.newO g1.gh ht)) (.int _)⟩⟩)
theorem pu_lenSetI {ns : List Nat} (hm : X.mg "len" = none) (hm2 : X.mg "set" = none) (ha : Pu X a τ (.lst (ns.map En.e))) (hl : ns.length ≤ 1000) (hg : Gl X "len" := by rfl) (hg2 : Gl X "set" := by rfl) (hs : noStar a = true := by rfl) (hc : X.calm = true := by rfl) :
    Pu X (.Call (.Name "len" p) [.Call (.Name "set" p2) [a] [] q2] [] pos) τ (.int ((dst ns).length : Int)) := fun H0 G H σ k Q q =>
  We.of (pe_callB call_lenSO hg hm PySem.boot_len (pa_cons (pe_set (call_setI hc) hm2 pe_we hg2 hs) pa_nil)) (ha H0 G H σ k _ fun v G1 H1 g1 r1 => by
    obtain ⟨l, rfl⟩ := rpl r1
    rw [int_map] at r1
    refine ⟨l, _, G1, rfl, g1.gh, r1, by rw [List.length_map]; exact hl, fun t ht => ⟨t, _, _, rfl, upd_same, Nat.le_trans (dst_len _) (by rw [List.length_map]; exact hl), ?_⟩⟩
    rw [dst_map (fun (a b : Nat) (h : (a : Int) = b) => by omega), List.length_map]
    exact q _ G1 _ (g1.trans (.newO g1.gh ht)) (.int _))
/-- the members in rising order -/
def sset (xs : List Nat) : List Nat := (dst xs).mergeSort (fun a b => decide (a ≤ b))
theorem mem_sset {xs : List Nat} {x : Nat} : x ∈ sset xs ↔ x ∈ xs := (List.mergeSort_perm _ _).mem_iff.trans mem_dst
theorem sset_lt (xs : List Nat) : (sset xs).Pairwise (· < ·) := by
  have h1 : (sset xs).Pairwise (fun a b => decide (a ≤ b) = true) := List.pairwise_mergeSort (fun a b c => by simp; omega) (fun a b => by simp; omega) _
  have h2 : (sset xs).Nodup := (List.mergeSort_perm _ _).nodup_iff.2 (nodup_dst xs)
  exact (h1.and h2).imp fun ⟨a, b⟩ => by simp at a; omega
theorem lt_unique : ∀ {xs ys : List Int}, xs.Pairwise (· < ·) → ys.Pairwise (· < ·) → (∀ x, x ∈ xs ↔ x ∈ ys) → xs = ys
  | [], [], _, _, _ => rfl
  | [], y :: ys, _, _, h => absurd ((h y).2 (.head _)) (by simp)
  | x :: xs, [], _, _, h => absurd ((h x).1 (.head _)) (by simp)
  | x :: xs, y :: ys, hx, hy, h => by
    rw [List.pairwise_cons] at hx hy
    have e : x = y := by
      rcases List.mem_cons.mp ((h x).1 (.head _)) with e | m
      · exact e
      · rcases List.mem_cons.mp ((h y).2 (.head _)) with e | m2
        · exact e.symm
        · have := hy.1 x m; have := hx.1 y m2; omega
    subst e
    rw [lt_unique hx.2 hy.2 fun z => ?_]
    have hz := h z
    constructor
    · intro m
      rcases List.mem_cons.mp (hz.1 (.tail _ m)) with e | m2
      · have := hx.1 z m; omega
      · exact m2
    · intro m
      rcases List.mem_cons.mp (hz.2 (.tail _ m)) with e | m2
      · have := hy.1 z m; omega
      · exact m2
theorem rpa_ints {G : Hp} : ∀ ns : List Int, RpA G (ns.map V.int) (ns.map D.int)
  | [] => .nil
  | n :: ns => .cons (.int n) (rpa_ints ns)
theorem nu_sortedSet {ns : List Nat} (hm : X.mg "sorted" = none) (hm2 : X.mg "set" = none) (ha : Pu X a τ (.lst (ns.map En.e))) (hl : ns.length < 64) (hg : Gl X "sorted" := by rfl) (hg2 : Gl X "set" := by rfl) (hs : noStar a = true := by rfl) (hc : X.calm = true := by rfl) :
    Nu X (.Call (.Name "sorted" p) [.Call (.Name "set" p2) [a] [] q2] [] pos) τ ((sset ns).map En.e) := fun H0 G H σ k Q q =>
  We.of (pe_callB (cr_sortedSet hc) hg hm (by decide +kernel) (pa_cons (pe_set (call_setI hc) hm2 pe_we hg2 hs) pa_nil)) (ha H0 G H σ k _ fun v G1 H1 g1 r1 => by
    obtain ⟨l, rfl⟩ := rpl r1
    rw [int_map] at r1
    have hl' : (ns.map (fun (n : Nat) => (n : Int))).length ≤ 1000 := by rw [List.length_map]; omega
    refine ⟨l, _, G1, rfl, g1.gh, r1, hl', fun t ht => ⟨t, _, _, rfl, upd_same, Nat.lt_of_le_of_lt (dst_len _) (by rw [List.length_map]; exact hl), fun zs u hz hm _ hu => ?_⟩⟩
    have e : zs = (sset ns).map (fun (n : Nat) => (n : Int)) := lt_unique hz ((sset_lt ns).map _ fun a b h => by omega) fun x => by
      rw [hm x, decide_eq_true_eq, List.mem_map, List.mem_map]
      exact ⟨fun ⟨y, a, b⟩ => ⟨y, mem_sset.2 a, b⟩, fun ⟨y, a, b⟩ => ⟨y, mem_sset.1 a, b⟩⟩
    have g2 := g1.trans (.newO (o := SetO X.w t (fun j => decide (j ∈ ns.map (fun (n : Nat) => (n : Int)))) (dst (ns.map (fun (n : Nat) => (n : Int)))).length) g1.gh ht)
    refine q u _ G1 _ (g2.trans (.newO g2.gh hu)) (g2.gh.back hu) (g2.ex.back hu) upd_same ?_
    rw [e, int_map]
    exact rpa_ints _)
def tyD : D → Option String
  | .non => some "NoneType" | .bl _ => some "bool" | .int _ => some "int" | .str _ => some "str" | .tup _ => some "tuple" | .lst _ => some "list" | .dic _ => some "dict" | .ins _ _ => none | .tupF _ => some "tuple"
theorem tyD_ok {K : PySem.W.Frag} {G H : Hp} {v : V} {d : D} {T : String} (ex : Ex G H) (r : Rp G v d) (h : tyD d = some T) : TyX K H v (.type T) := by
  cases r <;> cases h
  · exact .base .non
  · exact .base (.bl _)
  · exact .base (.int _)
  · exact .base (.str _)
  · exact .base (.tup (ex _ _ ‹_›))
  · exact .base (.lst (ex _ _ ‹_›))
  · exact .base (.dK (ex _ _ ‹_›))
  · rename_i h _ _
    exact .fTuple (ex _ _ h)
theorem pu_isT {d : D} {n : Str} {T N : String} {r : Bool} (hm : X.mg "isinstance" = none) (hn : X.mg n = none) (ha : Pu X a τ d) (ht : tyD d = some T) (hk : kitB T N = some r) (hb : bootBuiltins n = some (.type N) := by decide +kernel) (hg : Gl X "isinstance" := by rfl) (hg2 : Gl X n := by rfl)
    (h1 : n ≠ "__name__" := by decide) (h2 : (n == ("__debug__" : Str)) = false := by decide) (hs : noStar a = true := by rfl) : Pu X (.Call (.Name "isinstance" p) [a, .Name n p2] [] pos) τ (.bl r) := fun H0 G H σ k Q q =>
  We.of (pe_callB call_isi hg hm (by decide +kernel) (pa_cons pe_we (pa_cons (pe_bltn (v := .ty N) hg2 hn hb rfl h1 h2) pa_nil) (star_cons hs)) (by decide) (by decide) (star_cons hs) rfl) (ha H0 G H σ k _ fun v G1 H1 g1 r1 =>
    ⟨v, .ty N, .type T, .type N, r, rfl, .ty N, tyD_ok g1.gh r1 ht, kit_ty hk, q _ G1 H1 g1 (.bl _)⟩)
/-- what isinstance asks of an own class -/
structure ClsI (K : PySem.W.Frag) (C : Addr) : Prop where
  c : Cls K C
  a : PySem.W.findIn K (.ref C) "__class__" = some (some (.builtin "object.__class__"))
  n : PySem.W.specialIn K (.builtin "object.__class__") "__get__" = some (some (.builtin "getset_descriptor.__get__"))
  t : PySem.W.takesIn K (.builtin "object.__class__") = some true
  m : PySem.W.mroIn K C (.type "object") = some true
theorem pu_isC {n : Str} {C : Addr} {fs : List (Str × D)} (c : ClsI X.K C) (hm : X.mg "isinstance" = none) (hn : X.mg n = some (.ref C)) (ha : Pu X a τ (.ins C fs)) (hg : Gl X "isinstance" := by rfl) (hg2 : Gl X n := by rfl)
    (h2 : (n == ("__debug__" : Str)) = false := by decide) (hs : noStar a = true := by rfl) : Pu X (.Call (.Name "isinstance" p) [a, .Name n p2] [] pos) τ (.bl true) := fun H0 G H σ k Q q =>
  We.of (pe_callB call_isi hg hm (by decide +kernel) (pa_cons pe_we (pa_cons (pe_glob (v := .ref C) hg2 hn rfl h2) pa_nil) (star_cons hs)) (by decide) (by decide) (star_cons hs) rfl) (ha H0 G H σ k _ fun v G1 H1 g1 r1 => by
    cases r1 with
    | ins h r => exact ⟨_, .ref C, .ref C, .ref C, true, rfl, .own C, .base (.ins (g1.gh _ _ h) c.c c.a c.n c.t c.m), by unfold PySem.W.kitOne; rw [if_pos (by simp)], q _ G1 H1 g1 (.bl _)⟩)
end
end R87
namespace R87
open PySem PySem.Spec PyProof.Rows L2
open PySem.W (Datum DatumOrd Tup T4 Holds HoldAll)
section
variable {X : Cx} {m : Addr → Prop} {τ : List Sl} {N : AE} {rest : List Stmt} {a b c e tg : Expr} {pos p p2 q2 tpos : Pos} {ds es : List D} {d : D} {n : Str}
theorem pi_strD {z : Str} (h : Pu X e τ (.str z)) : Pi X tg e τ (z.cps.toList.map fun c => D.str ⟨#[c]⟩) := fun H0 G H σ k R q =>
  Wi.of (pi_str pe_we) (h H0 G H σ k _ fun v G1 H1 g1 r1 => by
    cases r1
    refine ⟨z, rfl, q _ G1 H1 g1 ⟨fun i d G2 H2 hi e1 e2 => ?_, fun G2 H2 e1 e2 => ?_⟩⟩
    · rw [List.getElem?_map] at hi
      obtain ⟨c, hc, rfl⟩ := Option.map_eq_some_iff.mp hi
      have hc' : z.cps[i]? = some c := by rw [← Array.getElem?_toList]; exact hc
      refine ⟨by have := (Array.getElem?_eq_some_iff.mp hc').1; exact this, fun x H3 ⟨y, c', w, u⟩ => ?_⟩
      subst y u
      rw [hc'] at w; cases w
      exact ⟨G2, .refl e2, .str _⟩
    · show z.cps.size ≤ _
      rw [List.length_map, Array.length_toList]; exact Nat.le_refl _)
abbrev enumD (ds : List D) : List D := ds.zipIdx.map fun p => .tup [.int (p.2 : Int), p.1]
theorem enumD_at {ds : List D} {i : Nat} {d : D} (h : (enumD ds)[i]? = some d) : ∃ x, ds[i]? = some x ∧ d = .tup [.int (i : Int), x] := by
  rw [List.getElem?_map] at h
  obtain ⟨p, hp, rfl⟩ := Option.map_eq_some_iff.mp h
  rw [List.getElem?_zipIdx] at hp
  obtain ⟨x, hx, rfl⟩ := Option.map_eq_some_iff.mp hp
  exact ⟨x, hx, by simp⟩
theorem pi_enumL {elts : List Expr} {kk : Nat} (hm : X.mg "enumerate" = none) (h : Pu X e τ (.lst ds)) (hg : Gl X "enumerate" := by rfl) (hs : noStar e = true := by rfl) : Pi X (.Tuple elts kk tpos) (.Call (.Name "enumerate" p) [e] [] pos) τ (enumD ds) := fun H0 G H σ k R q =>
  Wi.of (pi_enum hg hm (pa_cons pe_we pa_nil (star_cons hs)) (star_cons hs)) (h H0 G H σ k _ fun v G1 H1 g1 r1 => by
    cases r1 with
    | lst h1 r1 =>
      refine ⟨_, _, rfl, SqL.of (g1.gh _ _ h1), q _ G1 H1 g1 ⟨fun i d G2 H2 hi e1 e2 => ?_, fun G2 H2 e1 e2 => ?_⟩⟩
      · obtain ⟨x, hx, rfl⟩ := enumD_at hi
        obtain ⟨v, hv, rv⟩ := r1.get hx
        have sq := SqL.of (K := X.K) (e2 _ _ (e1 _ _ h1))
        refine ⟨⟨_, v, sq, hv⟩, fun y H3 ⟨T, u, w, hT, w2, w3⟩ => ?_⟩
        subst w w2
        have := w3 _ sq
        rw [hv] at this; cases this
        exact ⟨_, .new e2 hT, .tup upd_same (.cons (.int _) (.one (rv.ex (e1.trans (.new (e2.back hT))))))⟩
      · exact ⟨_, SqL.of (e2 _ _ (e1 _ _ h1)), by rw [r1.length, List.length_map, List.length_zipIdx]; exact Nat.le_refl _⟩)
def IteT (K : PySem.W.Frag) (a : Addr) : It :=
  ⟨fun i H => ∃ (xs : List V) (x : V), SqT K H a xs ∧ xs[i]? = some x, fun i H v H' => ∃ T x, v = .ref T ∧ H T = none ∧ H' = upd H T (.tup [.int (i : Nat), x]) ∧ ∀ xs, SqT K H a xs → xs[i]? = some x, fun i H => ∃ xs : List V, SqT K H a xs ∧ xs.length ≤ i⟩
theorem new_enumT (l : Addr) (items : Array Value) (n : Nat) (dct : Option Addr) (sl : Array (Option Value)) :
    Meets (Builtin.«enumerate.__new__» ⟨[.type "enumerate", .ref l], []⟩) (fun _ R s => s.heap.get? l = some { cls := .type "tuple", dict := dct, data := .seq items n, slots := sl } ∧
      R (.ok (.ret (.ref (s.heap.push { cls := .type "tuple_iterator", data := .fields #[.ref l, .int 0 0] }).objs.size)))
        { s with heap := (s.heap.push { cls := .type "tuple_iterator", data := .fields #[.ref l, .int 0 0] }).push { cls := .type "enumerate", data := .fields #[.none, .bool false, .ref s.heap.objs.size, rawInt 0, .none, .none] } }) :=
  .of_wp fun prog w A R s h => by
    obtain ⟨hp, gn, dr, tk, o⟩ := s
    obtain ⟨hl, h⟩ := h
    have hsub := sub_enumerate
    have hT : Heap.IsTuple (Shared.heap ⟨hp, gn, dr, tk, o⟩) l items := ⟨_, hl, rfl, n, rfl⟩
    wp_walk using AutoSeq1.wpAny_loadPart' hl
    refine wpAny_stack_any fun st => wpAny_pure ?_
    split
    · rename_i c _ _ _ _ _
      cases (c == Value.type "enumerate") <;> (wp_walk using AutoSeq1.wpAny_loadPart' hl, wpAny_pyIter_tuple hT; exact ⟨_, rfl, h⟩)
    · wp_walk using AutoSeq1.wpAny_loadPart' hl, wpAny_pyIter_tuple hT
      exact ⟨_, rfl, h⟩
theorem call_enumT {prog : Program} {w : World} {A : Around} {E : Value → Shared → Prop} {s : Shared} {l : Addr} {items : Array Value} {Q : Value → Shared → Prop} (hL : s.heap.IsTuple l items)
    (h : ∀ h', IsEnum h' (s.heap.objs.size + 1) s.heap.objs.size 0 .none → h'.IsTupleIter s.heap.objs.size l 0 → (∀ b o, s.heap.get? b = some o → h'.get? b = some o) → Q (.ref (s.heap.objs.size + 1)) { s with heap := h' }) :
    wpAny (model prog w) A (call (.type "enumerate") [.ref l]) Q E s := by
  obtain ⟨⟨oc, od, dt, sl⟩, ho, hc, n, hd⟩ := hL
  simp only at hc hd; subst hc; subst hd
  refine callType_new PySem.F.called_enumerate (by decide) (PySem.F.typeCall_enumerate_1 (.ref l)) (PySem.F.newCall_enumerate_1 (.ref l)) (fun o => PySem.F.args_object_init_2 o (.ref l)) PySem.F.entry_enumerate_new (new_enumT l items n od sl) ⟨ho, ?_⟩
  have z1 : (s.heap.push { cls := .type "tuple_iterator", data := .fields #[.ref l, .int 0 0] }).objs.size = s.heap.objs.size + 1 := Heap.size_push ..
  show _ ∧ _
  rw [z1]
  have he : IsEnum ((s.heap.push { cls := .type "tuple_iterator", data := .fields #[.ref l, .int 0 0] }).push { cls := .type "enumerate", data := .fields #[.none, .bool false, .ref s.heap.objs.size, rawInt 0, .none, .none] }) (s.heap.objs.size + 1) s.heap.objs.size 0 .none := by
    have q := Heap.get?_push_size (s.heap.push { cls := .type "tuple_iterator", data := .fields #[.ref l, .int 0 0] }) (o := { cls := .type "enumerate", data := .fields #[.none, .bool false, .ref s.heap.objs.size, rawInt 0, .none, .none] }) rfl
    rw [z1] at q; exact q
  exact ⟨⟨_, he, rfl⟩, h _ he ⟨_, Heap.get?_push_of_some _ (Heap.get?_push_size _ rfl), rfl, rfl⟩ fun b o x => Heap.get?_push_of_some _ (Heap.get?_push_of_some _ x)⟩
theorem turn_enumT {P : Program} {w : World} {K : PySem.W.Frag} {elts : List Expr} {kk : Nat} (a e it : Addr) :
    Turn P w K (.Tuple elts kk tpos) (IteT K a) [e, it] e (fun i h => (∃ old, IsEnum h e it ((i : Nat) : Int) old) ∧ h.IsTupleIter it a i ∧ e ≠ it ∧ e ≠ a ∧ a ≠ it) where
  mem := by simp
  obj := fun i h st b hb => by
    obtain ⟨⟨old, he⟩, ⟨o, ho, hc, hd⟩, _⟩ := st
    rcases List.mem_cons.mp hb with z | z
    · rw [z]; exact ⟨_, he, fun v q => nomatch q⟩
    · rw [List.mem_singleton.mp z]; exact ⟨o, ho, fun v q => by rw [hd] at q; cases q⟩
  keep := fun i h h' st k => let ⟨⟨old, he⟩, hi, hne⟩ := st; ⟨⟨old, k e (by simp) _ he⟩, hi.at fun o q => k it (by simp) o q, hne⟩
  item := by
    intro X hP hw hK hc i pins s σ H E I hf st hg
    subst hP hw hK
    obtain ⟨⟨old, he⟩, hit, hne, hea, hai⟩ := st
    obtain ⟨xs, x, hq, hx⟩ := hg
    obtain ⟨its, rv, tp, hz⟩ := I.tuple hq
    obtain ⟨u, hu, ru⟩ := rv.get hx
    have hel := Heap.lt_size he
    have hil : it < s.heap.objs.size := by obtain ⟨_, q, _⟩ := hit; exact Heap.lt_size q
    have Dw := Draws.tuple (prog := X.prog) (w := X.w) (A := X.A.in1) (by show X.A.handled = none; exact I.ok.hd hc) it a hai its.toArray
    have lt : i < its.toArray.size := by
      rw [List.size_toArray]; exact (List.getElem?_eq_some_iff.mp hu).1
    refine wpAny_pyNext_enum_itemD Dw he ⟨hit, tp⟩ lt hne (by simp [hne, hea]) fun y h' tk hy ho st' hT hsz hk => ?_
    have hy' : y = u := by
      have h1 : its.toArray[i]? = some u := by simpa using hu
      rw [h1] at hy; exact (Option.some.inj hy).symm
    subst hy'
    refine ⟨_, rfl, wpAny_letOwnedTupleGo_enum (s := { s with heap := h', toks := tk + 1 }) ho fun h'' he' sb => ?_⟩
    have hT2 : h''.get? s.heap.objs.size = some { cls := .type "tuple", data := .seq #[.int i tk, y] } := (sb.2 _ (Nat.ne_of_gt hel)).trans hT
    have new : ObjOk X.prog X.w (upd H s.heap.objs.size (.tup [.int (i : Nat), x])) h'' s.heap.objs.size (.tup [.int (i : Nat), x]) :=
      ⟨by show 2 ≤ sizeLine; decide, [.int i tk, y], .cons ⟨_, rfl⟩ (.cons ru .nil), ⟨_, hT2, rfl, _, rfl⟩⟩
    have kk : ∀ b ob, b ∉ [e, it] → s.heap.get? b = some ob → h''.get? b = some ob := fun b ob hb q => by
      rw [sb.2 b (fun z => hb (by simp [z]))]; exact hk b ob (fun z => hb (by simp [z])) (fun z => hb (by simp [z])) q
    have I1 : Inv X pins σ (upd H s.heap.objs.size (.tup [.int (i : Nat), x])) { s with heap := h'', toks := tk + 1 } := I.turnedNew (ch := [e, it]) kk hf (Nat.le_refl _) new
    refine ⟨.ref s.heap.objs.size, _, I1, rfl, ⟨_, x, rfl, I.hok.fresh (Nat.le_refl _), rfl, fun ys hy => ?_⟩, ⟨⟨y, he'⟩, st'.1.at fun o q => (sb.2 it (Ne.symm hne)).trans q, hne, hea, hai⟩, fun b hb => ?_⟩
    · rw [I.tuple_inj hy hq]; exact hx
    · have hb' : b < s.heap.objs.size := by
        rcases List.mem_cons.mp hb with z | z
        · rw [z]; exact hel
        · rw [List.mem_singleton.mp z]; exact hil
      rw [upd_ne (Nat.ne_of_lt hb')]
      exact (hf b hb).1
  done := by
    intro X hP hw hK hc i pins s σ H E I hf st hg
    subst hP hw hK
    obtain ⟨⟨old, he⟩, hit, hne, hea, hai⟩ := st
    obtain ⟨xs, hq, hx⟩ := hg
    obtain ⟨its, rv, tp, hz⟩ := I.tuple hq
    obtain ⟨f0, f1, f2, f3, f4, f5⟩ := hf it (by simp)
    have hl := rv.length
    have hn : its.toArray[i]? = none := by simp; omega
    have Dw : Draws X.prog X.w X.A.in1 it [it, a] 0 (fun _ _ => True) (fun j h => h.IsTupleIter it a (i + j) ∧ h.IsTuple a its.toArray) :=
      { live := fun _ _ st => let ⟨o, ho, _⟩ := st.1; ⟨o, ho⟩
        frame := fun _ _ _ st k => ⟨st.1.at fun o e => k it (by simp) o e, st.2.at fun o e => k a (by simp) o e⟩
        item := fun j s Q E hj => absurd hj (Nat.not_lt_zero j)
        done := fun s Q E st h => wpAny_nextOf_tuple_end (by show X.A.handled = none; exact I.ok.hd hc) st.1 st.2 hn h }
    exact wpAny_pyNext_enum_endD Dw he ⟨hit, tp⟩ fun h' eb => ⟨rfl, I.turned (t' := s.toks) (fun b o hb q => eb b o hb q) f0 f1 f3 f4 f5⟩
  self := fun A i s Q E st h => let ⟨⟨_, he⟩, _⟩ := st; wpAny_pyIter_enum he h
theorem pi_enumT0 {ta : TA} {elts : List Expr} {kk : Nat} (hg : Gl X "enumerate") (hm : X.mg "enumerate" = none) (ha : PA X [e] ta) (hs : starEach [e] X.env = [(false, eval e X.env)]) :
    PI X (.Tuple elts kk tpos) (.Call (.Name "enumerate" p) [e] [] pos) (fun σ H R => ta σ H fun vs H1 => ∃ a xs, vs = [.ref a] ∧ SqT X.K H1 a xs ∧ R (IteT X.K a) H1) := by
  refine ⟨fun pins s σ H R I h => Call_ (ld_blt I hg hm boot_enumerate (PyProof.Rows.callWith_type1 (thn (ha.run pos pins s σ H _ I h) fun us s1 ⟨vs, H1, I1, r1, q1⟩ => ?_) hs rfl))⟩
  obtain ⟨a, xs, rfl, hq, q⟩ := q1
  cases r1 with
  | cons r rr =>
    cases rr; cases r
    obtain ⟨its, rv, tp, hz⟩ := I1.tuple hq
    refine call_enumT tp fun h' he hit hk => wpAny_pyIter_enum he ?_
    have I2 : Inv X pins σ H1 { s1 with heap := h' } := I1.kept (t' := s1.toks) hk
    have lt : a < s1.heap.objs.size := by obtain ⟨o, e, _⟩ := tp; exact Heap.lt_size e
    refine ⟨s1.heap.objs.size + 1, [s1.heap.objs.size + 1, s1.heap.objs.size], _, _, H1, rfl, I2, turn_enumT a (s1.heap.objs.size + 1) s1.heap.objs.size, ⟨⟨.none, he⟩, hit, Nat.succ_ne_self _, Nat.ne_of_gt (Nat.lt_succ_of_lt lt), Nat.ne_of_lt lt⟩, fun b hb => ?_, q⟩
    have hle : s1.heap.objs.size ≤ b := by
      rcases List.mem_cons.mp hb with z | z
      · rw [z]; exact Nat.le_succ _
      · rw [List.mem_singleton.mp z]; exact Nat.le_refl _
    exact I1.fpOk hle (I1.hok.fresh hle)
theorem pi_enumTup {elts : List Expr} {kk : Nat} (hm : X.mg "enumerate" = none) (h : Pu X e τ (.tup ds)) (hg : Gl X "enumerate" := by rfl) (hs : noStar e = true := by rfl) : Pi X (.Tuple elts kk tpos) (.Call (.Name "enumerate" p) [e] [] pos) τ (enumD ds) := fun H0 G H σ k R q =>
  Wi.of (pi_enumT0 hg hm (pa_cons pe_we pa_nil (star_cons hs)) (star_cons hs)) (h H0 G H σ k _ fun v G1 H1 g1 r1 => by
    cases r1 with
    | tup h1 r1 =>
      refine ⟨_, _, rfl, SqT.of (g1.gh _ _ h1), q _ G1 H1 g1 ⟨fun i d G2 H2 hi e1 e2 => ?_, fun G2 H2 e1 e2 => ?_⟩⟩
      · obtain ⟨x, hx, rfl⟩ := enumD_at hi
        obtain ⟨v, hv, rv⟩ := r1.get hx
        have sq := SqT.of (K := X.K) (e2 _ _ (e1 _ _ h1))
        refine ⟨⟨_, v, sq, hv⟩, fun y H3 ⟨T, u, w, hT, w2, w3⟩ => ?_⟩
        subst w w2
        have := w3 _ sq
        rw [hv] at this; cases this
        exact ⟨_, .new e2 hT, .tup upd_same (.cons (.int _) (.one (rv.ex (e1.trans (.new (e2.back hT))))))⟩
      · exact ⟨_, SqT.of (e2 _ _ (e1 _ _ h1)), by rw [r1.length, List.length_map, List.length_zipIdx]; exact Nat.le_refl _⟩)
abbrev zipD (ds es : List D) : List D := List.zipWith (fun a b => .tup [a, b]) ds es
theorem zipD_at {ds es : List D} {i : Nat} {d : D} (h : (zipD ds es)[i]? = some d) : ∃ x y, ds[i]? = some x ∧ es[i]? = some y ∧ d = .tup [x, y] := by
  rw [List.getElem?_zipWith] at h
  cases hx : ds[i]? with
  | none => rw [hx] at h; cases h
  | some x => cases hy : es[i]? with
    | none => rw [hx, hy] at h; cases h
    | some y => rw [hx, hy] at h; exact ⟨x, y, rfl, rfl, (Option.some.inj h).symm⟩
theorem pi_zipL {elts : List Expr} {kk : Nat} (hm : X.mg "zip" = none) (ha : Pu X a τ (.lst ds)) (hb : Pu X b τ (.lst es)) (hg : Gl X "zip" := by rfl) (h1 : noStar a = true := by rfl) (h2 : noStar b = true := by rfl) : Pi X (.Tuple elts kk tpos) (.Call (.Name "zip" p) [a, b] [] pos) τ (zipD ds es) := fun H0 G H σ k R q =>
  Wi.of (pi_zip hg hm (pa_cons pe_we (pa_cons pe_we pa_nil (star_cons h2)) (star_cons h1)) (star_cons h1) (by rw [star_cons h2]; rfl)) (ha H0 G H σ k _ fun v G1 H1 g1 r1 => hb H0 G1 H1 σ (k.gr g1) _ fun u G2 H2 g2 r2 => by
    cases r1 with
    | lst h1 r1 => cases r2 with
      | lst h2 r2 =>
        have r1' := r1.ex g2.gg
        refine ⟨_, _, _, _, rfl, SqL.of (g2.gh _ _ (g2.gg _ _ h1)), SqL.of (g2.gh _ _ h2), q _ G2 H2 (g1.trans g2) ⟨fun i d G3 H3 hi e1 e2 => ?_, fun G3 H3 e1 e2 => ?_⟩⟩
        · obtain ⟨x, y, hx, hy, rfl⟩ := zipD_at hi
          obtain ⟨v1, hv1, rv1⟩ := r1'.get hx
          obtain ⟨v2, hv2, rv2⟩ := r2.get hy
          have s1 := SqL.of (K := X.K) (e2 _ _ (e1 _ _ (g2.gg _ _ h1)))
          have s2 := SqL.of (K := X.K) (e2 _ _ (e1 _ _ h2))
          refine ⟨⟨_, _, v1, v2, s1, s2, hv1, hv2⟩, fun z H4 ⟨T, u1, u2, w, hT, w2, w3, w4⟩ => ?_⟩
          subst w w2
          have t1 := w3 _ s1
          rw [hv1] at t1; cases t1
          have t2 := w4 _ s2
          rw [hv2] at t2; cases t2
          have e3 := e1.trans (.new (o := .tup [v1, v2]) (e2.back hT))
          exact ⟨_, .new e2 hT, .tup upd_same (.cons (rv1.ex e3) (.one (rv2.ex e3)))⟩
        · refine ⟨_, _, SqL.of (e2 _ _ (e1 _ _ (g2.gg _ _ h1))), SqL.of (e2 _ _ (e1 _ _ h2)), ?_⟩
          rw [r1.length, r2.length, List.length_zipWith]; omega)
theorem pi_zipTup {elts : List Expr} {kk : Nat} (hm : X.mg "zip" = none) (ha : Pu X a τ (.tup ds)) (hb : Pu X b τ (.tup es)) (hg : Gl X "zip" := by rfl) (h1 : noStar a = true := by rfl) (h2 : noStar b = true := by rfl) : Pi X (.Tuple elts kk tpos) (.Call (.Name "zip" p) [a, b] [] pos) τ (zipD ds es) := fun H0 G H σ k R q =>
  Wi.of (RZ.pi_zipA hg hm (pa_cons pe_we (pa_cons pe_we pa_nil (star_cons h2)) (star_cons h1)) (star_cons h1) (by rw [star_cons h2]; rfl)) (ha H0 G H σ k _ fun v G1 H1 g1 r1 => hb H0 G1 H1 σ (k.gr g1) _ fun u G2 H2 g2 r2 => by
    cases r1 with
    | tup h1 r1 => cases r2 with
      | tup h2 r2 =>
        have r1' := r1.ex g2.gg
        refine ⟨_, _, _, _, rfl, .inr ⟨SqT.of (g2.gh _ _ (g2.gg _ _ h1)), SqT.of (g2.gh _ _ h2), q _ G2 H2 (g1.trans g2) ⟨fun i d G3 H3 hi e1 e2 => ?_, fun G3 H3 e1 e2 => ?_⟩⟩⟩
        · obtain ⟨x, y, hx, hy, rfl⟩ := zipD_at hi
          obtain ⟨v1, hv1, rv1⟩ := r1'.get hx
          obtain ⟨v2, hv2, rv2⟩ := r2.get hy
          have s1 := SqT.of (K := X.K) (e2 _ _ (e1 _ _ (g2.gg _ _ h1)))
          have s2 := SqT.of (K := X.K) (e2 _ _ (e1 _ _ h2))
          refine ⟨⟨_, _, v1, v2, s1, s2, hv1, hv2⟩, fun z H4 ⟨T, u1, u2, w, hT, w2, w3, w4⟩ => ?_⟩
          subst w w2
          have t1 := w3 _ s1
          rw [hv1] at t1; cases t1
          have t2 := w4 _ s2
          rw [hv2] at t2; cases t2
          have e3 := e1.trans (.new (o := .tup [v1, v2]) (e2.back hT))
          exact ⟨_, .new e2 hT, .tup upd_same (.cons (rv1.ex e3) (.one (rv2.ex e3)))⟩
        · refine ⟨_, _, SqT.of (e2 _ _ (e1 _ _ (g2.gg _ _ h1))), SqT.of (e2 _ _ (e1 _ _ h2)), ?_⟩
          rw [r1.length, r2.length, List.length_zipWith]; omega)
end
end R87
namespace R87
open PySem PySem.Spec PyProof.Rows L2
open PySem.W (Datum DatumOrd Tup T4 Holds HoldAll)
section
variable {X : Cx} {m : Addr → Prop} {τ : List Sl} {N : AE} {rest : List Stmt} {a b c e tg : Expr} {pos p p2 p3 q2 tpos : Pos} {ds es : List D} {d x y : D} {n : Str}
theorem rng_ints {G : Hp} : ∀ (n i : Nat), RpA G ((List.range n).map fun (j : Nat) => V.int ((i : Int) + j)) ((List.range' i n).map (En.e (α := Nat))) := by
  intro n
  induction n with
  | zero => intro i; exact .nil
  | succ n ih =>
    intro i
    rw [List.range_succ, List.range'_concat, List.map_append, List.map_append]
    refine (ih i).append (.one ?_)
    have e : ((i : Int) + (n : Nat)) = ((i + 1 * n : Nat) : Int) := by omega
    show Rp G (V.int ((i : Int) + (n : Nat))) (D.int ((i + 1 * n : Nat) : Int))
    rw [e]
    exact .int _
theorem rg_ok {i k : Nat} (hl : k ≤ 1000) (hi : i ≤ 1000) : RgOk (i : Int) (k : Int) := .of_le (by omega) (by omega) (by omega) (by omega)
theorem rg_rp {G : Hp} {i k : Nat} : RpA G (rgV (i : Int) (k : Int)) ((List.range' i (k - i)).map (En.e (α := Nat))) := by
  unfold rgV
  have e : ((k : Int) - (i : Int)).toNat = k - i := by omega
  rw [e]
  exact rng_ints _ _
theorem nu_listRange2 {i k : Nat} (hm : X.mg "range" = none) (hm2 : X.mg "list" = none) (ha : Pu X a τ (.int (i : Int))) (hb : Pu X b τ (.int (k : Int))) (hl : k ≤ 1000) (hi : i ≤ 1000) (hg : Gl X "range" := by rfl) (hg2 : Gl X "list" := by rfl) (h1 : noStar a = true := by rfl) (h2 : noStar b = true := by rfl) (hc : X.calm = true := by rfl) :
    Nu X (.Call (.Name "list" p) [.Call (.Name "range" p2) [a, b] [] q2] [] pos) τ ((List.range' i (k - i)).map (En.e (α := Nat))) := fun H0 G H σ ok Q q =>
  We.of (pe_listRg hc hg2 hm2 (prg_2 hg hm pe_we pe_we (star_cons h1) (star_cons h2) (by rw [star_cons h2]; rfl))) (ha H0 G H σ ok _ fun v G1 H1 g1 r1 => hb H0 G1 H1 σ (ok.gr g1) _ fun u G2 H2 g2 r2 => by
    cases r1; cases r2
    exact ⟨i, k, rfl, rfl, rg_ok hl hi, fun t ht => q t _ G2 _ ((g1.trans g2).trans (.newO g2.gh ht)) (g2.gh.back ht) ((g1.trans g2).ex.back ht) upd_same rg_rp⟩)
theorem nu_listRange1 {k : Nat} (hm : X.mg "range" = none) (hm2 : X.mg "list" = none) (ha : Pu X a τ (.int (k : Int))) (hl : k ≤ 1000) (hg : Gl X "range" := by rfl) (hg2 : Gl X "list" := by rfl) (h1 : noStar a = true := by rfl) (hc : X.calm = true := by rfl) :
    Nu X (.Call (.Name "list" p) [.Call (.Name "range" p2) [a] [] q2] [] pos) τ ((List.range k).map (En.e (α := Nat))) := fun H0 G H σ ok Q q =>
  We.of (pe_listRg hc hg2 hm2 (prg_1 hg hm pe_we (star_cons h1))) (ha H0 G H σ ok _ fun v G1 H1 g1 r1 => by
    cases r1
    refine ⟨k, rfl, rg_ok (i := 0) hl (Nat.zero_le _), fun t ht => q t _ G1 _ (g1.trans (.newO g1.gh ht)) (g1.gh.back ht) (g1.ex.back ht) upd_same ?_⟩
    rw [List.range_eq_range']
    exact rg_rp (i := 0))
def valD (kvs : List (L2.Key × D)) (k : L2.Key) : Option D := (kvs.find? fun kv => decide (kv.1 = k)).map (·.2)
def putD (kvs : List (L2.Key × D)) (k : L2.Key) (v : D) : List (L2.Key × D) := if (kvs.any fun kv => decide (kv.1 = k)) = true then kvs.map (fun kv => if kv.1 = k then (kv.1, v) else kv) else kvs ++ [(k, v)]
def mergeD (kvs : List (L2.Key × D)) : List (L2.Key × D) := kvs.foldl (fun acc kv => putD acc kv.1 kv.2) []
theorem RpK.append {G : Hp} : ∀ {vs us : List (L2.Key × V)} {ds es : List (L2.Key × D)}, RpK G vs ds → RpK G us es → RpK G (vs ++ us) (ds ++ es)
  | _, _, _, _, .nil, s => s
  | _, _, _, _, .cons h r, s => .cons h (RpK.append r s)
theorem RpK.put {G : Hp} {k : L2.Key} {v : V} {d : D} {vs : List (L2.Key × V)} {ds : List (L2.Key × D)} (r : RpK G vs ds) (h : Rp G v d) : RpK G (putK vs k v) (putD ds k d) := by
  have e : (vs.any fun kv => decide (kv.1 = k)) = (ds.any fun kv => decide (kv.1 = k)) := by
    clear h
    induction ds generalizing vs with
    | nil => cases r; rfl
    | cons p ds ih => cases r with
      | cons r1 r2 => rw [List.any_cons, List.any_cons, ih r2]
  unfold putK putD
  rw [e]
  split
  · clear e
    rename_i z
    clear z
    induction ds generalizing vs with
    | nil => cases r; exact .nil
    | cons p ds ih => cases r with
      | @cons x v0 d0 _ _ r1 r2 =>
        rw [List.map_cons, List.map_cons]
        by_cases z : x = k
        · simp only [if_pos z]; exact .cons h (ih r2)
        · simp only [if_neg z]; exact .cons r1 (ih r2)
  · exact r.append (.cons h .nil)
theorem rpk_merge {G : Hp} : ∀ {vs : List (L2.Key × V)} {ds : List (L2.Key × D)} {us : List (L2.Key × V)} {es : List (L2.Key × D)}, RpK G vs ds → RpK G us es → RpK G (mergeK us vs) (ds.foldl (fun acc kv => putD acc kv.1 kv.2) es)
  | _, _, _, _, .nil, s => s
  | (k, v) :: vs, (_, d) :: ds, us, es, .cons h r, s => by
    show RpK G (mergeK (putK us k v) vs) (ds.foldl (fun acc kv => putD acc kv.1 kv.2) (putD es k d))
    exact rpk_merge r (s.put h)
theorem valD_cons (p : L2.Key × D) (ds : List (L2.Key × D)) (k : L2.Key) : valD (p :: ds) k = if p.1 = k then some p.2 else valD ds k := by
  unfold valD
  rw [List.find?_cons]
  by_cases h : p.1 = k <;> simp [h]
theorem RpK.val {G : Hp} {k : L2.Key} : ∀ {vs : List (L2.Key × V)} {ds : List (L2.Key × D)}, RpK G vs ds → (valD ds k = none → valV vs k = none) ∧ ∀ d, valD ds k = some d → ∃ v, valV vs k = some v ∧ Rp G v d
  | _, _, .nil => ⟨fun _ => rfl, fun d (e : none = some d) => by cases e⟩
  | _, _, .cons (x := x) (v := v) (d := d0) (vs := vs) (ds := ds) h r => by
    have ih := RpK.val (k := k) r
    rw [valD_cons]
    by_cases z : x = k
    · rw [if_pos z, valV_pos z]
      constructor
      · intro w; cases w
      · intro d w; cases w; exact ⟨v, rfl, h⟩
    · rw [if_neg z, valV_neg z]; exact ih
theorem any_val (ds : List (L2.Key × D)) (k : L2.Key) : (ds.any fun kv => decide (kv.1 = k)) = (valD ds k).isSome := by
  induction ds with
  | nil => rfl
  | cons p ds ih =>
    rw [valD_cons, List.any_cons, ih]
    by_cases z : p.1 = k <;> simp [z]
theorem val_map (ds : List (L2.Key × D)) (k j : L2.Key) (d : D) : valD (ds.map fun kv => if kv.1 = k then (kv.1, d) else kv) j = if j = k then (if (valD ds k).isSome = true then some d else none) else valD ds j := by
  induction ds with
  | nil => simp [valD]
  | cons p ds ih =>
    rw [List.map_cons, valD_cons, valD_cons, valD_cons, ih]
    by_cases z : p.1 = k
    · by_cases w : j = k
      · subst w; simp [z]
      · have u : p.1 ≠ j := fun u => w (u.symm.trans z)
        have u' : ¬ k = j := fun v => w v.symm
        simp [z, w, u, u']
    · by_cases w : j = k
      · subst w; simp [z]
      · simp [z, w]
theorem val_app (ds es : List (L2.Key × D)) (j : L2.Key) : valD (ds ++ es) j = if (valD ds j).isSome = true then valD ds j else valD es j := by
  induction ds with
  | nil => rfl
  | cons p ds ih =>
    rw [List.cons_append, valD_cons, valD_cons, ih]
    by_cases z : p.1 = j <;> simp [z]
theorem val_put (ds : List (L2.Key × D)) (k j : L2.Key) (d : D) : valD (putD ds k d) j = if j = k then some d else valD ds j := by
  unfold putD
  rw [any_val]
  by_cases h : (valD ds k).isSome = true
  · rw [if_pos h, val_map, if_pos h]
  · rw [if_neg h, val_app, valD_cons]
    by_cases w : j = k
    · subst w; rw [if_neg h]; simp
    · have w' : ¬ k = j := fun z => w z.symm
      rw [if_neg w, if_neg w']
      cases z : valD ds j with
      | none => rfl
      | some u => rfl
theorem rev_ind2 {α : Type} {p : List α → Prop} (h0 : p []) (h1 : ∀ xs x, p xs → p (xs ++ [x])) (xs : List α) : p xs := by
  have : ∀ n (xs : List α), xs.length = n → p xs := fun n => by
    induction n with
    | zero => intro xs h; rw [List.eq_nil_of_length_eq_zero h]; exact h0
    | succ n ih =>
      intro xs h
      rcases List.eq_nil_or_concat xs with e | ⟨ys, y, e⟩
      · rw [e]; exact h0
      · rw [List.concat_eq_append] at e
        subst e
        exact h1 _ _ (ih ys (by rw [List.length_append, List.length_singleton] at h; omega))
  exact this _ xs rfl
theorem merge_snoc (ds : List (L2.Key × D)) (p : L2.Key × D) : mergeD (ds ++ [p]) = putD (mergeD ds) p.1 p.2 := by unfold mergeD; rw [List.foldl_append]; rfl
theorem val_merge_none {ds : List (L2.Key × D)} {k : L2.Key} : valD (mergeD ds) k = none ↔ ∀ p ∈ ds, p.1 ≠ k := by
  revert ds
  apply rev_ind2
  · exact ⟨fun _ (p : L2.Key × D) hp => (nomatch (hp : p ∈ [])), fun _ => rfl⟩
  · intro ds p ih
    rw [merge_snoc, val_put]
    constructor
    · intro h q hq
      split at h
      · cases h
      · rename_i z
        rcases List.mem_append.mp hq with m | m
        · exact ih.1 h q m
        · rw [List.mem_singleton.mp m]; exact fun w => z w.symm
    · intro h
      rw [if_neg fun w => h p (List.mem_append_right _ (.head _)) w.symm]
      exact ih.2 fun q hq => h q (List.mem_append_left _ hq)
theorem val_merge_some {ds : List (L2.Key × D)} {k : L2.Key} {d : D} (h : (k, d) ∈ ds) (u : ∀ d', (k, d') ∈ ds → d' = d) : valD (mergeD ds) k = some d := by
  revert ds
  apply rev_ind2
  · intro h; cases h
  · intro ds p ih h u
    rw [merge_snoc, val_put]
    split
    · rename_i z
      rw [u p.2 (by rw [z]; exact List.mem_append_right _ (.head _))]
    · rename_i z
      refine ih ?_ fun d' hd => u d' (List.mem_append_left _ hd)
      rcases List.mem_append.mp h with m | m
      · exact m
      · exact absurd (by rw [← List.mem_singleton.mp m]) z
/-- a list of pairs (key, data), told as list data -/
def kD : L2.Key → D
  | .inl i => .int i
  | .inr s => .str s
abbrev pairD (kv : L2.Key × D) : D := .tup [kD kv.1, kv.2]
theorem rp_kD {G : Hp} {v : V} {k : L2.Key} (r : Rp G v (kD k)) : v = kV k := by
  cases k with
  | inl i => cases r; rfl
  | inr s => cases r; rfl
theorem kD_rp {G : Hp} (k : L2.Key) : Rp G (kV k) (kD k) := by
  cases k with
  | inl i => exact .int i
  | inr s => exact .str s
theorem rp_pairs {K : PySem.W.Frag} {G : Hp} : ∀ {vs : List V} {kvs : List (L2.Key × D)}, RpA G vs (kvs.map pairD) → ∃ (ps : List Addr) (us : List (L2.Key × V)), vs = ps.map V.ref ∧ Paired (fun p kv => SqT K G p [kV kv.1, kv.2]) ps us ∧ RpK G us kvs
  | _, [], .nil => ⟨[], [], rfl, .nil, .nil⟩
  | _, kv :: kvs, .cons h r => by
    obtain ⟨ps, us, e1, e2, e3⟩ := rp_pairs (K := K) r
    have h' : Rp G _ (.tup [kD kv.1, kv.2]) := h
    cases h' with
    | tup h1 r1 =>
      obtain ⟨v, u, rfl, a1, a2⟩ := rp_two r1
      obtain rfl := rp_kD a1
      refine ⟨_ :: ps, (kv.1, u) :: us, by rw [e1]; rfl, .cons (SqT.of h1) e2, ?_⟩
      exact RpK.cons (x := kv.1) (d := kv.2) a2 e3
theorem Paired.mono {α β : Type} {F F' : α → β → Prop} : ∀ {l : List α} {l' : List β}, Paired F l l' → (∀ a b, F a b → F' a b) → Paired F' l l'
  | _, _, .nil, _ => .nil
  | _, _, .cons r t, f => .cons (f _ _ r) (Paired.mono t f)
theorem pu_dictL {kvs : List (L2.Key × D)} (hm : X.mg "dict" = none) (ha : Pu X a τ (.lst (kvs.map pairD))) (hg : Gl X "dict" := by rfl) (h1 : noStar a = true := by rfl) (hc : X.calm = true := by rfl) : Pu X (.Call (.Name "dict" p) [a] [] pos) τ (.dic (mergeD kvs)) := fun H0 G H σ ok Q q =>
  We.of (pe_callTy (call_dictP hc) hg hm (by decide +kernel) (pa_cons pe_we pa_nil (star_cons h1)) (by decide) (by decide) (star_cons h1) rfl) (ha H0 G H σ ok _ fun v G1 H1 g1 r1 => by
    cases r1 with
    | lst hh r =>
      obtain ⟨ps, us, rfl, e2, e3⟩ := rp_pairs (K := X.K) r
      refine ⟨_, ps, us, rfl, SqL.of (g1.gh _ _ hh), Paired.mono e2 fun a b s => SqT.ex g1.gh s, fun t ht => q _ _ _ (g1.trans (.new g1.gh ht)) (.dic upd_same ?_)⟩
      exact rpk_merge (e3.ex (.new (g1.gh.back ht))) .nil)
theorem units1 {A : Around} {k : Nat} (hr : Room k A) : A.units + 1 < cLine := by
  have := hr.units
  omega
theorem pu_dget {kvs : List (L2.Key × D)} {k : L2.Key} {i : Expr} {j : Nat} (hr : Room j X.A) (ho : Pu X a τ (.dic kvs)) (hi : Pu X i τ (kD k)) (h : valD kvs k = some d) (hs : NoSl i := by exact fun _ _ => rfl) : Pu X (.Subscript a i pos) τ d := fun H0 G H σ ok Q q =>
  We.of (pe_dget (units1 hr) pe_we pe_we hs) (ho H0 G H σ ok _ fun v G1 H1 g1 r1 => hi H0 G1 H1 σ (ok.gr g1) _ fun u G2 H2 g2 r2 => by
    cases r1 with
    | dic hh r =>
      obtain ⟨w, e1, e2⟩ := ((r.ex g2.gg).val (k := k)).2 d h
      obtain rfl := rp_kD r2
      refine ⟨_, w, rfl, ?_, q w G2 H2 (g1.trans g2) e2⟩
      rw [← e1]
      exact DGet.k (g2.gh _ _ (g2.gg _ _ hh)))
theorem pt_inD {kvs : List (L2.Key × D)} {k : L2.Key} {i : Expr} {j : Nat} (hr : Room j X.A) (hi : Pu X i τ (kD k)) (ho : Pu X a τ (.dic kvs)) (h1 : behindInMarks .In a = false := by rfl) : Pt X (.Compare i [.In] [a] pos) τ (valD kvs k).isSome := fun H0 G H σ ok Q q =>
  Wt.of (pt_cmp (pc_din (units1 hr) pe_we pe_we) h1) (hi H0 G H σ ok _ fun u G1 H1 g1 r1 => ho H0 G1 H1 σ (ok.gr g1) _ fun v G2 H2 g2 r2 => by
    cases r2 with
    | @dic _ ks _ hh r =>
      obtain rfl := rp_kD r1
      have e1 := DGet.k (k := k) (g2.gh _ _ hh)
      have e2 : (valV ks k).isSome = (valD kvs k).isSome := by
        have := r.val (k := k)
        cases z : valD kvs k with
        | none => rw [this.1 z]; rfl
        | some d => obtain ⟨w, w1, _⟩ := this.2 d z; rw [w1]; rfl
      exact ⟨_, _, rfl, e1, _, rfl, by rw [e2]; exact q G2 H2 (g1.trans g2)⟩)
theorem pu_inD {kvs : List (L2.Key × D)} {k : L2.Key} {i : Expr} {j : Nat} (hr : Room j X.A) (hi : Pu X i τ (kD k)) (ho : Pu X a τ (.dic kvs)) (h1 : behindInMarks .In a = false := by rfl) : Pu X (.Compare i [.In] [a] pos) τ (.bl (valD kvs k).isSome) := fun H0 G H σ ok Q q =>
  We.of (pe_cmp (pc_din (units1 hr) pe_we pe_we) h1) (hi H0 G H σ ok _ fun u G1 H1 g1 r1 => ho H0 G1 H1 σ (ok.gr g1) _ fun v G2 H2 g2 r2 => by
    cases r2 with
    | @dic _ ks _ hh r =>
      obtain rfl := rp_kD r1
      have e1 := DGet.k (k := k) (g2.gh _ _ hh)
      have e2 : (valV ks k).isSome = (valD kvs k).isSome := by
        have := r.val (k := k)
        cases z : valD kvs k with
        | none => rw [this.1 z]; rfl
        | some d => obtain ⟨w, w1, _⟩ := this.2 d z; rw [w1]; rfl
      exact ⟨_, _, rfl, e1, by rw [e2]; exact q _ G2 H2 (g1.trans g2) (.bl _)⟩)
theorem d_inS {c : Nat} {z : Str} : DOp (fun x y H Q => ∃ (c : Nat) (z : Str), x = .str ⟨#[c]⟩ ∧ y = .str z ∧ Q (.bl (decide (c ∈ z.cps.toList))) H) (.str ⟨#[c]⟩) (.str z) (.bl (decide (c ∈ z.cps.toList))) := fun v u G H ex r1 r2 Q q => by
  cases r1; cases r2
  exact ⟨c, z, rfl, rfl, q _ G H (.refl ex) (.bl _)⟩
theorem pu_catS {x y : Str} (ha : Pu X a τ (.str x)) (hb : Pu X b τ (.str y)) (hl : x.length + y.length ≤ 1000) : Pu X (.BinOp a .Add b pos) τ (.str (x ++ y)) := pu_op op_add_str (fun v u G H ex r1 r2 Q q => by
  cases r1; cases r2
  exact ⟨x, y, rfl, rfl, sl1000 hl, q _ G H (.refl ex) (.str _)⟩) ha hb
/-- xs[::-1] -/
theorem nu_revL {k : Nat} {p1 p2 p3 : Pos} (ha : Pu X a τ (.lst ds)) : Nu X (.Subscript a (.Slice none none (some (.UnaryOp .USub (.Constant (.int 1) k p1) p2)) p3) pos) τ ds.reverse := fun H0 G H σ ok Q q =>
  We.of (pe_revL pe_we) (ha H0 G H σ ok _ fun v G1 H1 g1 r1 => by
    cases r1 with
    | lst hh r => exact ⟨_, _, rfl, SqL.of (g1.gh _ _ hh), fun t ht => q t _ G1 _ (g1.trans (.newO g1.gh ht)) (g1.gh.back ht) (g1.ex.back ht) upd_same r.reverse⟩)
end
end R87
namespace R87
open PySem PySem.Spec PyProof.Rows L2
open PySem.W (Datum DatumOrd Tup T4 Holds HoldAll)
section
variable {X : Cx} {m : Addr → Prop} {τ : List Sl} {N : AE} {rest body : List Stmt} {a b c e tg : Expr} {es : List Expr} {pos p p2 p3 q2 tpos : Pos} {ds fs : List D} {d x y : D} {n : Str}
/-- xs[i] = e, xs a list of one's own -/
theorem ab_put (i : Nat) {ie : Expr} {k : Nat} (hs : τ[i]? = some (Sl.ow fs)) (h : Pu X e τ d) (hix : Pu X ie τ (.int (k : Int))) (hk : k < fs.length) (h2 : AB X m rest (τ.set i (.ow (fs.set k d))) N)
    (hN : X.N[i]? = some n := by rfl) (hv : Vis X.env.scope n := by first | exact Or.inl rfl | exact Or.inr (Or.inl rfl) | exact Or.inr (Or.inr rfl)) (hd : (n == ("__debug__" : Str)) = false := by decide) (hcd : (n == ("__classdict__" : Str)) = false := by decide)
    (hw : PS X (.Assign [.Subscript (.Name n p) ie p2] e pos) (tAsg (We X e) (gSub (tVar i) (We X ie) rSetL)) := by exact ps_asg pe_we (pg_sub (pe_var rfl (by first | exact Or.inl rfl | exact Or.inr (Or.inl rfl) | exact Or.inr (Or.inr rfl))) pe_we set_list)) :
    AB X m (.Assign [.Subscript (.Name n p) ie p2] e pos :: rest) τ N := fun G0 H0 G H σ g ok => by
  refine Wb.of (pss_cons hw pss_wb) (h H0 G H σ ok _ fun v G1 H1 g1 r1 => ?_)
  have ok1 := ok.gr g1
  obtain ⟨q, vs, h1, h3, h4, h5, r⟩ := ok1.ow i fs hs
  refine ⟨_, h1, hix H0 G1 H1 σ ok1 _ fun u G2 H2 g2 r2 => ?_⟩
  cases r2
  have ok2 := ok1.gr g2
  have r' := r.ex g2.gg
  refine ⟨q, vs, (k : Int), k, rfl, rfl, g2.ex _ _ h3, ?_, ?_⟩
  · unfold ixN
    have : (k : Int) < vs.length := by rw [r.length]; omega
    simp; omega
  · obtain ⟨g3, ok3⟩ := ok2.change ((g.trans g1.any).trans g2.any) hs h1 (RpA.set (r1.ex g2.gg) k r')
    exact h2 G0 H0 G2 _ σ g3 ok3
theorem ab_while (J : Nat → List Sl → Prop) (hp : PassesOwn (model X.prog X.w) X.A X.env X.xe) {n0 : Nat} (h0 : J n0 τ)
    (hs : ∀ n t, J n t → ∃ b, Pt X c t b ∧ (b = true → AB X m body t { N with nx := fun t => ∃ n' t', n' < n ∧ J n' t' ∧ Le t' t, ct := fun t => ∃ n' t', n' < n ∧ J n' t' ∧ Le t' t, bk := fun t => AB X m rest t N }) ∧ (b = false → AB X m rest t N)) :
    AB X m (.While c body [] pos :: rest) τ N := fun G0 H0 G H σ g k => by
  refine Wb.of (pss_cons (ps_while hp pt_wt pss_wb) pss_wb) ?_
  refine ⟨fun n σ' H' => ∃ t G', J n t ∧ Gr m G H0 G' H' ∧ Ok H0 G' H' t σ', ⟨n0, τ, G, h0, ⟨.refl _, g.hh, g.gh, fun _ h _ => h, g.th⟩, k⟩, ?_⟩
  rintro n σ1 H1 ⟨t, G1, j, g1, k1⟩
  obtain ⟨b, hc, ht, hf⟩ := hs n t j
  refine hc H0 G1 H1 σ1 k1 _ fun G2 H2 g2 => ?_
  cases b with
  | false =>
    rw [if_neg Bool.false_ne_true]
    exact hf rfl G0 H0 G2 H2 σ1 (g.shift (g1.trans g2.any)) (k1.gr g2)
  | true =>
    rw [if_pos rfl]
    refine ⟨fun σ' H' => ∃ n' t G', n' < n ∧ J n' t ∧ Gr m G H0 G' H' ∧ Ok H0 G' H' t σ', fun σ' H' ⟨n', t, G', a, b, c, d⟩ => ⟨n', a, t, G', b, c, d⟩, ?_⟩
    refine ⟨fun pins s I => ?_⟩
    refine thn (ht rfl G H0 G2 H2 σ1 (g1.trans g2.any) (k1.gr g2) pins s I) fun f s1 q => sp_mono q (fun σ' H' ⟨t, G', x, y, n', t', w, j', le⟩ => ⟨n', t', G', w, j', x, y.le le⟩) (fun v H' ⟨d, t, G', σ', x, o, y, z⟩ => ⟨d, t, G', σ', g.shift x, o, y, z⟩)
      (fun σ' H' ⟨t, G', x, y, z⟩ => z G0 H0 G' H' σ' (g.shift x) y) (fun σ' H' ⟨t, G', x, y, n', t', w, j', le⟩ => ⟨n', t', G', w, j', x, y.le le⟩)
def Ef (X : Cx) (m : Addr → Prop) (e : Expr) (τ : List Sl) (R : D → List Sl → Prop) : Prop := ∀ (G0 H0 G H : Hp) (σ : L2.St), Gr m G0 H0 G H → Ok H0 G H τ σ → ∀ Q : VK, (∀ v d t G' H', Gr m G0 H0 G' H' → Ex G G' → Ok H0 G' H' t σ → Rp G' v d → R d t → Q v H') → We X e σ H Q
def Et (X : Cx) (m : Addr → Prop) (e : Expr) (τ : List Sl) (R : Bool → List Sl → Prop) : Prop := ∀ (G0 H0 G H : Hp) (σ : L2.St), Gr m G0 H0 G H → Ok H0 G H τ σ → ∀ Q : Bool → Hp → Prop, (∀ b t G' H', Gr m G0 H0 G' H' → Ex G G' → Ok H0 G' H' t σ → R b t → Q b H') → Wt X e σ H Q
def Ea (X : Cx) (m : Addr → Prop) (es : List Expr) (τ : List Sl) (R : List D → List Sl → Prop) : Prop := ∀ (G0 H0 G H : Hp) (σ : L2.St), Gr m G0 H0 G H → Ok H0 G H τ σ → ∀ Q : List V → Hp → Prop, (∀ vs ds t G' H', Gr m G0 H0 G' H' → Ex G G' → Ok H0 G' H' t σ → RpA G' vs ds → R ds t → Q vs H') → Wa X es σ H Q
def Ei (X : Cx) (m : Addr → Prop) (tg e : Expr) (τ : List Sl) (R : List D → List Sl → Prop) : Prop := ∀ (G0 H0 G H : Hp) (σ : L2.St), Gr m G0 H0 G H → Ok H0 G H τ σ → ∀ Q : It → Hp → Prop, (∀ J ds t G' H', Gr m G0 H0 G' H' → Ex G G' → Ok H0 G' H' t σ → ItD J G' ds → R ds t → Q J H') → Wi X tg e σ H Q
variable {R R' : D → List Sl → Prop}
theorem ef_pu (h : Pu X e τ d) (q : R d τ) : Ef X m e τ R := fun G0 H0 G H σ g k Q h' => h H0 G H σ k Q fun v G' H' g' r => h' v d τ G' H' (g.trans g'.any) g'.gg (k.gr g') r q
theorem Ef.mono (h : Ef X m e τ R) (q : ∀ d t, R d t → R' d t) : Ef X m e τ R' := fun G0 H0 G H σ g k Q h' => h G0 H0 G H σ g k Q fun v d t G' H' g' e k' r z => h' v d t G' H' g' e k' r (q d t z)
theorem et_pt {b : Bool} {R : Bool → List Sl → Prop} (h : Pt X e τ b) (q : R b τ) : Et X m e τ R := fun G0 H0 G H σ g k Q h' => h H0 G H σ k Q fun G' H' g' => h' b τ G' H' (g.trans g'.any) g'.gg (k.gr g') q
theorem ea_nil {R : List D → List Sl → Prop} (q : R [] τ) : Ea X m [] τ R := fun G0 H0 G H σ g k Q h' => Wa.of pa_nil (h' [] [] τ G H g (.refl _) k .nil q)
theorem ea_cons {R : List D → List Sl → Prop} (h : Ef X m e τ fun d t => Ea X m es t fun ds t2 => R (d :: ds) t2) (hs : noStar e = true := by rfl) : Ea X m (e :: es) τ R := fun G0 H0 G H σ g k Q q =>
  Wa.of (pa_cons pe_we pa_wa (star_cons hs)) (h G0 H0 G H σ g k _ fun v d t G1 H1 g1 e1 k1 r1 h1 => h1 G0 H0 G1 H1 σ g1 k1 _ fun vs ds t2 G2 H2 g2 e2 k2 r2 h2 => q _ _ t2 G2 H2 g2 (e1.trans e2) k2 (.cons (r1.ex e2) r2) h2)
theorem ea_pa {R : List D → List Sl → Prop} (h : Pa X es τ ds) (q : R ds τ) : Ea X m es τ R := fun G0 H0 G H σ g k Q h' => h H0 G H σ k Q fun v G' H' g' r => h' v ds τ G' H' (g.trans g'.any) g'.gg (k.gr g') r q
theorem ef_op {op : Operator} {r : R2} (ho : OpR X (binaryOp op) r) (h : Ef X m a τ fun x t => Ef X m b t fun y t2 => ∃ z, DOp r x y z ∧ R z t2) : Ef X m (.BinOp a op b pos) τ R := fun G0 H0 G H σ g k Q q =>
  We.of (pe_op ho pe_we pe_we) (h G0 H0 G H σ g k _ fun v x t G1 H1 g1 e1 k1 r1 h1 => h1 G0 H0 G1 H1 σ g1 k1 _ fun u y t2 G2 H2 g2 e2 k2 r2 ⟨z, hr, hz⟩ =>
    hr v u G2 H2 k2.ex (r1.ex e2) r2 Q fun w G3 H3 g3 r3 => q w z t2 G3 H3 (g2.trans g3.any) ((e1.trans e2).trans g3.gg) (k2.gr g3) r3 hz)
theorem ef_opN {op : Operator} {r : R2} (ho : OpR X (binaryOp op) r) (h : Ef X m a τ fun x t => Ef X m b t fun y t2 => ∃ z, DOpN r x y z ∧ R (.lst z) t2) : Ef X m (.BinOp a op b pos) τ R := fun G0 H0 G H σ g k Q q =>
  We.of (pe_op ho pe_we pe_we) (h G0 H0 G H σ g k _ fun v x t G1 H1 g1 e1 k1 r1 h1 => h1 G0 H0 G1 H1 σ g1 k1 _ fun u y t2 G2 H2 g2 e2 k2 r2 ⟨z, hr, hz⟩ =>
    hr v u G2 H2 k2.ex (r1.ex e2) r2 Q fun p vs n r3 => by
      have g3 : Gr m0 G2 H2 (upd G2 p (.lst vs)) (upd H2 p (.lst vs)) := .new k2.ex n
      exact q _ _ t2 _ _ (g2.trans g3.any) ((e1.trans e2).trans g3.gg) (k2.gr g3) (.lst upd_same (r3.ex g3.gg)) hz)
theorem et_cmp {op : CmpOp} {r : R2} {R : Bool → List Sl → Prop} (ho : OpR X (compareOp op) r) (h : Ef X m a τ fun x t => Ef X m b t fun y t2 => ∃ z, DOp r x y (.bl z) ∧ R z t2) (hm : behindInMarks op b = false := by first | exact nomark _ | rfl) : Et X m (.Compare a [op] [b] pos) τ R := fun G0 H0 G H σ g k Q q =>
  Wt.of (pt_cmpR ho pe_we pe_we hm) (h G0 H0 G H σ g k _ fun v x t G1 H1 g1 e1 k1 r1 h1 => h1 G0 H0 G1 H1 σ g1 k1 _ fun u y t2 G2 H2 g2 e2 k2 r2 ⟨z, hr, hz⟩ =>
    hr v u G2 H2 k2.ex (r1.ex e2) r2 _ fun w G3 H3 g3 r3 => by
      cases r3
      exact ⟨z, rfl, q z t2 G3 H3 (g2.trans g3.any) ((e1.trans e2).trans g3.gg) (k2.gr g3) hz⟩)
theorem ef_ixL (h : Ef X m a τ fun x t => Ef X m b t fun y t2 => ∃ (ds : List D) (k : Nat) (d : D), x = .lst ds ∧ y = .int (k : Int) ∧ ds[k]? = some d ∧ R d t2) (hs : PlainIx b := by exact fun _ _ => rfl) : Ef X m (.Subscript a b pos) τ R := fun G0 H0 G H σ g k Q q =>
  We.of (pe_ix ix_list pe_we pe_we hs) (h G0 H0 G H σ g k _ fun v x t G1 H1 g1 e1 k1 r1 h1 => h1 G0 H0 G1 H1 σ g1 k1 _ fun u y t2 G2 H2 g2 e2 k2 r2 ⟨ds, j, d, ex, ey, hd, hz⟩ => by
    subst ex ey
    cases r1 with
    | lst hh r1 =>
      cases r2
      obtain ⟨w, hw, rw⟩ := r1.get hd
      exact ⟨_, _, _, w, rfl, rfl, SqL.of (k2.ex _ _ (e2 _ _ hh)), atI_nat hw, q w d t2 G2 H2 g2 (e1.trans e2) k2 (rw.ex e2) hz⟩)
theorem ef_ixT (h : Ef X m a τ fun x t => Ef X m b t fun y t2 => ∃ (ds : List D) (k : Nat) (d : D), x = .tup ds ∧ y = .int (k : Int) ∧ ds[k]? = some d ∧ R d t2) (hs : PlainIx b := by exact fun _ _ => rfl) : Ef X m (.Subscript a b pos) τ R := fun G0 H0 G H σ g k Q q =>
  We.of (pe_ix ix_tup pe_we pe_we hs) (h G0 H0 G H σ g k _ fun v x t G1 H1 g1 e1 k1 r1 h1 => h1 G0 H0 G1 H1 σ g1 k1 _ fun u y t2 G2 H2 g2 e2 k2 r2 ⟨ds, j, d, ex, ey, hd, hz⟩ => by
    subst ex ey
    cases r1 with
    | tup hh r1 =>
      cases r2
      obtain ⟨w, hw, rw⟩ := r1.get hd
      exact ⟨_, _, _, w, rfl, rfl, SqT.of (k2.ex _ _ (e2 _ _ hh)), atI_nat hw, q w d t2 G2 H2 g2 (e1.trans e2) k2 (rw.ex e2) hz⟩)
theorem ef_ixS (h : Ef X m a τ fun x t => Ef X m b t fun y t2 => ∃ (z : Str) (k c : Nat), x = .str z ∧ z.length ≤ 1000 ∧ y = .int (k : Int) ∧ z.cps.toList[k]? = some c ∧ R (.str ⟨#[c]⟩) t2) (hs : PlainIx b := by exact fun _ _ => rfl) : Ef X m (.Subscript a b pos) τ R := fun G0 H0 G H σ g k Q q =>
  We.of (pe_ix ix_str pe_we pe_we hs) (h G0 H0 G H σ g k _ fun v x t G1 H1 g1 e1 k1 r1 h1 => h1 G0 H0 G1 H1 σ g1 k1 _ fun u y t2 G2 H2 g2 e2 k2 r2 ⟨z, j, c, ex, hl, ey, hd, hz⟩ => by
    subst ex ey
    cases r1; cases r2
    exact ⟨z, _, c, rfl, rfl, sl1000 hl, atI_nat hd, q _ _ t2 G2 H2 g2 (e1.trans e2) k2 (.str _) hz⟩)
theorem ef_lst (h : Ea X m es τ fun ds t => ds.length ≤ 1000 ∧ R (.lst ds) t) : Ef X m (.List es pos) τ R := fun G0 H0 G H σ g k Q q =>
  We.of (pe_lst pa_wa) (h G0 H0 G H σ g k _ fun vs ds t G1 H1 g1 e1 k1 r1 ⟨hl, hz⟩ => ⟨sl1000 (by rw [r1.length]; exact hl), fun p hp => by
    have g3 : Gr m0 G1 H1 (upd G1 p (.lst vs)) (upd H1 p (.lst vs)) := .new k1.ex hp
    exact q _ _ t _ _ (g1.trans g3.any) (e1.trans g3.gg) (k1.gr g3) (.lst upd_same (r1.ex g3.gg)) hz⟩)
theorem ef_tup {x1} (h : Ea X m es τ fun ds t => ds.length ≤ 1000 ∧ R (.tup ds) t) : Ef X m (.Tuple es x1 pos) τ R := fun G0 H0 G H σ g k Q q =>
  We.of (pe_tup pa_wa) (h G0 H0 G H σ g k _ fun vs ds t G1 H1 g1 e1 k1 r1 ⟨hl, hz⟩ => ⟨sl1000 (by rw [r1.length]; exact hl), fun p hp => by
    have g3 : Gr m0 G1 H1 (upd G1 p (.tup vs)) (upd H1 p (.tup vs)) := .new k1.ex hp
    exact q _ _ t _ _ (g1.trans g3.any) (e1.trans g3.gg) (k1.gr g3) (.tup upd_same (r1.ex g3.gg)) hz⟩)
theorem ef_callB {id : String} {r : List V → Hp → VK → Prop} (hc : CallR X (.builtin id) r) (hm : X.mg n = none) (ha : Ea X m (e :: es) τ fun ds t => ∃ d, DCall r ds d ∧ R d t) (hv : bootBuiltins n = some (.builtin id) := by decide +kernel) (hg : Gl X n := by rfl) (hn : n ≠ "__name__" := by decide) (hdb : (n == ("__debug__" : Str)) = false := by decide)
    (hs : (e :: es).all noStar = true := by rfl) : Ef X m (.Call (.Name n p) (e :: es) [] pos) τ R := fun G0 H0 G H σ g k Q q => by
  have hs' : noStar e = true ∧ es.all noStar = true := by rwa [List.all_cons, Bool.and_eq_true] at hs
  exact We.of (pe_callB hc hg hm hv pa_wa hn hdb (star_cons hs'.1) (plain_args hs'.2)) (ha G0 H0 G H σ g k _ fun vs ds t G1 H1 g1 e1 k1 r1 ⟨d, hr, hz⟩ => hr vs G1 H1 k1.ex r1 Q fun w G2 H2 g2 r2 => q w d t G2 H2 (g1.trans g2.any) (e1.trans g2.gg) (k1.gr g2) r2 hz)
theorem ef_callTy {T : String} {r : List V → Hp → VK → Prop} (hc : CallR X (.type T) r) (hm : X.mg n = none) (ha : Ea X m (e :: es) τ fun ds t => ∃ d, DCall r ds d ∧ R d t) (hv : bootBuiltins n = some (.type T) := by decide +kernel) (hg : Gl X n := by rfl) (hn : n ≠ "__name__" := by decide) (hdb : (n == ("__debug__" : Str)) = false := by decide)
    (hs : (e :: es).all noStar = true := by rfl) : Ef X m (.Call (.Name n p) (e :: es) [] pos) τ R := fun G0 H0 G H σ g k Q q => by
  have hs' : noStar e = true ∧ es.all noStar = true := by rwa [List.all_cons, Bool.and_eq_true] at hs
  exact We.of (pe_callTy hc hg hm hv pa_wa hn hdb (star_cons hs'.1) (plain_args hs'.2)) (ha G0 H0 G H σ g k _ fun vs ds t G1 H1 g1 e1 k1 r1 ⟨d, hr, hz⟩ => hr vs G1 H1 k1.ex r1 Q fun w G2 H2 g2 r2 => q w d t G2 H2 (g1.trans g2.any) (e1.trans g2.gg) (k1.gr g2) r2 hz)
theorem ef_call {R0 : List D → D → Prop} {j k : Nat} (C : Cal X.prog X.w X.K X.mg X.base CX0 j n (spP R0)) (hr : Room k X.A) (ha : Ea X m (e :: es) τ fun ds t => ∃ d, R0 ds d ∧ R d t) (hj : j ≤ k := by decide) (hg : Gl X n := by rfl) (hdb : (n == ("__debug__" : Str)) = false := by decide)
    (hs : (e :: es).all noStar = true := by rfl) : Ef X m (.Call (.Name n p) (e :: es) [] pos) τ R := fun G0 H0 G H σ g ok Q q => by
  have hs' : noStar e = true ∧ es.all noStar = true := by rwa [List.all_cons, Bool.and_eq_true] at hs
  obtain ⟨f, fd, ps, F, hm, hk, hb⟩ := C.ex
  refine We.of (pe_call F (hr.mono hj) hg hm hk hb .nil pass0 pa_wa hdb (star_cons hs'.1) (plain_args hs'.2)) (ha G0 H0 G H σ g ok _ fun vs ds t G1 H1 g1 e1 k1 r1 ⟨d, hR, hz⟩ => ?_)
  show spP R0 (vs ++ []) H1 Q E0
  rw [List.append_nil]
  exact ⟨G1, ds, d, k1.ex, r1, hR, fun v G2 H2 g2 r2 => q v d t G2 H2 (g1.trans g2.any) (e1.trans g2.gg) (k1.gr g2) r2 hz⟩
/-- so many draws at most, over all -/
abbrev lineB : Nat := 1000000
/-- the promise of a def that draws from the source at most c times -/
def spZ (c : Nat) (pre : List D → Prop) (R : List D → D → Prop) : Sp := fun vs H Q _ => ∃ a us k G ds, vs = .ref a :: us ∧ Ex G H ∧ G a = none ∧ Sk a k H ∧ k + c ≤ lineB ∧ RpA G us ds ∧ pre ds ∧ ∀ v d G' H', Gr (fun b => b = a) G H G' H' → Sk a (k + c) H' → Rp G' v d → R ds d → Q v H'
theorem ef_draw (i : Nat) {s : Str} {c : Nat} {pre : List D → Prop} {R0 : List D → D → Prop} {j k : Nat} (C : Cal X.prog X.w X.K X.mg X.base CX0 j n (spZ c pre R0)) (hr : Room k X.A) (h0 : ∃ a k, τ[i]? = some (Sl.sr a k))
    (ha : Ea X m es τ fun ds t => pre ds ∧ ∃ a k, t[i]? = some (Sl.sr a k) ∧ m a ∧ k + c ≤ lineB ∧ ∀ d, R0 ds d → R d (t.set i (.sr a (k + c)))) (hj : j ≤ k := by decide) (hg : Gl X n := by rfl) (hN : X.N[i]? = some s := by rfl)
    (hv : Vis X.env.scope s := by first | exact Or.inl rfl | exact Or.inr (Or.inl rfl) | exact Or.inr (Or.inr rfl)) (hdb : (n == ("__debug__" : Str)) = false := by decide) (hd : (s == ("__debug__" : Str)) = false := by decide) (hcd : (s == ("__classdict__" : Str)) = false := by decide) (hs : es.all noStar = true := by rfl) :
    Ef X m (.Call (.Name n p) (.Name s p2 :: es) [] pos) τ R := fun G0 H0 G H σ g ok Q q => by
  obtain ⟨f, fd, ps, F, hm, hk, hb⟩ := C.ex
  obtain ⟨a0, k0, e0⟩ := h0
  obtain ⟨b1, _, _⟩ := ok.sr i a0 k0 e0
  refine We.of (pe_call F (hr.mono hj) hg hm hk hb .nil pass0 (pa_cons (pe_var hN hv hd hcd) pa_wa) hdb rfl (plain_args hs)) ⟨_, b1, ha G0 H0 G H σ g ok _ fun vs ds t G1 H1 g1 e1 k1 r1 ⟨hp, a, k', e2, hma, hl, hz⟩ => ?_⟩
  obtain ⟨c1, c2, c3⟩ := k1.sr i a k' e2
  rw [b1] at c1; cases c1
  show spZ c pre R0 ((V.ref _ :: vs) ++ []) H1 Q E0
  rw [List.append_nil]
  refine ⟨_, vs, k', G1, ds, rfl, k1.ex, c2, c3, hl, r1, hp, fun v d G2 H2 g2 s2 r2 hR => ?_⟩
  obtain ⟨g3, k3⟩ := k1.draw g1 e2 (.inl hma) g2 s2
  exact q v d _ G2 H2 g3 (e1.trans g2.gg) k3 r2 (hz d hR)
/-- xs.pop(i), xs a list of one's own -/
theorem ef_pop (i : Nat) {a : Expr} {p2 p3 : Pos} (h0 : ∃ es, τ[i]? = some (Sl.ow es)) (h : Ef X m a τ fun y t => ∃ (es : List D) (k : Nat) (d : D), t[i]? = some (Sl.ow es) ∧ es.length ≤ 1000 ∧ y = .int (k : Int) ∧ es[k]? = some d ∧ R d (t.set i (.ow (es.eraseIdx k))))
    (hN : X.N[i]? = some n := by rfl) (hv : Vis X.env.scope n := by first | exact Or.inl rfl | exact Or.inr (Or.inl rfl) | exact Or.inr (Or.inr rfl)) (hd : (n == ("__debug__" : Str)) = false := by decide) (hcd : (n == ("__classdict__" : Str)) = false := by decide)
    (he : PE X (.Call (.Attribute (.Name n p) "pop" p2) [a] [] p3) (tBM X.K "list" rPopAt (tVar i) (tCons (We X a) tNil)) := by exact pe_bm PySem.F.plainAttrs_list PySem.F.slot_list_pop PySem.F.type_list_pop mt_popAt (pv _) (pa_cons pe_we pa_nil)) :
    Ef X m (.Call (.Attribute (.Name n p) "pop" p2) [a] [] p3) τ R := fun G0 H0 G H σ g k Q q => by
  obtain ⟨es0, e0⟩ := h0
  obtain ⟨l, vs, h1, h3, h4, h5, r⟩ := k.ow i es0 e0
  refine We.of he ⟨_, h1, Or.inl ⟨rfl, _, SqL.of h3⟩, ?_⟩
  show We X a σ H (fun x H1 => rPopAt (V.ref l) [x] H1 Q)
  refine h G0 H0 G H σ g k _ fun v y t G1 H1 g1 e1 k1 r1 ⟨es, j, d, a1, a2, a3, a4, a5⟩ => ?_
  subst a3
  cases r1
  obtain ⟨l', vs', c1, c2, c3, c4, c5⟩ := k1.ow i es a1
  rw [h1] at c1; cases c1
  obtain ⟨w, hw, rw⟩ := c5.get a4
  have hlt : j < vs'.length := (List.getElem?_eq_some_iff.mp hw).1
  have hle : vs'.length ≤ 1000 := by rw [c5.length]; exact a2
  obtain ⟨g2, k2⟩ := k1.change g1 a1 h1 (c5.eraseIdx j)
  refine ⟨l, vs', (j : Int), j, w, rfl, rfl, c2, by omega, by omega, ?_, hw, q w d _ G1 _ g2 e1 k2 rw a5⟩
  unfold seqIndex?
  simp; omega
theorem ef_slL {lo hi : Option Expr} {ol oh : Option Int} {p2 : Pos} (h : Ef X m a τ fun x t => ∃ ds, x = .lst ds ∧ R (.lst (cutD ds ol oh)) t) (hl : ∀ t, Po X lo t ol) (hh : ∀ t, Po X hi t oh) : Ef X m (.Subscript a (.Slice lo hi none p2) pos) τ R := fun G0 H0 G H σ g k Q q => by
  have st : ∀ {o : Option Expr} {oo : Option Int}, (∀ t, Po X o t oo) → ∃ th, PO X o th ∧ ∀ (t : List Sl) (H0 G1 H1 : Hp), Ok H0 G1 H1 t σ → ∀ R : Option Int → Hp → Prop, (∀ G' H', Gr m0 G1 H1 G' H' → R oo H') → th σ H1 R := fun {o oo} ho => by
    cases o with
    | none =>
      have e : oo = none := ho []
      subst e
      exact ⟨_, po_none, fun t H0 G1 H1 k R h => h G1 H1 (.refl k.ex)⟩
    | some e =>
      refine ⟨_, po_some pe_we, fun t H0 G1 H1 k R h' => ?_⟩
      obtain ⟨i, rfl, h⟩ := ho t
      exact h H0 G1 H1 σ k _ fun v G2 H2 g2 r2 => by cases r2; exact ⟨i, rfl, h' G2 H2 g2⟩
  obtain ⟨t1, p1, q1⟩ := st hl
  obtain ⟨t2, p2', q2⟩ := st hh
  refine We.of (pe_slice sl_list pe_we p1 p2') (h G0 H0 G H σ g k _ fun v x t G1 H1 g1 e1 k1 r1 ⟨ds, ex, hz⟩ => q1 t H0 G1 H1 k1 _ fun G2 H2 g2 => q2 t H0 G2 H2 (k1.gr g2) _ fun G3 H3 g3 => ?_)
  subst ex
  have r3 := r1.ex (g2.gg.trans g3.gg)
  have k3 := (k1.gr g2).gr g3
  cases r3 with
  | @lst _ xs _ hh r3 => exact ⟨_, _, rfl, SqL.of (k3.ex _ _ hh), fun p hp => by
      have g4 : Gr m0 G3 H3 (upd G3 p (.lst (cutV xs ol oh))) (upd H3 p (.lst (cutV xs ol oh))) := .new k3.ex hp
      exact q _ _ t _ _ (((g1.trans g2.any).trans g3.any).trans g4.any) (((e1.trans g2.gg).trans g3.gg).trans g4.gg) (k3.gr g4) (.lst upd_same ((rpa_cut r3 ol oh).ex g4.gg)) hz⟩
theorem ei_pi {R : List D → List Sl → Prop} (h : Pi X tg e τ ds) (q : R ds τ) : Ei X m tg e τ R := fun G0 H0 G H σ g k Q h' => h H0 G H σ k Q fun J G' H' g' it => h' J ds τ G' H' (g.trans g'.any) g'.gg (k.gr g') it q
theorem itd_list {K : PySem.W.Frag} {G : Hp} {a : Addr} {xs : List V} {ds : List D} (h1 : G a = some (.lst xs)) (r1 : RpA G xs ds) : ItD (Itl K a) G ds := by
  refine ⟨fun i d G2 H2 hi e1 e2 => ?_, fun G2 H2 e1 e2 => ?_⟩
  · obtain ⟨v, hv, rv⟩ := r1.get hi
    refine ⟨⟨_, v, SqL.of (e2 _ _ (e1 _ _ h1)), hv⟩, fun x H3 ⟨z, y⟩ => ?_⟩
    subst z
    have := y _ (SqL.of (e2 _ _ (e1 _ _ h1)))
    rw [hv] at this; cases this
    exact ⟨G2, .refl e2, rv.ex e1⟩
  · exact ⟨_, SqL.of (e2 _ _ (e1 _ _ h1)), Nat.le_of_eq r1.length⟩
theorem ei_lst {R : List D → List Sl → Prop} (h : Ef X m e τ fun x t => ∃ ds, x = .lst ds ∧ R ds t) : Ei X m tg e τ R := fun G0 H0 G H σ g k Q q =>
  Wi.of (pi_list pe_we) (h G0 H0 G H σ g k _ fun v x t G1 H1 g1 e1 k1 r1 ⟨ds, ex, hz⟩ => by
    subst ex
    cases r1 with
    | lst h1 r1 => exact ⟨_, rfl, ⟨_, SqL.of (k1.ex _ _ h1)⟩, q _ ds t G1 H1 g1 e1 k1 (itd_list h1 r1) hz⟩)
theorem itd_rng {G : Hp} {n : Nat} : ItD (Itr 0 ((n : Int) - 0).toNat) G ((List.range n).map fun (i : Nat) => D.int (i : Int)) := by
  refine ⟨fun i d G2 H2 hi e1 e2 => ?_, fun G2 H2 e1 e2 => ?_⟩
  · rw [List.getElem?_map] at hi
    obtain ⟨j, hj, hd⟩ := Option.map_eq_some_iff.mp hi
    obtain ⟨hlt, hv⟩ := List.getElem?_eq_some_iff.mp hj
    rw [List.length_range] at hlt
    rw [List.getElem_range] at hv
    subst hv; subst hd
    refine ⟨by show i < _; omega, fun x H3 ⟨z, y⟩ => ?_⟩
    subst z
    subst y
    refine ⟨G2, .refl e2, ?_⟩
    rw [Int.zero_add]
    exact .int _
  · show _ ≤ _
    rw [List.length_map, List.length_range]; omega
theorem ei_rng {R : List D → List Sl → Prop} (hm : X.mg "range" = none) (h : Ef X m e τ fun x t => ∃ n : Nat, x = .int (n : Int) ∧ n ≤ 1000 ∧ R ((List.range n).map fun (i : Nat) => D.int (i : Int)) t) (hg : Gl X "range" := by rfl) (hs : noStar e = true := by rfl) :
    Ei X m tg (.Call (.Name "range" p) [e] [] pos) τ R := fun G0 H0 G H σ g k Q q =>
  Wi.of (pi_range1 hg hm (pa_cons pe_we pa_nil (star_cons hs)) (star_cons hs)) (h G0 H0 G H σ g k _ fun v x t G1 H1 g1 e1 k1 r1 ⟨n, ex, hl, hz⟩ => by
    subst ex
    cases r1
    have q' := q _ _ t G1 H1 g1 e1 k1 (itd_rng (n := n)) hz
    exact ⟨(n : Int), rfl, by omega, by omega, q'⟩)
end
end R87
namespace R87
open PySem PySem.Spec PyProof.Rows L2
open PySem.W (Datum DatumOrd Tup T4 Holds HoldAll)
section
variable {X : Cx} {m : Addr → Prop} {τ : List Sl} {N : AE} {rest body : List Stmt} {a b c e tg : Expr} {es : List Expr} {pos p p2 p3 q2 tpos : Pos} {ds fs : List D} {d x y : D} {n : Str}
theorem abe_set (i : Nat) (h : Ef X m e τ fun d t => AB X m rest (t.set i (.sh d)) N) (hN : X.N.Nodup := by assumption) (hi : X.N[i]? = some n := by rfl) (hx : Loc X.env.scope n := by first | exact Or.inl rfl | exact Or.inr rfl) (hs : swapsWith e (some (.Name n p)) pos.line X.env = pure false := by rfl)
    (hf : X.fn n = true ∨ X.env.scope.names.lookup n = some .local := by first | exact .inl rfl | exact .inr rfl) : AB X m (.Assign [.Name n p] e pos :: rest) τ N := fun G0 H0 G H σ g k =>
  Wb.of (pss_cons (ps_set hN hi hx pe_we hs hf) pss_wb) (h G0 H0 G H σ g k _ fun v d t G1 H1 g1 e1 k1 r1 h2 => h2 G0 H0 G1 H1 _ g1 (k1.setSh r1))
theorem abe_ret (h : Ef X m e τ fun d t => N.rt d t) : AB X m (.Return (some e) pos :: rest) τ N := fun G0 H0 G H σ g k =>
  Wb.of (pss_cons (ps_ret pe_we) pss_wb) (h G0 H0 G H σ g k _ fun v d t G1 H1 g1 e1 k1 r1 h2 => ⟨d, t, G1, σ, g1, k1, r1, h2⟩)
theorem abe_unpack (h : Ef X m e τ fun d t => ∃ τ1 is, Tg X tg d t τ1 is ∧ AB X m rest τ1 N) (hs : swapsWithSole [tg] e pos.line X.env = pure false := by rfl) (hw : swappedStores [tg] e X.env = pure none := by rfl)
    (h1 : (assignEach [tg] X.env).map (·.2) = [assign tg X.env] := by rfl) : AB X m (.Assign [tg] e pos :: rest) τ N := fun G0 H0 G H σ g k =>
  Wb.of (pss_cons (ps_asg pe_we pg_wg hs hw h1) pss_wb) (h G0 H0 G H σ g k _ fun v d t G1 H1 g1 e1 k1 r1 ⟨τ1, is, ht, h2⟩ => ht H0 G1 H1 σ v k1 r1 _ fun σ' k' _ _ => h2 G0 H0 G1 H1 σ' g1 k')
theorem abe_append (i : Nat) {p2 p3 : Pos} (h0 : ∃ es, τ[i]? = some (Sl.ow es)) (h : Ef X m e τ fun d t => ∃ es, t[i]? = some (Sl.ow es) ∧ es.length < 1000 ∧ AB X m rest (t.set i (.ow (es ++ [d]))) N)
    (hN : X.N[i]? = some n := by rfl) (hv : Vis X.env.scope n := by first | exact Or.inl rfl | exact Or.inr (Or.inl rfl) | exact Or.inr (Or.inr rfl)) (hd : (n == ("__debug__" : Str)) = false := by decide) (hcd : (n == ("__classdict__" : Str)) = false := by decide)
    (he : PE X (.Call (.Attribute (.Name n p) "append" p2) [e] [] p3) (tBM X.K "list" rAppend (tVar i) (tCons (We X e) tNil)) := by exact pe_bm PySem.F.plainAttrs_list PySem.F.slot_list_append PySem.F.type_list_append mt_append (pv _) (pa_cons pe_we pa_nil))
    (hsw : swapsWith (.Call (.Attribute (.Name n p) "append" p2) [e] [] p3) none pos.line X.env = pure false := by rfl) :
    AB X m (.Expr (.Call (.Attribute (.Name n p) "append" p2) [e] [] p3) pos :: rest) τ N := fun G0 H0 G H σ g k => by
  obtain ⟨es0, e0⟩ := h0
  obtain ⟨q, vs, h1, h3, h4, h5, r⟩ := k.ow i es0 e0
  refine Wb.of (pss_cons (ps_expr he hsw) pss_wb) ⟨_, h1, Or.inl ⟨rfl, _, SqL.of h3⟩, ?_⟩
  show We X e σ H (fun x H1 => rAppend (V.ref q) [x] H1 fun _ H2 => Wb X rest (Cn m G0 H0 N) σ H2)
  refine h G0 H0 G H σ g k _ fun v d t G1 H1 g1 e1 k1 r1 ⟨es, a1, a2, h2⟩ => ?_
  obtain ⟨q', vs', c1, c2, c3, c4, c5⟩ := k1.ow i es a1
  rw [h1] at c1; cases c1
  obtain ⟨g2, k2⟩ := k1.change g1 a1 h1 (c5.append (.one r1))
  refine ⟨q, vs', v, rfl, rfl, c2, ?_, h2 G0 H0 G1 _ σ g2 k2⟩
  rw [c5.length]; exact Nat.lt_of_lt_of_le a2 (by decide)
theorem abe_if {c : Expr} {a b : List Stmt} (hc : Et X m c τ fun v t => (v = true → AB X m (a ++ []) t { N with nx := fun t => AB X m rest t N }) ∧ (v = false → AB X m b t { N with nx := fun t => AB X m rest t N })) : AB X m (.If c a b pos :: rest) τ N := fun G0 H0 G H σ g k => by
  refine Wb.of (pss_cons (ps_if pt_wt pss_wb pss_wb) pss_wb) (hc G0 H0 G H σ g k _ fun v t G1 H1 g1 e1 k1 ⟨h1, h2⟩ => ?_)
  have up : ∀ {sts : List Stmt}, AB X m sts t { N with nx := fun t => AB X m rest t N } → Wb X sts { Cn m G0 H0 N with nx := Wb X rest (Cn m G0 H0 N) } σ H1 := fun {sts} h =>
    ⟨fun pins s I => thn (h G0 H0 G1 H1 σ g1 k1 pins s I) fun f s1 q => sp_mono q (fun σ' H' ⟨t, G', x, y, z⟩ => z G0 H0 G' H' σ' x y) (fun _ _ z => z) (fun _ _ z => z) (fun _ _ z => z)⟩
  cases v with
  | true =>
    rw [if_pos rfl]
    have := h1 rfl
    rw [List.append_nil] at this
    exact up this
  | false =>
    rw [if_neg Bool.false_ne_true]
    exact up (h2 rfl)
theorem abe_for {Rn : List D → List Sl → Prop} (J : List D → Nat → List Sl → Prop) (hp : PassesOwn (model X.prog X.w) X.A X.env X.xe) (hi : Ei X m tg e τ Rn) (h0 : ∀ ds t, Rn ds t → J ds 0 t)
    (hs : ∀ ds i d t, J ds i t → ds[i]? = some d → ∃ τ1 is, Tg X tg d t τ1 is ∧ AB X m body τ1 { N with nx := fun t => ∃ t', J ds (i + 1) t' ∧ Le t' t, ct := fun t => ∃ t', J ds (i + 1) t' ∧ Le t' t, bk := fun t => AB X m rest t N })
    (h2 : ∀ ds t, J ds ds.length t → AB X m rest t N) (hc : X.calm = true := by rfl) (hfs : ∀ x, foldedSetIterable e X.env x = pure x := by intro _; rfl) : AB X m (.For tg e body [] pos :: rest) τ N := fun G0 H0 G H σ g k => by
  refine Wb.of (pss_cons (ps_for hp hc pi_wi pg_wg pss_wb hfs) pss_wb) (hi G0 H0 G H σ g k _ fun Jt ds t0 G1 H1 g1 e1 k1 it hr => ?_)
  refine ⟨fun i mm σ' H' => mm = ds.length - i ∧ i ≤ ds.length ∧ ∃ t G', J ds i t ∧ Gr m G1 H0 G' H' ∧ Ok H0 G' H' t σ', ⟨_, rfl, Nat.zero_le _, t0, G1, h0 ds t0 hr, ⟨.refl _, g1.hh, g1.gh, fun _ h _ => h, g1.th⟩, k1⟩, ?_⟩
  rintro i mm σ2 H2 ⟨rfl, hle, t, G2, j, g2, k2⟩
  by_cases hlt : i < ds.length
  · obtain ⟨d, hd⟩ : ∃ d, ds[i]? = some d := ⟨_, List.getElem?_eq_getElem hlt⟩
    obtain ⟨a, b⟩ := it.go i d G2 H2 hd g2.gg k2.ex
    refine .inr ⟨a, fun σ' H' => ∃ t G', J ds (i + 1) t ∧ Gr m G1 H0 G' H' ∧ Ok H0 G' H' t σ', fun σ' H' w => ⟨ds.length - (i + 1), by omega, rfl, hlt, w⟩, fun x H3 y => ?_⟩
    obtain ⟨G3, g3, r3⟩ := b x H3 y
    obtain ⟨τ1, is, ht, hb⟩ := hs ds i d t j hd
    refine ht H0 G3 H3 σ2 x (k2.gr g3) r3 _ fun σ4 k4 _ _ => ?_
    refine ⟨fun pins s I4 => ?_⟩
    exact thn (hb G1 H0 G3 H3 σ4 (g2.trans g3.any) k4 pins s I4) fun f s1 q => sp_mono q (fun σ' H' ⟨t, G', x, y, t', j', z⟩ => ⟨t', G', j', x, y.le z⟩) (fun v H' ⟨d, t, G', σ', x, o, y, z⟩ => ⟨d, t, G', σ', g1.shift x, o, y, z⟩) (fun σ' H' ⟨t, G', x, y, z⟩ => z G0 H0 G' H' σ' (g1.shift x) y) (fun σ' H' ⟨t, G', x, y, t', j', z⟩ => ⟨t', G', j', x, y.le z⟩)
  · have e : i = ds.length := by omega
    subst e
    exact .inl ⟨it.stop G2 H2 g2.gg k2.ex, h2 ds t j G0 H0 G2 H2 σ2 (g1.shift g2) k2⟩
/-- no own lists -/
def NoOw (τ : List Sl) : Prop := ∀ (i : Nat) (ds : List D), τ[i]? ≠ some (Sl.ow ds)
theorem Ok.anew {H0 H1 G H : Hp} {τ : List Sl} {σ : L2.St} (k : Ok H0 G H τ σ) (h : NoOw τ) : Ok H1 G H τ σ :=
  ⟨k.ex, k.len, k.sh, fun i ds e => absurd e (h i ds), k.ap, k.sr, k.aq, k.su⟩
/-- a comprehension whose element draws from the source at a (slot i), at most c times a turn -/
theorem ef_lc {own : List (Str × Nat)} {elt iter : Expr} {scope : Scope} {Rn : List D → List Sl → Prop} {R : D → List Sl → Prop} {a0 : Addr} (i c : Nat) (P : D → Prop) (hi : Ei X m tg iter τ Rn)
    (ht : ∀ ds t, Rn ds t → ∃ k tb, ds.length ≤ 1000 ∧ t[i]? = some (Sl.sr a0 k) ∧ m a0 ∧ k + ds.length * c ≤ lineB ∧ NoOw tb ∧ (∀ k', Le (tb.set i (.sr a0 k')) (wipeS (t.set i (.sr a0 k')) (own.map (·.2)))) ∧ tb.length = t.length ∧
      (∀ d ∈ ds, ∃ τ1 is, (∀ k', Bk X scope fun Y => Tg Y tg d (tb.set i (.sr a0 k')) (τ1.set i (.sr a0 k')) is) ∧ NoOw τ1 ∧ (∀ j ∈ is, j ∈ own.map (·.2)) ∧ ∀ k', k' + c ≤ lineB → Bk X scope fun Y => Ef Y (fun b => b = a0) elt (τ1.set i (.sr a0 k')) fun v t' => P v ∧ ∃ k2, t'[i]? = some (Sl.sr a0 k2) ∧ k2 ≤ k' + c) ∧
      ∀ vs : List D, vs.length = ds.length → (∀ v ∈ vs, P v) → ∀ k2, k2 ≤ k + ds.length * c → R (.lst vs) (t.set i (.sr a0 k2)))
    (ok : BlkOk X.N X.env.scope scope own) (hN : X.N.Nodup := by assumption) (hc : X.calm = true := by rfl) (hs : ∀ x, foldedSetIterable iter X.env x = pure x := by intro _; rfl) : Ef X m (.ListComp elt [⟨tg, iter, [], 0⟩] scope pos) τ R := fun G0 H0 G H σ g k Q q => by
  refine We.of (pe_lc hc hN pi_wi ok (pg_gB (tg := tg)) (pts_tB (ifs := [])) pe_eB hs) ?_
  refine hi G0 H0 G H σ g k _ fun J ds t G1 H1 g1 e1 k1 it hr => fun Dl hD => ?_
  obtain ⟨kk, tb, hl, hsr, hma, hB, hno, hle, htl, hturn, hend⟩ := ht ds t hr
  obtain ⟨s1, s2, s3⟩ := k1.sr i a0 kk hsr
  have ha0 : Dl ≠ a0 := fun z => s3.ne (by rw [← z]; exact hD)
  refine ⟨fun j mm H' => mm = ds.length - j ∧ j ≤ ds.length ∧ ∃ G' acc vs k', Gr (fun b => b = a0) G1 H1 G' H' ∧ G' Dl = none ∧ H' Dl = some (.lst acc) ∧ RpA G' acc vs ∧ vs.length = j ∧ (∀ v ∈ vs, P v) ∧ Sk a0 k' H' ∧ k' ≤ kk + j * c,
    ⟨_, rfl, Nat.zero_le _, G1, [], [], kk, .newO k1.ex hD, k1.ex.back hD, upd_same, .nil, rfl, (fun v hv => by cases hv), s3.ex (fun o z => by rw [upd_ne (Ne.symm ha0)]; exact z), by omega⟩, ?_⟩
  rintro j mm H2 ⟨rfl, hlj, G2, acc, vs, k2, g2, d2, a2, r2, l2, p2, sk2, hk2⟩
  by_cases hlt : j < ds.length
  · obtain ⟨d, hd⟩ : ∃ d, ds[j]? = some d := ⟨_, List.getElem?_eq_getElem hlt⟩
    obtain ⟨ga, gb⟩ := it.go j d G2 H2 hd g2.gg g2.gh
    refine .inr ⟨ga, fun H' => ∃ G' acc vs k', Gr (fun b => b = a0) G1 H1 G' H' ∧ G' Dl = none ∧ H' Dl = some (.lst acc) ∧ RpA G' acc vs ∧ vs.length = j + 1 ∧ (∀ v ∈ vs, P v) ∧ Sk a0 k' H' ∧ k' ≤ kk + (j + 1) * c, fun H' w => ⟨ds.length - (j + 1), by omega, rfl, hlt, w⟩, fun x H3 hx => ?_⟩
    obtain ⟨G3, g3, r3⟩ := gb x H3 hx
    obtain ⟨τ1, is, t1, n1, t2, t4⟩ := hturn d (List.mem_of_getElem? hd)
    have hmul : (j + 1) * c ≤ ds.length * c := Nat.mul_le_mul_right c hlt
    have ej : (j + 1) * c = j * c + c := Nat.succ_mul j c
    -- the frame's slots as they stand now
    obtain ⟨_, okd⟩ := k1.draw g1 hsr (.inl hma) g2 sk2
    have ok3 : Ok H1 G3 H3 (tb.set i (.sr a0 k2)) (L2.wipe σ (own.map (·.2))) := by
      refine (((okd.gr g3).wipe (own.map (·.2))).le (hle k2)).anew fun y es z => ?_
      rcases set_at z with ⟨_, z1, _⟩ | ⟨_, z⟩
      · cases z1
      · exact hno y es z
    have g13 : Gr (fun b => b = a0) G1 H1 G3 H3 := g2.trans g3.any
    have D3 : G3 Dl = none ∧ H3 Dl = some (.lst acc) := ⟨g3.fr Dl d2 (by rw [a2]; exact fun z => by cases z), g3.ex _ _ a2⟩
    intro s' H' C cl fp
    refine t1 k2 s' H' C cl fp H1 G3 H3 _ x ok3 r3 _ fun σ4 k4 l4 f4 => ⟨wipe_same l4 f4 t2, ?_⟩
    intro s'' H'' C' cl' fp'
    refine ptl_nil H1 G3 H3 σ4 k4 _ fun G5 H5 g5 => ?_
    rw [if_pos rfl]
    intro s6 H6 C6 cl6 fp6
    have g15 := g13.trans (g5.any (m := fun b => b = a0))
    refine t4 k2 (by omega) s6 H6 C6 cl6 fp6 G5 H5 G5 H5 σ4 (.refl g5.gh) ((k4.gr g5).anew fun y es z => ?_) _ fun u v t' G7 H7 g7 e7 k7 r7 ⟨pv, k3, e3, hk3⟩ => ?_
    · rcases set_at z with ⟨_, z1, _⟩ | ⟨_, z⟩
      · cases z1
      · exact n1 y es z
    have D5 : G5 Dl = none ∧ H5 Dl = some (.lst acc) := ⟨g5.fr Dl D3.1 (by rw [D3.2]; exact fun z => by cases z), g5.ex _ _ D3.2⟩
    have D7 : G7 Dl = none ∧ H7 Dl = some (.lst acc) := ⟨g7.fr Dl D5.1 (by rw [D5.2]; exact fun z => by cases z), g7.hh _ _ ha0 D5.2⟩
    have g17 := g15.trans g7
    obtain ⟨_, _, s7⟩ := k7.sr i a0 k3 e3
    have hlen : acc.length < sizeLine := by
      rw [r2.length, l2]
      exact Nat.lt_of_lt_of_le (show j < 1000 by omega) (by decide)
    refine ⟨acc, D7.2, hlen, G7, acc ++ [u], vs ++ [v], k3, ⟨g17.gg, fun z o n h => ?_, fun z o h => ?_, g17.fr, fun z h => ?_⟩, D7.1, upd_same, (r2.ex ((g3.gg.trans g5.gg).trans g7.gg)).append (.one r7), by rw [List.length_append, l2]; rfl, fun w hw => ?_, s7.ex fun o z => by rw [upd_ne (Ne.symm ha0)]; exact z, by omega⟩
    · rw [upd_ne (fun w => by rw [w, hD] at h; cases h)]; exact g17.hh z o n h
    · rw [upd_ne (fun w => by rw [w, D7.1] at h; cases h)]; exact g17.gh z o h
    · rw [upd_ne (fun w => h (by rw [w]; exact hD))]; exact g17.th z h
    · rcases List.mem_append.mp hw with w1 | w1
      · exact p2 w w1
      · rw [List.mem_singleton.mp w1]; exact pv
  · have e : j = ds.length := by omega
    subst e
    refine .inl ⟨it.stop G2 H2 g2.gg g2.gh, ?_⟩
    have nm : H1 Dl = none := hD
    have g4 : Gr (fun b => b = a0) G1 H1 (upd G2 Dl (.lst acc)) H2 := g2.known d2 nm a2
    obtain ⟨g5, ok5⟩ := k1.draw g1 hsr (.inl hma) g4 sk2
    exact q _ _ _ _ H2 g5 (e1.trans g4.gg) ok5 (.lst upd_same (r2.ex (.new d2))) (hend vs l2 p2 k2 hk2)
end
/-- the slots at the entry -/
abbrev entZ (N : List Str) (a : Addr) (k : Nat) (ds : List D) : List Sl := .sr a k :: (ds.map Sl.sh ++ List.replicate (N.length - (ds.length + 1)) .no)
theorem ok_entZ {G H : Hp} {N : List Str} {a : Addr} {k : Nat} {vs : List V} {ds : List D} (e : Ex G H) (h1 : G a = none) (h2 : Sk a k H) (r : RpA G vs ds) : Ok H G H (entZ N a k ds) (L2.start N (.ref a :: vs)) := by
  have hl := r.length
  have st : L2.start N (.ref a :: vs) = some (V.ref a) :: (vs.map some ++ List.replicate (N.length - (vs.length + 1)) none) := rfl
  have key : ∀ (i : Nat) (x : Sl), (entZ N a k ds)[i]? = some x → (i = 0 ∧ x = .sr a k) ∨ (∃ d v, x = .sh d ∧ (L2.start N (.ref a :: vs))[i]? = some (some v) ∧ Rp G v d) ∨ x = .no := fun i x h => by
    rw [st]
    cases i with
    | zero => exact .inl ⟨rfl, (Option.some.inj h).symm⟩
    | succ i =>
      rw [List.getElem?_cons_succ] at h ⊢
      by_cases z : i < ds.length
      · rw [List.getElem?_append_left (by rw [List.length_map]; exact z), List.getElem?_map] at h
        obtain ⟨d, hd, e1⟩ := Option.map_eq_some_iff.mp h
        obtain ⟨v, hv, rv⟩ := r.get hd
        refine .inr (.inl ⟨d, v, e1.symm, ?_, rv⟩)
        rw [List.getElem?_append_left (by rw [List.length_map]; omega), List.getElem?_map, hv]; rfl
      · rw [List.getElem?_append_right (by rw [List.length_map]; omega), List.getElem?_replicate] at h
        split at h
        · exact .inr (.inr (Option.some.inj h).symm)
        · cases h
  refine ⟨e, ?_, fun i d h => ?_, fun i d h => ?_, fun i j ds' es p n h1 h2 h3 => ?_, fun i b n h => ?_, fun i j es b n h1 h2 => ?_, fun i j b c n q h1 h2 => ?_⟩
  · rw [st]
    rw [List.length_cons, List.length_cons, List.length_append, List.length_append, List.length_map, List.length_map, List.length_replicate, List.length_replicate, hl]
  · rcases key i _ h with ⟨_, z⟩ | ⟨d', v, e1, e2, e3⟩ | z
    · cases z
    · cases e1; exact ⟨v, e2, e3⟩
    · cases z
  · rcases key i _ h with ⟨_, z⟩ | ⟨d', v, e1, e2, e3⟩ | z <;> first | cases z | cases e1
  · rcases key i _ h1 with ⟨_, z⟩ | ⟨d', v, e1, e2, e3⟩ | z <;> first | cases z | cases e1
  · rcases key i _ h with ⟨y, z⟩ | ⟨d', v, e1, e2, e3⟩ | z
    · cases z; subst y; exact ⟨rfl, h1, h2⟩
    · cases e1
    · cases z
  · rcases key i _ h1 with ⟨_, z⟩ | ⟨d', v, e1, e2, e3⟩ | z <;> first | cases z | cases e1
  · rcases key i _ h1 with ⟨y, z⟩ | ⟨d', v, e1, e2, e3⟩ | z
    · rcases key j _ h2 with ⟨y2, z2⟩ | ⟨d', v, e1, e2, e3⟩ | z2
      · rw [y, y2]
      · cases e1
      · cases z2
    · cases e1
    · cases z
section
variable {P : Program} {w : World} {K : PySem.W.Frag} {mg : Str → Option Value} {base : Heap}
theorem fun_draw {x qual : Str} {st : Stmt} {f : Addr} {fd : FuncData} {N ps : List Str} {k c : Nat} {pre : List D → Prop} {R : List D → D → Prop} (F : Fun K x qual st f fd) (S : FnScope N ps (defScope st)) (len : ∀ ds, pre ds → ds.length + 1 = ps.length)
    (hbody : ∀ (cdv : Value) (A : Around) (outer : List Env) (s : Shared) (H : Hp) (E : XK) (a : Addr) (k0 : Nat) (ds : List D), Room k (A.deeper (envOfC qual (defScope st) s.heap.objs.size f cdv)) → pre ds → k0 + c ≤ lineB →
      AB (cxOf CX0 P w K mg base N qual (defScope st) f cdv A outer s H E).nox (fun b => b = a) (defBody st) (entZ N a k0 ds) { nx := fun _ => False, rt := fun e t => R ds e ∧ ∃ k', t[0]? = some (Sl.sr a k') ∧ k' ≤ k0 + c }) : FnOk P w K mg base CX0 (k + 1) f fd ps (spZ c pre R) := by
  refine F.ok S (fun vs H Q E h => ?_) (fun cdv A outer s H vs Q E hr h => ?_)
  · obtain ⟨a, us, k0, G, ds, rfl, _, _, _, _, r, hp, _⟩ := h
    rw [List.length_cons, r.length]; exact len ds hp
  · obtain ⟨a, us, k0, G, ds, rfl, e, h1, h2, hl, r, hp, fin⟩ := h
    refine ⟨_, pss_wb, ?_⟩
    refine ⟨fun pins s1 I => ?_⟩
    refine thn (hbody cdv A outer s H E a k0 ds hr hp hl G H G H _ (.refl e) (ok_entZ e h1 h2 r) pins s1 I) fun f s2 q => sp_mono q (fun σ' H' ⟨t, G', a, b, z⟩ => z.elim) (fun v H' ⟨d', t, G', σ', g', o, b, hz, k', z2, z3⟩ => ?_) (fun σ' H' ⟨t, G', a, b, z⟩ => z.elim) (fun σ' H' ⟨t, G', a, b, z⟩ => z.elim)
    obtain ⟨_, _, x, y, z, q1, q2, q3, q4, q5, q6⟩ := o.sr 0 a k' z2
    exact fin v d' G' H' g' ⟨x, y, z, q1, q2, q3, q4, q5, by omega⟩ b hz
end
end R87
namespace R87
open PySem PySem.Spec PyProof.Rows L2
/-- the built-in names stand free -/
structure Bf (mg : Str → Option Value) : Prop where
  len : mg "len" = none
  set : mg "set" = none
  sorted : mg "sorted" = none
  dict : mg "dict" = none
  list : mg "list" = none
  tuple : mg "tuple" = none
  range : mg "range" = none
  min : mg "min" = none
  max : mg "max" = none
  all : mg "all" = none
  int : mg "int" = none
  isinstance : mg "isinstance" = none
  enumerate : mg "enumerate" = none
  zip : mg "zip" = none
  bool : mg "bool" = none
  str : mg "str" = none
  letters : ∃ t, mg "LETTERS" = some (.str "abcdefghijklmnopqrstuvwxyz" t)
  most : ∃ t, mg "MOST" = some (.int 6 t)
section
variable {X : Cx} {m : Addr → Prop} {τ : List Sl} {N : AE} {rest body : List Stmt} {a b c e tg : Expr} {es : List Expr} {pos p p2 p3 q2 tpos : Pos} {ds fs : List D} {d x y : D} {n : Str}
theorem boot_nm_int : bootBuiltins "int" = some (.type "int") := by decide +kernel
theorem boot_nm_bool : bootBuiltins "bool" = some (.type "bool") := by decide +kernel
theorem boot_nm_str : bootBuiltins "str" = some (.type "str") := by decide +kernel
theorem boot_nm_tuple : bootBuiltins "tuple" = some (.type "tuple") := by decide +kernel
theorem boot_nm_list : bootBuiltins "list" = some (.type "list") := by decide +kernel
theorem pu_isInt {i : Int} (B : Bf X.mg) (ha : Pu X a τ (.int i)) (hg : Gl X "isinstance" := by rfl) (hg2 : Gl X "int" := by rfl) (hs : noStar a = true := by rfl) : Pu X (.Call (.Name "isinstance" p) [a, .Name "int" p2] [] pos) τ (.bl true) :=
  pu_isT (N := "int") B.isinstance B.int ha rfl (by decide +kernel) boot_nm_int hg hg2 (by decide) (by decide) hs
theorem pu_isIntB {i : Int} (B : Bf X.mg) (ha : Pu X a τ (.int i)) (hg : Gl X "isinstance" := by rfl) (hg2 : Gl X "bool" := by rfl) (hs : noStar a = true := by rfl) : Pu X (.Call (.Name "isinstance" p) [a, .Name "bool" p2] [] pos) τ (.bl false) :=
  pu_isT (N := "bool") B.isinstance B.bool ha rfl (by decide +kernel) boot_nm_bool hg hg2 (by decide) (by decide) hs
theorem pu_isStr {i : Str} (B : Bf X.mg) (ha : Pu X a τ (.str i)) (hg : Gl X "isinstance" := by rfl) (hg2 : Gl X "str" := by rfl) (hs : noStar a = true := by rfl) : Pu X (.Call (.Name "isinstance" p) [a, .Name "str" p2] [] pos) τ (.bl true) :=
  pu_isT (N := "str") B.isinstance B.str ha rfl (by decide +kernel) boot_nm_str hg hg2 (by decide) (by decide) hs
theorem pu_isTup (B : Bf X.mg) (ha : Pu X a τ (.tup ds)) (hg : Gl X "isinstance" := by rfl) (hg2 : Gl X "tuple" := by rfl) (hs : noStar a = true := by rfl) : Pu X (.Call (.Name "isinstance" p) [a, .Name "tuple" p2] [] pos) τ (.bl true) :=
  pu_isT (N := "tuple") B.isinstance B.tuple ha rfl (by decide +kernel) boot_nm_tuple hg hg2 (by decide) (by decide) hs
theorem pu_isLst (B : Bf X.mg) (ha : Pu X a τ (.lst ds)) (hg : Gl X "isinstance" := by rfl) (hg2 : Gl X "list" := by rfl) (hs : noStar a = true := by rfl) : Pu X (.Call (.Name "isinstance" p) [a, .Name "list" p2] [] pos) τ (.bl true) :=
  pu_isT (N := "list") B.isinstance B.list ha rfl (by decide +kernel) boot_nm_list hg hg2 (by decide) (by decide) hs
section
variable {k : Nat} {i j : Int} {z u : Str}
theorem pu_eqI (hr : Room k X.A) (ha : Pu X a τ (.int i)) (hb : Pu X b τ (.int j)) (hm : behindInMarks .Eq b = false := by first | exact nomark _ | rfl) : Pu X (.Compare a [.Eq] [b] pos) τ (.bl (decide (i = j))) := pu_cmp (op_eqT (α := Int) hr) (d_eq (α := Int) (x := i) (y := j)) ha hb hm
theorem pt_eqI (hr : Room k X.A) (ha : Pu X a τ (.int i)) (hb : Pu X b τ (.int j)) (hm : behindInMarks .Eq b = false := by first | exact nomark _ | rfl) : Pt X (.Compare a [.Eq] [b] pos) τ (decide (i = j)) := pt_cmp' (op_eqT (α := Int) hr) (d_eq (α := Int) (x := i) (y := j)) ha hb hm
theorem pt_neI (hr : Room k X.A) (ha : Pu X a τ (.int i)) (hb : Pu X b τ (.int j)) (hm : behindInMarks .NotEq b = false := by first | exact nomark _ | rfl) : Pt X (.Compare a [.NotEq] [b] pos) τ (decide (i ≠ j)) := pt_cmp' (op_neT (α := Int) hr) (d_ne (α := Int) (x := i) (y := j)) ha hb hm
theorem pu_eqS (hr : Room k X.A) (ha : Pu X a τ (.str z)) (hb : Pu X b τ (.str u)) (hm : behindInMarks .Eq b = false := by first | exact nomark _ | rfl) : Pu X (.Compare a [.Eq] [b] pos) τ (.bl (decide (z = u))) := pu_cmp (op_eqT (α := Str) hr) (d_eq (α := Str) (x := z) (y := u)) ha hb hm
theorem pt_eqS (hr : Room k X.A) (ha : Pu X a τ (.str z)) (hb : Pu X b τ (.str u)) (hm : behindInMarks .Eq b = false := by first | exact nomark _ | rfl) : Pt X (.Compare a [.Eq] [b] pos) τ (decide (z = u)) := pt_cmp' (op_eqT (α := Str) hr) (d_eq (α := Str) (x := z) (y := u)) ha hb hm
theorem pt_neS (hr : Room k X.A) (ha : Pu X a τ (.str z)) (hb : Pu X b τ (.str u)) (hm : behindInMarks .NotEq b = false := by first | exact nomark _ | rfl) : Pt X (.Compare a [.NotEq] [b] pos) τ (decide (z ≠ u)) := pt_cmp' (op_neT (α := Str) hr) (d_ne (α := Str) (x := z) (y := u)) ha hb hm
theorem pu_neS (hr : Room k X.A) (ha : Pu X a τ (.str z)) (hb : Pu X b τ (.str u)) (hm : behindInMarks .NotEq b = false := by first | exact nomark _ | rfl) : Pu X (.Compare a [.NotEq] [b] pos) τ (.bl (decide (z ≠ u))) := pu_cmp (op_neT (α := Str) hr) (d_ne (α := Str) (x := z) (y := u)) ha hb hm
section
open PySem.W (Datum DatumOrd)
variable {β : Type} [DecidableEq β] [Datum β] [En β] {s t : β} {ts : List β}
theorem pu_eqT (s t : β) (hr : Room k X.A) (ha : Pu X a τ (En.e s)) (hb : Pu X b τ (En.e t)) (hd : Datum.depth β ≤ 60 := by decide) (hm : behindInMarks .Eq b = false := by first | exact nomark _ | rfl) : Pu X (.Compare a [.Eq] [b] pos) τ (.bl (decide (s = t))) := pu_cmp (op_eqT (α := β) hr hd) d_eq ha hb hm
theorem pt_eqT (s t : β) (hr : Room k X.A) (ha : Pu X a τ (En.e s)) (hb : Pu X b τ (En.e t)) (hd : Datum.depth β ≤ 60 := by decide) (hm : behindInMarks .Eq b = false := by first | exact nomark _ | rfl) : Pt X (.Compare a [.Eq] [b] pos) τ (decide (s = t)) := pt_cmp' (op_eqT (α := β) hr hd) d_eq ha hb hm
theorem pu_neT (s t : β) (hr : Room k X.A) (ha : Pu X a τ (En.e s)) (hb : Pu X b τ (En.e t)) (hd : Datum.depth β ≤ 60 := by decide) (hm : behindInMarks .NotEq b = false := by first | exact nomark _ | rfl) : Pu X (.Compare a [.NotEq] [b] pos) τ (.bl (decide (s ≠ t))) := pu_cmp (op_neT (α := β) hr hd) d_ne ha hb hm
theorem pt_neT (s t : β) (hr : Room k X.A) (ha : Pu X a τ (En.e s)) (hb : Pu X b τ (En.e t)) (hd : Datum.depth β ≤ 60 := by decide) (hm : behindInMarks .NotEq b = false := by first | exact nomark _ | rfl) : Pt X (.Compare a [.NotEq] [b] pos) τ (decide (s ≠ t)) := pt_cmp' (op_neT (α := β) hr hd) d_ne ha hb hm
theorem pu_inT (s : β) (ts : List β) (hr : Room k X.A) (ha : Pu X a τ (En.e s)) (hb : Pu X b τ (.lst (ts.map En.e))) (hd : Datum.depth β ≤ 60 := by decide) (hm : behindInMarks .In b = false := by first | exact nomark _ | rfl) : Pu X (.Compare a [.In] [b] pos) τ (.bl (decide (s ∈ ts))) := pu_cmp (op_inT (α := β) hr hd) d_in ha hb hm
theorem pt_inT (s : β) (ts : List β) (hr : Room k X.A) (ha : Pu X a τ (En.e s)) (hb : Pu X b τ (.lst (ts.map En.e))) (hd : Datum.depth β ≤ 60 := by decide) (hm : behindInMarks .In b = false := by first | exact nomark _ | rfl) : Pt X (.Compare a [.In] [b] pos) τ (decide (s ∈ ts)) := pt_cmp' (op_inT (α := β) hr hd) d_in ha hb hm
theorem pu_niT (s : β) (ts : List β) (hr : Room k X.A) (ha : Pu X a τ (En.e s)) (hb : Pu X b τ (.lst (ts.map En.e))) (hd : Datum.depth β ≤ 60 := by decide) (hm : behindInMarks .NotIn b = false := by first | exact nomark _ | rfl) : Pu X (.Compare a [.NotIn] [b] pos) τ (.bl (decide (s ∉ ts))) := pu_cmp (op_niT (α := β) hr hd) d_ni ha hb hm
theorem pt_niT (s : β) (ts : List β) (hr : Room k X.A) (ha : Pu X a τ (En.e s)) (hb : Pu X b τ (.lst (ts.map En.e))) (hd : Datum.depth β ≤ 60 := by decide) (hm : behindInMarks .NotIn b = false := by first | exact nomark _ | rfl) : Pt X (.Compare a [.NotIn] [b] pos) τ (decide (s ∉ ts)) := pt_cmp' (op_niT (α := β) hr hd) d_ni ha hb hm
theorem pt_niU (s : β) (ts : List β) (hr : Room k X.A) (ha : Pu X a τ (En.e s)) (hb : Pu X b τ (.tup (ts.map En.e))) (hd : Datum.depth β ≤ 60 := by decide) (hm : behindInMarks .NotIn b = false := by first | exact nomark _ | rfl) : Pt X (.Compare a [.NotIn] [b] pos) τ (decide (s ∉ ts)) := pt_cmp' (op_niU (α := β) hr hd) d_niU ha hb hm
end
section
open PySem.W (Datum DatumOrd)
variable {β : Type} [DecidableEq β] [DatumOrd β] [En β]
theorem pu_leT (s t : β) (hr : Room k X.A) (ha : Pu X a τ (En.e s)) (hb : Pu X b τ (En.e t)) (hd : Datum.depth β ≤ 60 := by decide) (hm : behindInMarks .LtE b = false := by first | exact nomark _ | rfl) : Pu X (.Compare a [.LtE] [b] pos) τ (.bl (!DatumOrd.lt t s)) := pu_cmp (op_leT (α := β) hr hd) d_le ha hb hm
theorem pt_ltT (s t : β) (hr : Room k X.A) (ha : Pu X a τ (En.e s)) (hb : Pu X b τ (En.e t)) (hd : Datum.depth β ≤ 60 := by decide) (hm : behindInMarks .Lt b = false := by first | exact nomark _ | rfl) : Pt X (.Compare a [.Lt] [b] pos) τ (DatumOrd.lt s t) := pt_cmp' (op_ltT' (α := β) hr hd) d_lt ha hb hm
end
end
/-- a value that is a truth, by its test -/
theorem ab_retB {b : Bool} (h : Pu X e τ (.bl b)) (q : N.rt (.bl b) τ) : AB X m (.Return (some e) pos :: rest) τ N := ab_ret h q
/-- a test with `not` told by its part -/
theorem pt_nt {t : Bool} (h : Pu X a τ (.bl t)) (he : ∀ whole, isTrue a X.env whole = (do let v ← whole; standAt a.pos; holding [v] (truthy v)) := by intro _; rfl) : Pt X (.UnaryOp .Not a pos) τ (!t) := pt_not' (pt_pu h he)
/-- what a comprehension's block asks of its names -/
def blkC (N : List Str) (sc scope : Scope) (own : List (Str × Nat)) : Bool :=
  decide (scope.kind = .function) && scope.names.all (fun y => decide (scope.names.lookup y.1 = some y.2)) && own.all (fun p => decide (N[p.2]? = some p.1)) &&
  scope.names.all (fun y => !decide (y.2 = .free) || decide (sc.names.lookup y.1 = some .cell) || decide (sc.names.lookup y.1 = some .free)) &&
  scope.names.all (fun y => (!decide (y.2 = .local) && !decide (y.2 = .cell)) || decide (y.1 ∈ own.map (·.1)) || decide (y.1 ∉ N))
theorem blk_by {N : List Str} {sc scope : Scope} {own : List (Str × Nat)} (h : blkC N sc scope own = true) : BlkOk N sc scope own := by
  unfold blkC at h
  rw [Bool.and_eq_true, Bool.and_eq_true, Bool.and_eq_true, Bool.and_eq_true] at h
  obtain ⟨⟨⟨⟨h1, h2⟩, h3⟩, h4⟩, h5⟩ := h
  rw [List.all_eq_true] at h2 h3 h4 h5
  refine ⟨of_decide_eq_true h1, fun y hy => of_decide_eq_true (h2 y hy), fun p hp => of_decide_eq_true (h3 p hp), fun y hy e => ?_, fun y hy e => ?_⟩
  · have := h4 y hy
    rw [Bool.or_eq_true, Bool.or_eq_true] at this
    rcases this with (z | z) | z
    · rw [decide_eq_true e] at z; cases z
    · exact .inl (of_decide_eq_true z)
    · exact .inr (of_decide_eq_true z)
  · have := h5 y hy
    rw [Bool.or_eq_true, Bool.or_eq_true] at this
    rcases this with (z | z) | z
    · rw [Bool.and_eq_true] at z
      rcases e with e | e
      · rw [decide_eq_true e] at z; cases z.1
      · rw [decide_eq_true e] at z; cases z.2
    · exact .inl (of_decide_eq_true z)
    · exact .inr (of_decide_eq_true z)
variable {α : Type} {elt iter test : Expr} {scope : Scope} {tp pa pb pc pd : Pos} {na nb nc nd : Str} {kk : Nat} {enc v : α → D} {e1 e2 e3 e4 : α → D} {f : α → Bool}
theorem tgs1 {i : Nat} {x : Str} {q : Pos} {d : D} {t : List Sl} {X : Cx} (hN : X.N.Nodup) (hi : X.N[i]? = some x) (hx : Loc X.env.scope x) (hf : X.fn x = true ∨ X.env.scope.names.lookup x = some .local) : Tg X (.Name x q) d t (t.set i (.sh d)) [i] := tg_name i hN hi hx hf
/-- a comprehension, turn by turn -/
structure Lc (X : Cx) (tg iter elt : Expr) (ifs : List Expr) (scope : Scope) (τ : List Sl) (ds : List D) : Prop where
  ex : ∃ (α : Type) (own : List (Str × Nat)) (xs : List α) (enc : α → D) (f : α → Bool) (v : α → D), Pi X tg iter τ (xs.map enc) ∧ (∀ x ∈ xs, Turn1 X scope (own.map (·.2)) tg elt ifs τ (enc x) (f x) (v x)) ∧ BlkOk X.N X.env.scope scope own ∧ xs.length ≤ 1000 ∧ ds = (xs.filter f).map v
theorem Lc.nu {tg iter elt : Expr} {ifs : List Expr} {scope : Scope} (h : Lc X tg iter elt ifs scope τ ds) (hN : X.N.Nodup) (hc : X.calm = true) (hs : ∀ x, foldedSetIterable iter X.env x = pure x) : Nu X (.ListComp elt [⟨tg, iter, ifs, 0⟩] scope pos) τ ds := by
  obtain ⟨α, own, xs, enc, f, v, hi, ht, ok, hl, rfl⟩ := h.ex
  exact nu_lc own xs enc f v hi ht ok hl hN hc hs
/-- y = [elt for ..] -/
theorem ab_setC {tg iter elt : Expr} {ifs : List Expr} {scope : Scope} {y : Str} {py spos : Pos} (i : Nat) (h : Lc X tg iter elt ifs scope τ ds) (h2 : AB X m rest (τ.set i (.ow ds)) N) (hsw : swapsWith (.ListComp elt [⟨tg, iter, ifs, 0⟩] scope pos) (some (.Name y py)) spos.line X.env = pure true := by exact sw_true rfl rfl rfl rfl)
    (hN : X.N.Nodup := by assumption) (hc : X.calm = true := by rfl) (hs : ∀ x, foldedSetIterable iter X.env x = pure x := by intro _; rfl) (hy : X.N[i]? = some y := by rfl) (hyl : X.env.scope.names.lookup y = some .local := by rfl) :
    AB X m (.Assign [.Name y py] (.ListComp elt [⟨tg, iter, ifs, 0⟩] scope pos) spos :: rest) τ N := by
  obtain ⟨α, own, xs, enc, f, v, hi, ht, ok, hl, rfl⟩ := h.ex
  exact ab_setLc i own xs enc f v hi ht ok h2 hsw hl hN hc hs hy hyl
/-- [elt for x in iter] -/
theorem lc_mapN (own : List (Str × Nat)) (j : Nat) (xs : List α) (enc v : α → D) (hi : Pi X (.Name na tp) iter τ (xs.map enc)) (he : ∀ x ∈ xs, Bk X scope fun Y => Pu Y elt ((wipeS τ (own.map (·.2))).set j (.sh (enc x))) (v x))
    (ok : blkC X.N X.env.scope scope own = true := by kernel_rfl) (hj : j ∈ own.map (·.2) := by simp) (ht : Bk X scope fun Y => ∀ d t, Tg Y (.Name na tp) d t (t.set j (.sh d)) [j] := by exact fun _ _ _ _ _ d t => tg_name _ (by assumption))
    (hl : xs.length ≤ 1000 := by first | assumption | omega) (hc : X.calm = true := by rfl) : Lc X (.Name na tp) iter elt [] scope τ (xs.map v) :=
  ⟨α, own, xs, enc, (fun _ => true), v, hi, (fun x hx => ⟨_, [j], fun s H C cl fp => ht s H C cl fp _ _, fun i hi => by rw [List.mem_singleton.mp hi]; exact hj, fun _ _ _ _ _ => ptl_nil, fun _ => he x hx⟩), blk_by ok, hl, (congrArg (List.map v) (List.filter_eq_self.2 fun _ _ => rfl)).symm⟩
theorem nu_mapN (own : List (Str × Nat)) (j : Nat) (xs : List α) (enc v : α → D) (hi : Pi X (.Name na tp) iter τ (xs.map enc)) (he : ∀ x ∈ xs, Bk X scope fun Y => Pu Y elt ((wipeS τ (own.map (·.2))).set j (.sh (enc x))) (v x))
    (ok : blkC X.N X.env.scope scope own = true := by kernel_rfl) (hj : j ∈ own.map (·.2) := by simp) (ht : Bk X scope fun Y => ∀ d t, Tg Y (.Name na tp) d t (t.set j (.sh d)) [j] := by exact fun _ _ _ _ _ d t => tg_name _ (by assumption))
    (hl : xs.length ≤ 1000 := by first | assumption | omega) (hN : X.N.Nodup := by assumption) (hc : X.calm = true := by rfl) (hs : ∀ x, foldedSetIterable iter X.env x = pure x := by intro _; rfl) : Nu X (.ListComp elt [⟨.Name na tp, iter, [], 0⟩] scope pos) τ (xs.map v) :=
  (lc_mapN own j xs enc v hi he ok hj ht hl hc).nu hN hc hs
/-- [elt for x in iter if test] -/
theorem lc_filN (own : List (Str × Nat)) (j : Nat) (xs : List α) (enc : α → D) (f : α → Bool) (v : α → D) (hi : Pi X (.Name na tp) iter τ (xs.map enc)) (hf : ∀ x ∈ xs, Bk X scope fun Y => Pt Y test ((wipeS τ (own.map (·.2))).set j (.sh (enc x))) (f x)) (he : ∀ x ∈ xs, f x = true → Bk X scope fun Y => Pu Y elt ((wipeS τ (own.map (·.2))).set j (.sh (enc x))) (v x))
    (ok : blkC X.N X.env.scope scope own = true := by kernel_rfl) (hj : j ∈ own.map (·.2) := by simp) (ht : Bk X scope fun Y => ∀ d t, Tg Y (.Name na tp) d t (t.set j (.sh d)) [j] := by exact fun _ _ _ _ _ d t => tg_name _ (by assumption))
    (hl : xs.length ≤ 1000 := by first | assumption | omega) (hc : X.calm = true := by rfl) : Lc X (.Name na tp) iter elt [test] scope τ ((xs.filter f).map v) :=
  ⟨α, own, xs, enc, f, v, hi, (fun x hx => ⟨_, [j], fun s H C cl fp => ht s H C cl fp _ _, fun i hi => by rw [List.mem_singleton.mp hi]; exact hj, fun s H C cl fp => ptl_one (hf x hx s H C cl fp), he x hx⟩), blk_by ok, hl, rfl⟩
theorem nu_filN (own : List (Str × Nat)) (j : Nat) (xs : List α) (enc : α → D) (f : α → Bool) (v : α → D) (hi : Pi X (.Name na tp) iter τ (xs.map enc)) (hf : ∀ x ∈ xs, Bk X scope fun Y => Pt Y test ((wipeS τ (own.map (·.2))).set j (.sh (enc x))) (f x)) (he : ∀ x ∈ xs, f x = true → Bk X scope fun Y => Pu Y elt ((wipeS τ (own.map (·.2))).set j (.sh (enc x))) (v x))
    (ok : blkC X.N X.env.scope scope own = true := by kernel_rfl) (hj : j ∈ own.map (·.2) := by simp) (ht : Bk X scope fun Y => ∀ d t, Tg Y (.Name na tp) d t (t.set j (.sh d)) [j] := by exact fun _ _ _ _ _ d t => tg_name _ (by assumption))
    (hl : xs.length ≤ 1000 := by first | assumption | omega) (hN : X.N.Nodup := by assumption) (hc : X.calm = true := by rfl) (hs : ∀ x, foldedSetIterable iter X.env x = pure x := by intro _; rfl) : Nu X (.ListComp elt [⟨.Name na tp, iter, [test], 0⟩] scope pos) τ ((xs.filter f).map v) :=
  (lc_filN own j xs enc f v hi hf he ok hj ht hl hc).nu hN hc hs
/-- the same with two names -/
theorem lc_map2 (own : List (Str × Nat)) (j l : Nat) (xs : List α) (e1 e2 v : α → D) (hi : Pi X (.Tuple [.Name na pa, .Name nb pb] kk tp) iter τ (xs.map fun x => .tup [e1 x, e2 x])) (he : ∀ x ∈ xs, Bk X scope fun Y => Pu Y elt (((wipeS τ (own.map (·.2))).set j (.sh (e1 x))).set l (.sh (e2 x))) (v x))
    (ok : blkC X.N X.env.scope scope own = true := by kernel_rfl) (hj : j ∈ own.map (·.2) := by simp) (hl2 : l ∈ own.map (·.2) := by simp) (hta : Bk X scope fun Y => ∀ d t, Tg Y (.Name na pa) d t (t.set j (.sh d)) [j] := by exact fun _ _ _ _ _ d t => tg_name _ (by assumption)) (htb : Bk X scope fun Y => ∀ d t, Tg Y (.Name nb pb) d t (t.set l (.sh d)) [l] := by exact fun _ _ _ _ _ d t => tg_name _ (by assumption))
    (hl : xs.length ≤ 1000 := by first | assumption | omega) (hc : X.calm = true := by rfl) : Lc X (.Tuple [.Name na pa, .Name nb pb] kk tp) iter elt [] scope τ (xs.map v) :=
  ⟨α, own, xs, _, (fun _ => true), v, hi, (fun x hx => ⟨_, [j, l], fun s H C cl fp => tg_tup (tgs_cons (hta s H C cl fp _ _) (tgs_cons (htb s H C cl fp _ _) tgs_nil)) hc, fun i hi => by
    rcases List.mem_cons.mp hi with h | h
    · rw [h]; exact hj
    · rw [List.mem_singleton.mp h]; exact hl2, fun _ _ _ _ _ => ptl_nil, fun _ => he x hx⟩), blk_by ok, hl, (congrArg (List.map v) (List.filter_eq_self.2 fun _ _ => rfl)).symm⟩
theorem nu_map2 (own : List (Str × Nat)) (j l : Nat) (xs : List α) (e1 e2 v : α → D) (hi : Pi X (.Tuple [.Name na pa, .Name nb pb] kk tp) iter τ (xs.map fun x => .tup [e1 x, e2 x])) (he : ∀ x ∈ xs, Bk X scope fun Y => Pu Y elt (((wipeS τ (own.map (·.2))).set j (.sh (e1 x))).set l (.sh (e2 x))) (v x))
    (ok : blkC X.N X.env.scope scope own = true := by kernel_rfl) (hj : j ∈ own.map (·.2) := by simp) (hl2 : l ∈ own.map (·.2) := by simp) (hta : Bk X scope fun Y => ∀ d t, Tg Y (.Name na pa) d t (t.set j (.sh d)) [j] := by exact fun _ _ _ _ _ d t => tg_name _ (by assumption)) (htb : Bk X scope fun Y => ∀ d t, Tg Y (.Name nb pb) d t (t.set l (.sh d)) [l] := by exact fun _ _ _ _ _ d t => tg_name _ (by assumption))
    (hl : xs.length ≤ 1000 := by first | assumption | omega) (hN : X.N.Nodup := by assumption) (hc : X.calm = true := by rfl) (hs : ∀ x, foldedSetIterable iter X.env x = pure x := by intro _; rfl) : Nu X (.ListComp elt [⟨.Tuple [.Name na pa, .Name nb pb] kk tp, iter, [], 0⟩] scope pos) τ (xs.map v) :=
  (lc_map2 own j l xs e1 e2 v hi he ok hj hl2 hta htb hl hc).nu hN hc hs
theorem lc_fil2 (own : List (Str × Nat)) (j l : Nat) (xs : List α) (e1 e2 : α → D) (f : α → Bool) (v : α → D) (hi : Pi X (.Tuple [.Name na pa, .Name nb pb] kk tp) iter τ (xs.map fun x => .tup [e1 x, e2 x])) (hf : ∀ x ∈ xs, Bk X scope fun Y => Pt Y test (((wipeS τ (own.map (·.2))).set j (.sh (e1 x))).set l (.sh (e2 x))) (f x)) (he : ∀ x ∈ xs, f x = true → Bk X scope fun Y => Pu Y elt (((wipeS τ (own.map (·.2))).set j (.sh (e1 x))).set l (.sh (e2 x))) (v x))
    (ok : blkC X.N X.env.scope scope own = true := by kernel_rfl) (hj : j ∈ own.map (·.2) := by simp) (hl2 : l ∈ own.map (·.2) := by simp) (hta : Bk X scope fun Y => ∀ d t, Tg Y (.Name na pa) d t (t.set j (.sh d)) [j] := by exact fun _ _ _ _ _ d t => tg_name _ (by assumption)) (htb : Bk X scope fun Y => ∀ d t, Tg Y (.Name nb pb) d t (t.set l (.sh d)) [l] := by exact fun _ _ _ _ _ d t => tg_name _ (by assumption))
    (hl : xs.length ≤ 1000 := by first | assumption | omega) (hc : X.calm = true := by rfl) : Lc X (.Tuple [.Name na pa, .Name nb pb] kk tp) iter elt [test] scope τ ((xs.filter f).map v) :=
  ⟨α, own, xs, _, f, v, hi, (fun x hx => ⟨_, [j, l], fun s H C cl fp => tg_tup (tgs_cons (hta s H C cl fp _ _) (tgs_cons (htb s H C cl fp _ _) tgs_nil)) hc, fun i hi => by
    rcases List.mem_cons.mp hi with h | h
    · rw [h]; exact hj
    · rw [List.mem_singleton.mp h]; exact hl2, fun s H C cl fp => ptl_one (hf x hx s H C cl fp), he x hx⟩), blk_by ok, hl, rfl⟩
theorem nu_fil2 (own : List (Str × Nat)) (j l : Nat) (xs : List α) (e1 e2 : α → D) (f : α → Bool) (v : α → D) (hi : Pi X (.Tuple [.Name na pa, .Name nb pb] kk tp) iter τ (xs.map fun x => .tup [e1 x, e2 x])) (hf : ∀ x ∈ xs, Bk X scope fun Y => Pt Y test (((wipeS τ (own.map (·.2))).set j (.sh (e1 x))).set l (.sh (e2 x))) (f x)) (he : ∀ x ∈ xs, f x = true → Bk X scope fun Y => Pu Y elt (((wipeS τ (own.map (·.2))).set j (.sh (e1 x))).set l (.sh (e2 x))) (v x))
    (ok : blkC X.N X.env.scope scope own = true := by kernel_rfl) (hj : j ∈ own.map (·.2) := by simp) (hl2 : l ∈ own.map (·.2) := by simp) (hta : Bk X scope fun Y => ∀ d t, Tg Y (.Name na pa) d t (t.set j (.sh d)) [j] := by exact fun _ _ _ _ _ d t => tg_name _ (by assumption)) (htb : Bk X scope fun Y => ∀ d t, Tg Y (.Name nb pb) d t (t.set l (.sh d)) [l] := by exact fun _ _ _ _ _ d t => tg_name _ (by assumption))
    (hl : xs.length ≤ 1000 := by first | assumption | omega) (hN : X.N.Nodup := by assumption) (hc : X.calm = true := by rfl) (hs : ∀ x, foldedSetIterable iter X.env x = pure x := by intro _; rfl) : Nu X (.ListComp elt [⟨.Tuple [.Name na pa, .Name nb pb] kk tp, iter, [test], 0⟩] scope pos) τ ((xs.filter f).map v) :=
  (lc_fil2 own j l xs e1 e2 f v hi hf he ok hj hl2 hta htb hl hc).nu hN hc hs
/-- .. with four names -/
theorem lc_map4 (own : List (Str × Nat)) (j1 j2 j3 j4 : Nat) (xs : List α) (e1 e2 e3 e4 v : α → D) (hi : Pi X (.Tuple [.Name na pa, .Name nb pb, .Name nc pc, .Name nd pd] kk tp) iter τ (xs.map fun x => .tup [e1 x, e2 x, e3 x, e4 x])) (he : ∀ x ∈ xs, Bk X scope fun Y => Pu Y elt (((((wipeS τ (own.map (·.2))).set j1 (.sh (e1 x))).set j2 (.sh (e2 x))).set j3 (.sh (e3 x))).set j4 (.sh (e4 x))) (v x))
    (ok : blkC X.N X.env.scope scope own = true := by kernel_rfl) (hj : ∀ j ∈ [j1, j2, j3, j4], j ∈ own.map (·.2) := by simp) (hta : Bk X scope fun Y => ∀ d t, Tg Y (.Name na pa) d t (t.set j1 (.sh d)) [j1] := by exact fun _ _ _ _ _ d t => tg_name _ (by assumption)) (htb : Bk X scope fun Y => ∀ d t, Tg Y (.Name nb pb) d t (t.set j2 (.sh d)) [j2] := by exact fun _ _ _ _ _ d t => tg_name _ (by assumption))
    (htc : Bk X scope fun Y => ∀ d t, Tg Y (.Name nc pc) d t (t.set j3 (.sh d)) [j3] := by exact fun _ _ _ _ _ d t => tg_name _ (by assumption)) (htd : Bk X scope fun Y => ∀ d t, Tg Y (.Name nd pd) d t (t.set j4 (.sh d)) [j4] := by exact fun _ _ _ _ _ d t => tg_name _ (by assumption))
    (hl : xs.length ≤ 1000 := by first | assumption | omega) (hc : X.calm = true := by rfl) : Lc X (.Tuple [.Name na pa, .Name nb pb, .Name nc pc, .Name nd pd] kk tp) iter elt [] scope τ (xs.map v) :=
  ⟨α, own, xs, _, (fun _ => true), v, hi, (fun x hx => ⟨_, [j1] ++ ([j2] ++ ([j3] ++ ([j4] ++ []))), fun s H C cl fp => tg_tup (tgs_cons (hta s H C cl fp _ _) (tgs_cons (htb s H C cl fp _ _) (tgs_cons (htc s H C cl fp _ _) (tgs_cons (htd s H C cl fp _ _) tgs_nil)))) hc, fun i hi => hj i hi, fun _ _ _ _ _ => ptl_nil, fun _ => he x hx⟩), blk_by ok, hl, (congrArg (List.map v) (List.filter_eq_self.2 fun _ _ => rfl)).symm⟩
theorem nu_map4 (own : List (Str × Nat)) (j1 j2 j3 j4 : Nat) (xs : List α) (e1 e2 e3 e4 v : α → D) (hi : Pi X (.Tuple [.Name na pa, .Name nb pb, .Name nc pc, .Name nd pd] kk tp) iter τ (xs.map fun x => .tup [e1 x, e2 x, e3 x, e4 x])) (he : ∀ x ∈ xs, Bk X scope fun Y => Pu Y elt (((((wipeS τ (own.map (·.2))).set j1 (.sh (e1 x))).set j2 (.sh (e2 x))).set j3 (.sh (e3 x))).set j4 (.sh (e4 x))) (v x))
    (ok : blkC X.N X.env.scope scope own = true := by kernel_rfl) (hj : ∀ j ∈ [j1, j2, j3, j4], j ∈ own.map (·.2) := by simp) (hta : Bk X scope fun Y => ∀ d t, Tg Y (.Name na pa) d t (t.set j1 (.sh d)) [j1] := by exact fun _ _ _ _ _ d t => tg_name _ (by assumption)) (htb : Bk X scope fun Y => ∀ d t, Tg Y (.Name nb pb) d t (t.set j2 (.sh d)) [j2] := by exact fun _ _ _ _ _ d t => tg_name _ (by assumption))
    (htc : Bk X scope fun Y => ∀ d t, Tg Y (.Name nc pc) d t (t.set j3 (.sh d)) [j3] := by exact fun _ _ _ _ _ d t => tg_name _ (by assumption)) (htd : Bk X scope fun Y => ∀ d t, Tg Y (.Name nd pd) d t (t.set j4 (.sh d)) [j4] := by exact fun _ _ _ _ _ d t => tg_name _ (by assumption))
    (hl : xs.length ≤ 1000 := by first | assumption | omega) (hN : X.N.Nodup := by assumption) (hc : X.calm = true := by rfl) (hs : ∀ x, foldedSetIterable iter X.env x = pure x := by intro _; rfl) : Nu X (.ListComp elt [⟨.Tuple [.Name na pa, .Name nb pb, .Name nc pc, .Name nd pd] kk tp, iter, [], 0⟩] scope pos) τ (xs.map v) :=
  (lc_map4 own j1 j2 j3 j4 xs e1 e2 e3 e4 v hi he ok hj hta htb htc htd hl hc).nu hN hc hs
theorem pu_allT {xs : List α} (hm : X.mg "all" = none) (ha : Nu X a τ (xs.map fun _ => D.bl true)) (hg : Gl X "all" := by rfl) (hs : [a].all noStar = true := by rfl) (hc : X.calm = true := by rfl) : Pu X (.Call (.Name "all" p) [a] [] pos) τ (.bl true) :=
  (pu_all hm (bs := xs.map fun _ => true) (ha.pu.is (by rw [List.map_map]; rfl)) hg hs hc).is (by simp)
end
end R87
namespace R87
open PySem PySem.Spec PyProof.Rows L2
open PySem.W (Datum DatumOrd Tup T4 Holds HoldAll)
section
variable {prog : Program} {w : World} {A : Around} {E : Value → Shared → Prop} {s : Shared} {β : Type} {enc : β → PyData} {vs : List Value} {bs : List β} {Rl : Value → β → Prop}
theorem collect_tup {l : Addr} {o : Obj} {n : Nat} {Q : List Value → Shared → Prop} (ho : s.heap.get? l = some o) (hc : o.cls = .type "tuple") (hd : o.data = .seq vs.toArray n) (hz : vs.length ≤ sizeLine)
    (h : ∀ h', (∀ b u, s.heap.get? b = some u → h'.get? b = some u) → s.heap.objs.size ≤ h'.objs.size → Q vs { s with heap := h' }) : wpAny (model prog w) A (collect (.ref l)) Q E s := by
  let e0 : Obj := { cls := .type "list", data := .seq ([] : List Value).toArray }
  let h1 : Heap := (s.heap.push e0).update s.heap.objs.size (Obj.mapSeq (· ++ vs.toArray))
  unfold collect
  refine wpAny_bind (wpAny_runValue (codeAny_builtin F.entry_proto_collect ?_))
  rw [Around.under_plainId F.plain_proto_collect ⟨[.ref l], []⟩]
  show wpAny (model prog w) A.in1 (newList [] >>= fun z => again (.builtin "list.__iadd__" ⟨[z, .ref l], []⟩)) _ _ s
  refine wpAny_bind (wpAny_newObj_type (wpAny_pure ⟨plainId_quiet F.plain_list_iadd _, codeAny_builtin F.entry_list_iadd ?_⟩))
  rw [Around.under_plainId F.plain_list_iadd ⟨[.ref s.heap.objs.size, .ref l], []⟩]
  show wpAny (model prog w) A.in1 (Builtin.List.listExtendWith (.ref s.heap.objs.size) (.ref l) (.ref s.heap.objs.size)) _ _ _
  have n1 : (s.heap.push e0).get? s.heap.objs.size = some { cls := .type "list", data := .seq #[] 0 } := Heap.get?_push_size _ rfl
  have n2 := Heap.get?_update_self (Obj.mapSeq (· ++ vs.toArray)) n1 rfl
  have last : wpAny (model prog w) A (load s.heap.objs.size >>= fun u => match u.data with | Data.seq xs _ => pure xs.toList | _ => unsupported "internal:collect") Q E { s with heap := h1 } := by
    refine wpAny_bind (wpAny_load n2 (wpAny_pure ?_))
    have e : ((#[] : Array Value) ++ vs.toArray).toList = vs := by simp
    show Q ((#[] : Array Value) ++ vs.toArray).toList _
    rw [e]
    refine h h1 (fun b u z => (Heap.get?_update_other _ _ (Nat.ne_of_gt (Heap.lt_size z))).trans (Heap.get?_push_of_some _ z)) ?_
    show s.heap.objs.size ≤ ((s.heap.push e0).update s.heap.objs.size (Obj.mapSeq (· ++ vs.toArray))).objs.size
    rw [Heap.size_update, Heap.size_push]; exact Nat.le_succ _
  refine wpAny_mono (wpAny_extend_seq (hsz := by rw [List.size_toArray]; exact hz) (A := A) (R := fun r z => r = .ok (.ret (.ref s.heap.objs.size)) ∧ z = { s with heap := h1 }) (s := { s with heap := s.heap.push e0 }) _ l _ 0 (.inr rfl) n1 (Heap.get?_push_of_some _ ho) hc hd ⟨rfl, rfl⟩) (fun f z hf => ?_) fun e z hf => absurd hf.1 (by simp)
  cases f with
  | done f => obtain ⟨e, rfl⟩ := hf; cases e; exact last
  | again c => exact ⟨hf.1, codeAny_mono hf.2 fun r z hr => by obtain ⟨rfl, rfl⟩ := hr; exact last⟩
theorem sorted_tup {l : Addr} {Q : Value → Shared → Prop} (hl : s.heap.IsTuple l vs.toArray) (e : PySem.W.EachIs Rl vs bs) (er : PySem.W.EachIs (fun v b => ∃ as, Reads s.heap v (enc b) as) vs bs) (hal : PySem.W.AllAlike (bs.map enc)) (hk : PySem.W.Sortable (bs.map enc)) (hL : bs.length ≤ sizeLine)
    (hu : ∀ b, b ∈ bs → A.units + 2 + (enc b).depth < cLine)
    (h : ∀ h' p out c, (∀ b o, s.heap.get? b = some o → h'.get? b = some o) → s.heap.objs.size ≤ p → h'.get? p = some (seqObj "list" (List.toArray out) c) → out.length = bs.length → PySem.W.EachIs Rl out (bs.mergeSort (PySem.W.dataLe false enc)) → Q (.ref p) { s with heap := h' }) :
    wpAny (model prog w) A (call (.builtin "sorted") [.ref l]) Q E s := by
  obtain ⟨o, ho, hc, n, hd⟩ := hl
  have hv : vs.length ≤ sizeLine := by rw [e.length]; exact hL
  refine PySem.Calls.call_function_entry kind_sorted plain_sorted entry_sorted (args_sorted1 (.ref l)) ?_
  unfold Builtin.«sorted»
  refine wpAny_bind (m := checkCount "sorted" 1 1 _) (wpAny_pure (wpAny_bind (collect_tup ho hc hd hv fun h1 k1 hz => ?_)))
  refine wpAny_bind (wpAny_newList ?_ hv)
  have hn : (h1.push (seqObj "list" vs.toArray 0)).get? h1.objs.size = some (seqObj "list" vs.toArray 0) := Heap.get?_push_size _ rfl
  have er2 : PySem.W.EachIs (fun v b => ∃ as, Reads (PySem.W.sortingHeap (h1.push (seqObj "list" vs.toArray 0)) h1.objs.size vs) v (enc b) as) vs bs := er.mono fun v b ⟨as, r⟩ => ⟨as, PyProof.Rows.Reads.keeps (fun b o z => PySem.W.sortingHeap_old (Nat.ne_of_lt (Heap.lt_size (k1 b o z))) (Heap.get?_push_of_some _ (k1 b o z))) r⟩
  refine wpAny_bind (wpAny_holding (wpAny_call_entry slot_list_sort ⟨_, hn, rfl⟩ entry_list_sort (PySem.W.list_sort_vals (s := { s with heap := h1.push (seqObj "list" vs.toArray 0) }) (κ := PySem.W.dataKind (PySem.W.sortingHeap (h1.push (seqObj "list" vs.toArray 0)) h1.objs.size vs) (bs.map enc)) hn
    (PySem.W.SortsAt.data (s := { s with heap := PySem.W.sortingHeap (h1.push (seqObj "list" vs.toArray 0)) h1.objs.size vs }) (PySem.W.each_map (R := fun v d => ∃ as, Reads (PySem.W.sortingHeap (h1.push (seqObj "list" vs.toArray 0)) h1.objs.size vs) v d as) enc er2) hal hk (PySem.W.bound_map hu)) hv ⟨_, rfl, ?_⟩) (args_list_sort (.ref h1.objs.size))))
  obtain ⟨c, hc'⟩ := PyProof.Rows.sortedHeap_at (vs := vs) (out := (PySem.W.sortVals (PySem.W.dataKind (PySem.W.sortingHeap (h1.push (seqObj "list" vs.toArray 0)) h1.objs.size vs) (bs.map enc)) false vs vs).toArray) hn
  refine wpAny_pure ⟨_, rfl, h _ h1.objs.size _ c (fun b u z => ?_) hz hc' (by rw [PySem.W.sortVals_length false rfl]; exact e.length) (PySem.W.sortVals_data false e er2 hal)⟩
  have q := k1 b u z
  have lt := Heap.lt_size q
  show (PyProof.Rows.sortedHeap (h1.push (seqObj "list" vs.toArray 0)) h1.objs.size vs _).get? b = some u
  rw [PyProof.Rows.sortedHeap_old (Nat.ne_of_lt lt) (by rw [size_push']; exact Nat.lt_succ_of_lt lt)]
  exact Heap.get?_push_of_some _ q
end
section
variable {α : Type} [DecidableEq α] [DatumOrd α] [En α] {X : Cx}
def rSortTu (α : Type) [DecidableEq α] [DatumOrd α] [En α] : List V → Hp → VK → Prop := fun vs H Q => ∃ (a : Addr) (xs : List α) (G : Hp), vs = [.ref a] ∧ Ex G H ∧ Rp G (.ref a) (.tup (xs.map En.e)) ∧ ∀ p us, H p = none → RpA G us ((sortT xs).map En.e) → Q (.ref p) (upd H p (.lst us))
theorem call_sortU {k : Nat} (hr : Room k X.A) (hk : (∀ a : α, ∃ x r, Datum.toD a = PyData.tuple (x :: r)) ∨ ∀ a : α, Datum.toD a ≠ PyData.none ∧ ∀ ys, Datum.toD a ≠ PyData.tuple ys) (hd : Datum.depth α ≤ 60) : CallR X (.builtin "sorted") (rSortTu α) := by
  rintro pins s σ H vs us Q I rv ⟨a, xs, G, rfl, ex, r, q⟩
  rw [Vals.ref1 rv]
  cases r with
  | @tup _ vs _ hh r1 =>
    obtain ⟨its, rv1, pl, hz⟩ := I.tuple (SqT.of (ex _ _ hh))
    have hold := RpA.holds I ex r1 rv1
    have hlen : its.length = xs.length := hold.length
    have hxl : xs.length ≤ sizeLine := by rw [← hlen, ← rv1.length]; exact hz
    refine sorted_tup (enc := Datum.toD) pl (each_of (h := s.heap) rv1 r1) (each_reads (fun i u x hu hx => ?_) hlen) (PySem.W.AllAlike.of fun a b => DatumOrd.alike a b) (sortable xs hk) hxl (fun b hb => ?_) fun h' p out c k hp he ho eo => ?_
    · obtain ⟨y, hy, hh⟩ := hold.at hu
      rw [hx] at hy; cases hy
      exact hh
    · have := Datum.depth_le b
      have := hr.units
      omega
    · obtain ⟨ws, a1, a2⟩ := of_each eo
      have hw : ws.length ≤ sizeLine := by rw [a2.length, List.length_map, List.length_mergeSort]; exact hxl
      exact ⟨.ref p, upd H p (.lst ws), I.laid (t' := s.toks) k hp ⟨hw, out, c, a1, he⟩, rfl, q p ws (I.hok.fresh hp) a2⟩
end
section
variable {X : Cx} {τ : List Sl} {a : Expr} {pos p : Pos}
theorem nu_sortedU {α : Type} [DecidableEq α] [DatumOrd α] [En α] [Sob α] {k : Nat} {xs : List α} (hr : Room k X.A) (hm : X.mg "sorted" = none) (ha : Pu X a τ (.tup (xs.map En.e))) (hd : Datum.depth α ≤ 60 := by decide) (hg : Gl X "sorted" := by rfl) (hs : [a].all noStar = true := by rfl) :
    Nu X (.Call (.Name "sorted" p) [a] [] pos) τ ((sortT xs).map En.e) :=
  nu_callB (call_sortU hr Sob.h hd) (fun vs G H ex r Q q => by
    cases r with
    | cons r r' =>
      cases r'
      cases r with
      | tup h r => exact ⟨_, xs, G, rfl, ex, .tup h r, fun p us hp ru => q p us hp ru⟩) hm (pas_cons ha pas_nil (by rw [List.all_cons, Bool.and_eq_true] at hs; exact hs.1)) (by decide +kernel) hg (by decide) (by decide) hs
end
theorem dec_true {p : Prop} {i : Decidable p} (h : p) : @decide p i = true := decide_eq_true h
theorem dec_false {p : Prop} {i : Decidable p} (h : ¬ p) : @decide p i = false := decide_eq_false h
theorem bl_true {p : Prop} {i : Decidable p} (h : p) : D.bl (@decide p i) = .bl true := congrArg D.bl (decide_eq_true h)
theorem bl_false {p : Prop} {i : Decidable p} (h : ¬ p) : D.bl (@decide p i) = .bl false := congrArg D.bl (decide_eq_false h)
theorem Pi.is {X : Cx} {tg e : Expr} {τ : List Sl} {ds es : List D} (h : Pi X tg e τ ds) (z : ds = es) : Pi X tg e τ es := by rw [← z]; exact h
end R87
namespace R87
open PySem PySem.Spec PyProof.Rows L2
/-- slots of shared data alone -/
def PlS (τ : List Sl) : Prop := ∀ (i : Nat) (x : Sl), τ[i]? = some x → (∃ d, x = .sh d) ∨ x = .no
theorem Ok.grp {m : Addr → Prop} {H0 G H G' H' : Hp} {τ : List Sl} {σ : L2.St} (k : Ok H0 G H τ σ) (p : PlS τ) (g : Gr m G H G' H') : Ok H0 G' H' τ σ where
  ex := g.gh
  len := k.len
  sh := fun i d e => let ⟨v, h1, h2⟩ := k.sh i d e; ⟨v, h1, h2.ex g.gg⟩
  ow := fun i ds e => by rcases p i _ e with ⟨d, z⟩ | z <;> cases z
  ap := k.ap
  sr := fun i a n e => by rcases p i _ e with ⟨d, z⟩ | z <;> cases z
  aq := k.aq
  su := k.su
abbrev entI (N : List Str) (ds : List D) : List Sl := .no :: (ds.map Sl.sh ++ List.replicate (N.length - (ds.length + 1)) .no)
theorem pls_entI {N : List Str} {ds : List D} : PlS (entI N ds) := fun i x h => by
  cases i with
  | zero => exact .inr (Option.some.inj h).symm
  | succ i =>
    rw [List.getElem?_cons_succ] at h
    by_cases z : i < ds.length
    · rw [List.getElem?_append_left (by rw [List.length_map]; exact z), List.getElem?_map] at h
      obtain ⟨d, hd, e1⟩ := Option.map_eq_some_iff.mp h
      exact .inl ⟨d, e1.symm⟩
    · rw [List.getElem?_append_right (by rw [List.length_map]; omega), List.getElem?_replicate] at h
      split at h
      · exact .inr (Option.some.inj h).symm
      · cases h
theorem ok_entI {G H : Hp} {N : List Str} {x : V} {vs : List V} {ds : List D} (e : Ex G H) (r : RpA G vs ds) : Ok H G H (entI N ds) (L2.start N (x :: vs)) := by
  have hl := r.length
  have st : L2.start N (x :: vs) = some x :: (vs.map some ++ List.replicate (N.length - (vs.length + 1)) none) := rfl
  refine ⟨e, ?_, fun i d h => ?_, fun i ds' h => ?_, fun i j ds' es p n h1 h2 h3 => ?_, fun i b n h => ?_, fun i j es b n h1 h2 => ?_, fun i j b c n q h1 h2 => ?_⟩
  · rw [st, List.length_cons, List.length_cons, List.length_append, List.length_append, List.length_map, List.length_map, List.length_replicate, List.length_replicate, hl]
  · rw [st]
    cases i with
    | zero => cases (Option.some.inj h)
    | succ i =>
      rw [List.getElem?_cons_succ] at h ⊢
      by_cases z : i < ds.length
      · rw [List.getElem?_append_left (by rw [List.length_map]; exact z), List.getElem?_map] at h
        obtain ⟨d', hd, e1⟩ := Option.map_eq_some_iff.mp h
        cases e1
        obtain ⟨v, hv, rv⟩ := r.get hd
        exact ⟨v, by rw [List.getElem?_append_left (by rw [List.length_map]; omega), List.getElem?_map, hv]; rfl, rv⟩
      · rw [List.getElem?_append_right (by rw [List.length_map]; omega), List.getElem?_replicate] at h
        split at h
        · cases (Option.some.inj h)
        · cases h
  · rcases pls_entI i _ h with ⟨d, z⟩ | z <;> cases z
  · rcases pls_entI i _ h1 with ⟨d, z⟩ | z <;> cases z
  · rcases pls_entI i _ h with ⟨d, z⟩ | z <;> cases z
  · rcases pls_entI i _ h1 with ⟨d, z⟩ | z <;> cases z
  · rcases pls_entI i _ h1 with ⟨d, z⟩ | z <;> cases z
section
variable {X : Cx} {m : Addr → Prop} {τ : List Sl} {rest : List Stmt} {a b c e o : Expr} {es : List Expr} {pos pos' p p2 : Pos} {d : D} {f n : Str} {Dn : Ends} {H0 G H : Hp} {σ : L2.St}
/-- if c: raise .., c false -/
theorem wb_ifF (ok : Ok H0 G H τ σ) (hc : Pt X c τ false) {sts : List Stmt} (h : ∀ G' H', Gr m0 G H G' H' → Wb X rest Dn σ H') : Wb X (.If c sts [] pos :: rest) Dn σ H := by
  refine Wb.of (pss_cons (ps_if pt_wt (pss_wb (sts := sts)) pss_nil) pss_wb) (hc H0 G H σ ok _ fun G1 H1 g1 => ?_)
  rw [if_neg Bool.false_ne_true]
  exact h G1 H1 g1
/-- a call for its effect (none) -/
theorem wb_expr (ok : Ok H0 G H τ σ) (h : Pu X e τ d) (k : ∀ G' H', Gr m0 G H G' H' → Wb X rest Dn σ H') (hs : swapsWith e none pos.line X.env = pure false := by rfl) : Wb X (.Expr e pos :: rest) Dn σ H :=
  Wb.of (pss_cons (ps_expr pe_we hs) pss_wb) (h H0 G H σ ok _ fun v G1 H1 g1 r1 => k G1 H1 g1)
/-- o.f = e -/
theorem wb_fld (i : Nat) {x C dx : Addr} {fs : List (Str × V)} (ok : Ok H0 G H τ σ) (h : Pu X e τ d) (hx : σ[i]? = some (some (V.ref x))) (hH : H x = some (.ins C dx fs)) (hg : G x = none) (c : Cls X.K C) (na : NoAttr X.K C f) (hl : fs.length < 1000)
    (k : ∀ v G' H', Gr (fun b => b = x) G H G' H' → Rp G' v d → H' x = some (.ins C dx (putF f v fs)) → G' x = none → Wb X rest Dn σ H')
    (hs : swapsWith e (some (.Attribute (.Name n p) f pos')) pos.line X.env = pure false := by rfl) (hN : X.N[i]? = some n := by rfl) (hv : Vis X.env.scope n := by first | exact Or.inl rfl | exact Or.inr (Or.inl rfl) | exact Or.inr (Or.inr rfl)) (hd : (n == ("__debug__" : Str)) = false := by decide) (hcd : (n == ("__classdict__" : Str)) = false := by decide) :
    Wb X (.Assign [.Attribute (.Name n p) f pos'] e pos :: rest) Dn σ H := by
  refine Wb.of (pss_cons (ps_fld (pe_var hN hv hd hcd) pe_we hs) pss_wb) (h H0 G H σ ok _ fun v G1 H1 g1 r1 => ⟨_, hx, x, C, dx, fs, rfl, g1.ex _ _ hH, c, na, hl, ?_⟩)
  have gx : G1 x = none := g1.fr x hg (by rw [hH]; exact fun z => by cases z)
  refine k v G1 _ ⟨g1.gg, fun b u nb q => ?_, fun b u q => ?_, g1.fr, fun b q => ?_⟩ r1 upd_same gx
  · rw [upd_ne nb]; exact g1.ex b u q
  · rw [upd_ne (fun z => by rw [z, gx] at q; cases q)]; exact g1.gh b u q
  · by_cases z : b = x
    · subst z; rw [upd_same]; exact fun z => by cases z
    · rw [upd_ne z]; exact g1.th b q
/-- the promise of an __init__ that fills these fields -/
def spI (C : Addr) (R : List D → List (Str × D) → Prop) : Sp := fun vs H Q _ => ∃ x dx us G ds fd, vs = .ref x :: us ∧ H x = some (.ins C dx []) ∧ Ex G H ∧ G x = none ∧ RpA G us ds ∧ R ds fd ∧
  ∀ fs G' H', Gr (fun b => b = x) G H G' H' → H' x = some (.ins C dx fs) → RpF G' fs fd → G' x = none → Q .non H'
/-- making an instance -/
theorem pu_make {C g : Addr} {fd : FuncData} {ps : List Str} {R : List D → List (Str × D) → Prop} {ds : List D} {fl : List (Str × D)} {j k : Nat} (M : Mk X.K C g) (F : FnOk X.prog X.w X.K X.mg X.base CX0 j g fd ps (spI C R)) (hr : Room (k + 1) X.A) (hm : X.mg n = some (.ref C)) (hb : Binds X.K fd ps []) (hR : R ds fl) (ha : Pa X (e :: es) τ ds)
    (hj : j + 1 ≤ k + 1 := by decide) (hg : Gl X n := by rfl) (hdb : (n == ("__debug__" : Str)) = false := by decide) (hs : (e :: es).all noStar = true := by rfl) : Pu X (.Call (.Name n p) (e :: es) [] pos) τ (.ins C fl) := fun H0 G H σ ok Q q => by
  have hs' : noStar e = true ∧ es.all noStar = true := by rwa [List.all_cons, Bool.and_eq_true] at hs
  refine We.of (pe_make M F (hr.mono hj) hg hm hb .nil pass0 pa_wa hdb (star_cons hs'.1) (plain_args hs'.2)) (ha H0 G H σ ok _ fun vs G1 H1 g1 r1 => fun x dx hx hdx hne => ?_)
  rw [List.append_nil]
  have e1 : Ex H1 (upd (upd H1 dx (.own x)) x (.ins C dx [])) := (Ex.new hdx).trans (.new (by rw [upd_ne (Ne.symm hne)]; exact hx))
  have gx : G1 x = none := g1.gh.back hx
  refine ⟨x, dx, vs, G1, ds, fl, rfl, upd_same, g1.gh.trans e1, gx, r1, hR, fun fs G' H' g h1 r gx' => ⟨rfl, ?_⟩⟩
  have eg : Ex G' (upd G' x (.ins C dx fs)) := .new gx'
  refine q (.ref x) (upd G' x (.ins C dx fs)) H' (g1.trans ⟨g.gg.trans eg, fun b u _ z => ?_, fun b u z => ?_, fun b z1 z2 => ?_, fun b z => ?_⟩) (.ins upd_same (r.ex eg))
  · have nb : b ≠ x := ne_of_none z hx
    exact g.hh b u nb (e1 b u z)
  · by_cases w : b = x
    · subst w; rw [upd_same] at z; cases z; exact h1
    · rw [upd_ne w] at z; exact g.gh b u z
  · have nb : b ≠ x := fun w => z2 (by rw [w]; exact hx)
    rw [upd_ne nb]
    refine g.fr b z1 ?_
    cases w : H1 b with
    | none => exact absurd w z2
    | some u => rw [e1 b u w]; exact fun z => by cases z
  · refine g.th b ?_
    cases w : H1 b with
    | none => exact absurd w z
    | some u => rw [e1 b u w]; exact fun z => by cases z
end
section
variable {P : Program} {w : World} {K : PySem.W.Frag} {mg : Str → Option Value} {base : Heap}
theorem fun_init {x qual : Str} {st : Stmt} {f C : Addr} {fd : FuncData} {N ps : List Str} {k : Nat} {R : List D → List (Str × D) → Prop} (F : Fun K x qual st f fd) (S : FnScope N ps (defScope st)) (len : ∀ ds fl, R ds fl → ds.length + 1 = ps.length)
    (hbody : ∀ (cdv : Value) (A : Around) (outer : List Env) (s : Shared) (H : Hp) (E : XK) (x dx : Addr) (us : List V) (G : Hp) (ds : List D) (fl : List (Str × D)), Room k (A.deeper (envOfC qual (defScope st) s.heap.objs.size f cdv)) → R ds fl → Ok H G H (entI N ds) (L2.start N (.ref x :: us)) → H x = some (.ins C dx []) → G x = none →
      ∀ Dn : Ends, (∀ σ' fs G' H', Gr (fun b => b = x) G H G' H' → H' x = some (.ins C dx fs) → RpF G' fs fl → G' x = none → Dn.nx σ' H') → Wb (cxOf CX0 P w K mg base N qual (defScope st) f cdv A outer s H E).nox (defBody st) Dn (L2.start N (.ref x :: us)) H) : FnOk P w K mg base CX0 (k + 1) f fd ps (spI C R) := by
  refine F.ok S (fun vs H Q E h => ?_) (fun cdv A outer s H vs Q E hr h => ?_)
  · obtain ⟨x, dx, us, G, ds, fl, rfl, _, _, _, r, hR, _⟩ := h
    rw [List.length_cons, r.length]; exact len ds fl hR
  · obtain ⟨x, dx, us, G, ds, fl, rfl, h1, e, gx, r, hR, c⟩ := h
    refine ⟨_, pss_wb, ?_⟩
    refine ⟨fun pins s1 I => ?_⟩
    have hb := hbody cdv A outer s H E x dx us G ds fl hr hR (ok_entI e r) h1 gx ⟨fun σ' H' => Q .non H', fun v H' => False, fun σ' H' => False, fun σ' H' => False⟩ (fun σ' fs G' H' g1 g2 g3 g4 => c fs G' H' g1 g2 g3 g4) pins s1 I
    refine thn hb fun f s2 q => sp_mono q (fun σ' H' z => ?_) (fun v H' z => ?_) (fun σ' H' z => ?_) (fun σ' H' z => ?_)
    · exact z
    · exact False.elim z
    · exact False.elim z
    · exact False.elim z
end
end R87
namespace R87
open PySem PySem.Spec PyProof.Rows L2
/-- an own exception class without a body -/
structure ExF (K : PySem.W.Frag) (mg : Str → Option Value) (n : Str) (C : Addr) : Prop where
  g : mg n = some (.ref C)
  q : PySem.W.excIn K C He.veBase "ValueError.__new__" = true
  k : PySem.W.keepIn K (.ref C) = true
  b : PySem.W.subIn K (.ref C) (.type "BaseException") = some true
  t : PySem.W.typeIn K (.ref C) = some (.type "type")
section
variable {X : Cx} {m : Addr → Prop} {τ : List Sl} {rest : List Stmt} {a b c e o : Expr} {es : List Expr} {pos pos' p p2 : Pos} {d : D} {f n : Str} {Dn : Ends} {H0 G H : Hp} {σ : L2.St} {ds : List D}
/-- x = e -/
theorem wb_set (i : Nat) (ok : Ok H0 G H τ σ) (h : Pu X e τ d) (k : ∀ G' H' σ', Gr m0 G H G' H' → Ok H0 G' H' (τ.set i (.sh d)) σ' → Wb X rest Dn σ' H') (hN : X.N.Nodup := by assumption) (hi : X.N[i]? = some n := by rfl) (hx : Loc X.env.scope n := by first | exact Or.inl rfl | exact Or.inr rfl) (hs : swapsWith e (some (.Name n p)) pos.line X.env = pure false := by rfl)
    (hf : X.fn n = true ∨ X.env.scope.names.lookup n = some .local := by first | exact .inl rfl | exact .inr rfl) : Wb X (.Assign [.Name n p] e pos :: rest) Dn σ H :=
  Wb.of (pss_cons (ps_set hN hi hx pe_we hs hf) pss_wb) (h H0 G H σ ok _ fun v G1 H1 g1 r1 => k G1 H1 _ g1 ((ok.gr g1).setSh r1))
/-- y = [elt for ..] -/
theorem wb_setC {tg iter elt : Expr} {ifs : List Expr} {scope : Scope} {y : Str} {py spos : Pos} (i : Nat) (ok : Ok H0 G H τ σ) (h : Lc X tg iter elt ifs scope τ ds) (k : ∀ G' H' σ', Gr m0 G H G' H' → Ok H0 G' H' (τ.set i (.sh (.lst ds))) σ' → Wb X rest Dn σ' H')
    (hsw : swapsWith (.ListComp elt [⟨tg, iter, ifs, 0⟩] scope pos) (some (.Name y py)) spos.line X.env = pure true := by exact sw_true rfl rfl rfl rfl)
    (hN : X.N.Nodup := by assumption) (hc : X.calm = true := by rfl) (hs : ∀ x, foldedSetIterable iter X.env x = pure x := by intro _; rfl) (hy : X.N[i]? = some y := by rfl) (hyl : X.env.scope.names.lookup y = some .local := by rfl) :
    Wb X (.Assign [.Name y py] (.ListComp elt [⟨tg, iter, ifs, 0⟩] scope pos) spos :: rest) Dn σ H := by
  obtain ⟨α, own, xs, enc, f, v, hi, ht, okb, hl, rfl⟩ := h.ex
  refine Wb.of (pss_cons (ps_setLc hc hN hy hyl hsw pi_wi okb pg_gB pts_tB pe_eB hs) pss_wb) ?_
  show tLc (Wi X tg iter) (gB X scope tg) (tB' X scope ifs) (eB X scope elt) (own.map (·.2)) σ H fun x H1 => Wb X rest Dn (σ.set i (some x)) H1
  refine lc_go xs enc f v hi hl ht ok fun q vs G1 H1 g1 h1 h3 h4 r1 => ?_
  have g2 := g1.known h1 h3 h4
  exact k _ H1 _ g2 ((ok.gr g2).setSh (.lst upd_same (r1.ex (.new h1))))
/-- if c: body, c true -/
theorem wb_ifT (ok : Ok H0 G H τ σ) (hc : Pt X c τ true) {sts els : List Stmt} (h : ∀ G' H', Gr m0 G H G' H' → ∀ Dm, Wb X (sts ++ []) Dm σ H') : Wb X (.If c sts els pos :: rest) Dn σ H := by
  refine Wb.of (pss_cons (ps_if pt_wt (pss_wb (sts := sts)) (pss_wb (sts := els))) pss_wb) (hc H0 G H σ ok _ fun G1 H1 g1 => ?_)
  rw [if_pos rfl]
  have := h G1 H1 g1
  rw [List.append_nil] at this
  exact this _
/-- raise X('m') -/
theorem wb_raise {W : WX} {C : Addr} {ms : Str} {j : Nat} {p3 : Pos} (F : ExF X.K X.mg n C) (tk : Takes X W) (h : W (.ref C) none σ H) (hc : X.calm = true := by rfl) (hg : Gl X n := by rfl) (hdb : (n == ("__debug__" : Str)) = false := by decide) :
    Wb X (.Raise (some (.Call (.Name n p) [.Constant (.str ms) j p2] [] pos)) none p3 :: rest) Dn σ H :=
  Wb.of (pss_cons (ps_raise hc tk (pmk_own PySem.F.excBase_ValueError F.q F.g F.k (raises_own F.b F.t) hg hdb)) pss_wb) h
end
/-- the promise of a def that tells data or raises -/
def spR (R : List D → D → Prop) (Rx : List D → Addr → Prop) : Sp := fun vs H Q E => ∃ G ds, Ex G H ∧ RpA G vs ds ∧ ((∃ d, R ds d ∧ ∀ v G' H', Gr m0 G H G' H' → Rp G' v d → Q v H') ∨ ∃ C, Rx ds C ∧ ∀ G' H', Gr m0 G H G' H' → E (.ref C) none H')
section
variable {P : Program} {w : World} {K : PySem.W.Frag} {mg : Str → Option Value} {base : Heap}
theorem fun_puX {x qual : Str} {st : Stmt} {f : Addr} {fd : FuncData} {N ps : List Str} {k : Nat} {R : List D → D → Prop} {Rx : List D → Addr → Prop} (F : Fun K x qual st f fd) (S : FnScope N ps (defScope st)) (len : ∀ ds d, R ds d → ds.length = ps.length) (len2 : ∀ ds d, Rx ds d → ds.length = ps.length)
    (hbody : ∀ (cdv : Value) (A : Around) (outer : List Env) (s : Shared) (H : Hp) (E : XK) (ds : List D) (d : D), Room k (A.deeper (envOfC qual (defScope st) s.heap.objs.size f cdv)) → R ds d →
      PassesOwn (model P w) (cxOf (L2.CX P w) P w K mg base N qual (defScope st) f cdv A outer s H E).A (cxOf (L2.CX P w) P w K mg base N qual (defScope st) f cdv A outer s H E).env (cxOf (L2.CX P w) P w K mg base N qual (defScope st) f cdv A outer s H E).xe →
      AB (cxOf (L2.CX P w) P w K mg base N qual (defScope st) f cdv A outer s H E) m0 (defBody st) (ent N ds) { nx := fun _ => d = .non, rt := fun e _ => e = d })
    (hraise : ∀ (cdv : Value) (A : Around) (outer : List Env) (s : Shared) (H : Hp) (E : XK) (ds : List D) (C : Addr) (G : Hp) (σ : L2.St) (Dn : Ends), Room k (A.deeper (envOfC qual (defScope st) s.heap.objs.size f cdv)) → Rx ds C → Ok H G H (ent N ds) σ →
      Takes (cxOf (L2.CX P w) P w K mg base N qual (defScope st) f cdv A outer s H E) (fun cls d _ H' => E cls d H') → (∀ G' H', Gr m0 G H G' H' → E (.ref C) none H') → Wb (cxOf (L2.CX P w) P w K mg base N qual (defScope st) f cdv A outer s H E) (defBody st) Dn σ H) : FnOk P w K mg base (L2.CX P w) (k + 1) f fd ps (spR R Rx) := by
  refine F.okX S (fun vs H Q E h => ?_) (fun cdv A outer s H vs Q E hr h => ?_)
  · obtain ⟨G, ds, _, r, h⟩ := h
    rw [r.length]
    rcases h with ⟨d, hR, _⟩ | ⟨C, hR, _⟩
    · exact len ds d hR
    · exact len2 ds C hR
  · obtain ⟨G, ds, e, r, h⟩ := h
    refine ⟨_, pss_wb, ?_⟩
    refine ⟨fun pins s1 I => ?_⟩
    rcases h with ⟨d, hR, c⟩ | ⟨C, hR, c⟩
    · refine thn (hbody cdv A outer s H E ds d hr hR (passes_of rfl) G H G H _ (.refl e) (ok_ent e r) pins s1 I) fun f s2 q => sp_mono q (fun σ' H' ⟨t, G', a, b, z⟩ => ?_) (fun v H' ⟨d', t, G', σ', a, _, b, z⟩ => ?_) (fun σ' H' ⟨t, G', a, b, z⟩ => z.elim) (fun σ' H' ⟨t, G', a, b, z⟩ => z.elim)
      · have z' : d = .non := z
        subst z'
        exact c .non G' H' a .non
      · have z' : d' = d := z
        subst z'
        exact c v G' H' a b
    · exact hraise cdv A outer s H E ds C G _ _ hr hR (ok_ent e r) (takes_of rfl rfl rfl rfl) c pins s1 I
end
end R87
namespace R87
open PySem PySem.Spec PyProof.Rows L2
open PySem.W (Datum DatumOrd Tup T4 Holds HoldAll)
theorem rp_F {K : PySem.W.Frag} {G : Hp} {v : V} {ds : List D} (r : Rp G v (.tupF ds)) : ∃ a xs o, v = .ref a ∧ G a = some (.frz o (.tup xs)) ∧ o.dict = none ∧ RpA G xs ds ∧ ∀ H, Ex G H → SqT K H a xs := by
  cases r with
  | tupF h z r => exact ⟨_, _, _, rfl, h, z, r, fun H e => .inl (.inr ⟨_, e _ _ h⟩)⟩
section
variable {X : Cx} {τ : List Sl} {a b c e tg : Expr} {pos p p2 p3 tpos : Pos} {ds : List D}
theorem pu_isTupF (B : Bf X.mg) (ha : Pu X a τ (.tupF ds)) (hg : Gl X "isinstance" := by rfl) (hg2 : Gl X "tuple" := by rfl) (hs : noStar a = true := by rfl) : Pu X (.Call (.Name "isinstance" p) [a, .Name "tuple" p2] [] pos) τ (.bl true) :=
  pu_isT (N := "tuple") B.isinstance B.tuple ha rfl (by decide +kernel) boot_nm_tuple hg hg2 (by decide) (by decide) hs
theorem pi_tuplF (h : Pu X e τ (.tupF ds)) : Pi X tg e τ ds := fun H0 G H σ k R q =>
  Wi.of (pi_tup pe_we) (h H0 G H σ k _ fun v G1 H1 g1 r1 => by
    obtain ⟨a, xs, o, rfl, _, _, r1, sq⟩ := rp_F (K := X.K) r1
    refine ⟨_, rfl, ⟨_, sq H1 g1.gh⟩, q _ G1 H1 g1 ⟨fun i d G2 H2 hi e1 e2 => ?_, fun G2 H2 e1 e2 => ?_⟩⟩
    · obtain ⟨v, hv, rv⟩ := r1.get hi
      have s2 := sq H2 (e1.trans e2)
      refine ⟨⟨_, v, s2, hv⟩, fun x H3 ⟨z, y⟩ => ?_⟩
      subst z
      have := y _ s2
      rw [hv] at this; cases this
      exact ⟨G2, .refl e2, rv.ex e1⟩
    · exact ⟨_, sq H2 (e1.trans e2), Nat.le_of_eq r1.length⟩)
theorem pi_enumTupF {elts : List Expr} {kk : Nat} (hm : X.mg "enumerate" = none) (h : Pu X e τ (.tupF ds)) (hg : Gl X "enumerate" := by rfl) (hs : noStar e = true := by rfl) : Pi X (.Tuple elts kk tpos) (.Call (.Name "enumerate" p) [e] [] pos) τ (enumD ds) := fun H0 G H σ k R q =>
  Wi.of (pi_enumT0 hg hm (pa_cons pe_we pa_nil (star_cons hs)) (star_cons hs)) (h H0 G H σ k _ fun v G1 H1 g1 r1 => by
    obtain ⟨a, xs, o, rfl, _, _, r1, sq⟩ := rp_F (K := X.K) r1
    refine ⟨_, _, rfl, sq H1 g1.gh, q _ G1 H1 g1 ⟨fun i d G2 H2 hi e1 e2 => ?_, fun G2 H2 e1 e2 => ?_⟩⟩
    · obtain ⟨x, hx, rfl⟩ := enumD_at hi
      obtain ⟨v, hv, rv⟩ := r1.get hx
      have s2 := sq H2 (e1.trans e2)
      refine ⟨⟨_, v, s2, hv⟩, fun y H3 ⟨T, u, w, hT, w2, w3⟩ => ?_⟩
      subst w w2
      have := w3 _ s2
      rw [hv] at this; cases this
      exact ⟨_, .new e2 hT, .tup upd_same (.cons (.int _) (.one (rv.ex (e1.trans (.new (e2.back hT))))))⟩
    · exact ⟨_, sq H2 (e1.trans e2), by rw [r1.length, List.length_map, List.length_zipIdx]; exact Nat.le_refl _⟩)
theorem nu_listTF (hm : X.mg "list" = none) (ha : Pu X a τ (.tupF ds)) (hg : Gl X "list" := by rfl) (hs : [a].all noStar = true := by rfl) : Nu X (.Call (.Name "list" p) [a] [] pos) τ ds :=
  nu_callTy call_list_of (fun vs G H ex r Q q => by
    cases r with
    | cons r r' =>
      cases r'
      obtain ⟨a, xs, o, rfl, _, _, r1, sq⟩ := rp_F (K := X.K) r
      exact ⟨_, _, rfl, .inr (sq H ex), fun l hl => q l _ hl r1⟩) hm (pas_cons ha pas_nil (by rw [List.all_cons, Bool.and_eq_true] at hs; exact hs.1)) (by decide +kernel) hg (by decide) (by decide) hs
def rSortF (α : Type) [DecidableEq α] [DatumOrd α] [En α] : List V → Hp → VK → Prop := fun vs H Q => ∃ (a : Addr) (xs : List α) (G : Hp), vs = [.ref a] ∧ Ex G H ∧ Rp G (.ref a) (.tupF (xs.map En.e)) ∧ ∀ p us, H p = none → RpA G us ((sortT xs).map En.e) → Q (.ref p) (upd H p (.lst us))
theorem call_sortF {α : Type} [DecidableEq α] [DatumOrd α] [En α] {k : Nat} (hr : Room k X.A) (hk : (∀ a : α, ∃ x r, Datum.toD a = PyData.tuple (x :: r)) ∨ ∀ a : α, Datum.toD a ≠ PyData.none ∧ ∀ ys, Datum.toD a ≠ PyData.tuple ys) (hd : Datum.depth α ≤ 60) : CallR X (.builtin "sorted") (rSortF α) := by
  rintro pins s σ H vs us Q I rv ⟨a, xs, G, rfl, ex, r, q⟩
  rw [Vals.ref1 rv]
  obtain ⟨a', vs, o, ea, _, _, r1, sq⟩ := rp_F (K := X.K) r
  cases ea
  obtain ⟨its, rv1, pl, hz⟩ := I.tuple (sq H ex)
  have hold := RpA.holds I ex r1 rv1
  have hlen : its.length = xs.length := hold.length
  have hxl : xs.length ≤ sizeLine := by rw [← hlen, ← rv1.length]; exact hz
  refine sorted_tup (enc := Datum.toD) pl (each_of (h := s.heap) rv1 r1) (each_reads (fun i u x hu hx => ?_) hlen) (PySem.W.AllAlike.of fun a b => DatumOrd.alike a b) (sortable xs hk) hxl (fun b hb => ?_) fun h' p out c k hp he ho eo => ?_
  · obtain ⟨y, hy, hh⟩ := hold.at hu
    rw [hx] at hy; cases hy
    exact hh
  · have := Datum.depth_le b
    have := hr.units
    omega
  · obtain ⟨ws, a1, a2⟩ := of_each eo
    have hw : ws.length ≤ sizeLine := by rw [a2.length, List.length_map, List.length_mergeSort]; exact hxl
    exact ⟨.ref p, upd H p (.lst ws), I.laid (t' := s.toks) k hp ⟨hw, out, c, a1, he⟩, rfl, q p ws (I.hok.fresh hp) a2⟩
theorem nu_sortedF {α : Type} [DecidableEq α] [DatumOrd α] [En α] [Sob α] {k : Nat} {xs : List α} (hr : Room k X.A) (hm : X.mg "sorted" = none) (ha : Pu X a τ (.tupF (xs.map En.e))) (hd : Datum.depth α ≤ 60 := by decide) (hg : Gl X "sorted" := by rfl) (hs : [a].all noStar = true := by rfl) :
    Nu X (.Call (.Name "sorted" p) [a] [] pos) τ ((sortT xs).map En.e) :=
  nu_callB (call_sortF hr Sob.h hd) (fun vs G H ex r Q q => by
    cases r with
    | cons r r' =>
      cases r'
      obtain ⟨a, us, o, rfl, _, _, _, _⟩ := rp_F (K := X.K) r
      exact ⟨_, xs, G, rfl, ex, r, fun p us hp ru => q p us hp ru⟩) hm (pas_cons ha pas_nil (by rw [List.all_cons, Bool.and_eq_true] at hs; exact hs.1)) (by decide +kernel) hg (by decide) (by decide) hs
/-- tuple(xs) -/
def rTupF : List V → Hp → VK → Prop := fun vs H Q => ∃ (a : Addr) (ds : List D) (G : Hp), vs = [.ref a] ∧ Ex G H ∧ Rp G (.ref a) (.lst ds) ∧ ∀ w G' H', Gr m0 G H G' H' → Rp G' w (.tupF ds) → Q w H'
theorem call_tupF : CallR X (.type "tuple") rTupF := by
  rintro pins s σ H vs us Q I rv ⟨a, ds, G, rfl, ex, r, q⟩
  rw [Vals.ref1 rv]
  obtain ⟨ws, its, r1, rv1, hl, hz⟩ := list_of_rp (u := .none) I ex r
  have hlen := rv1.length
  refine call_tuple_list hl (fun h' kp => ?_) (by simp only [List.size_toArray]; omega)
  have I1 : Inv X pins σ H { s with heap := h' } := I.kept (t' := s.toks) kp
  have fr := I1.hok.fresh (Nat.le_refl h'.objs.size)
  let o : Obj := { cls := .type "tuple", data := .seq its.toArray }
  have go : (h'.push o).get? h'.objs.size = some o := Heap.get?_push_size _ rfl
  have I2 : Inv X pins σ (upd H h'.objs.size (.frz o (.tup ws))) { s with heap := h'.push o } :=
    I1.laid (t' := s.toks) (fun b o e => Heap.get?_push_of_some _ e) (Nat.le_refl _) (show ObjOk X.prog X.w _ _ _ (.frz o (.tup ws)) from ⟨go, hz, its, rv1, IsTup.new _ _⟩)
  exact ⟨.ref h'.objs.size, _, I2, rfl, q _ _ _ (.new ex fr) (.tupF upd_same rfl (r1.ex (.new (ex.back fr))))⟩
theorem dc_tupF : DCall rTupF [.lst ds] (.tupF ds) := fun vs G H ex r Q q => by
  cases r with
  | cons r r' =>
    cases r'
    obtain ⟨l, rfl⟩ := rpl r
    exact ⟨l, ds, G, rfl, ex, r, q⟩
/-- t.index(x) -/
theorem pu_indexF {α : Type} [DecidableEq α] [Datum α] [En α] {k : Nat} {xs : List α} {x : α} (hr : Room k X.A) (ho : Pu X a τ (.tupF (xs.map En.e))) (ha : Pu X b τ (En.e x)) (hx : x ∈ xs) (hd : Datum.depth α ≤ 60 := by decide) (hs : noStar b = true := by rfl)
    (hbase : attributeBase a "index" X.env (eval a X.env) = eval a X.env := by rfl) (hfew : ((backTo p3 (starEach [b] X.env)).all (fun x => !x.1) && (backToKw p3 (keywordEach [] X.env)).all (fun x => x.1.isSome) && decide ([b].length + ([] : List Keyword).length + (if ([] : List Keyword).isEmpty then 0 else 1) < 30)) = true := by rfl)
    (hline : (p2.endLine == p3.line) = true := by rfl) : Pu X (.Call (.Attribute a "index" p2) [b] [] p3) τ (.int (xs.idxOf x : Nat)) := fun H0 G H σ ok Q q => by
  refine ⟨fun pins s I => ?_⟩
  have h1 := ho H0 G H σ ok (fun v H1 => ∃ G1, Gr m0 G H G1 H1 ∧ Rp G1 v (.tupF (xs.map En.e))) (fun v G1 H1 g r => ⟨G1, g, r⟩) pins s I
  refine wpAny_Call_method_late hbase hfew hline rfl (thn h1 fun v s1 ⟨w, H1, I1, rw1, G1, g1, r1⟩ => ?_)
  obtain ⟨l, ys, o, rfl, hG, hdn, r2, sq⟩ := rp_F (K := X.K) r1
  cases rw1
  obtain ⟨ho1, _⟩ := (show ObjOk X.prog X.w H1 s1.heap l (.frz o (.tup ys)) from I1.hok l _ (g1.gh _ _ hG))
  obtain ⟨its, rv, pl, hz⟩ := I1.tuple (sq H1 g1.gh)
  obtain ⟨o', e1, e2, e3⟩ := pl
  have eo : o' = o := by rw [ho1] at e1; exact (Option.some.inj e1).symm
  subst eo
  refine ⟨"tuple", "tuple.index", PySem.F.plainAttrs_tuple, PySem.F.slot_tuple_index, PySem.F.type_tuple_index, ⟨o', ho1, e2⟩, fun b e => by cases e; exact ⟨o', ho1, hdn⟩, ?_⟩
  have hA := (pa_cons (pe_we (e := b)) pa_nil (star_cons hs)).run p3 pins s1 σ H1 (fun vs H2 => ∃ y G2, vs = [y] ∧ Gr m0 G1 H1 G2 H2 ∧ Rp G2 y (En.e x)) I1 (ha H0 G1 H1 σ (ok.gr g1) _ fun u G2 H2 g r => ⟨u, G2, rfl, g, r⟩)
  rw [star_cons hs] at hA ⊢
  refine Calls.callWith_builtin rfl (Calls.evalArgs_plain ?_)
  refine thn hA fun us s2 ⟨vs, H2, I2, rvs, y, G2, ev, g2, r3⟩ => ?_
  subst ev
  obtain ⟨u, rfl, ru⟩ := Vals.one rvs
  obtain ⟨its2, rv2, pl2, hz2⟩ := I2.tuple (sq H2 (g2.gg.trans g2.gh))
  exact PySem.W.index_tuple_datum pl2 (RpA.holds I2 (g2.gg.trans g2.gh) r2 rv2) (Rp.holds I2 g2.gh r3 ru) (roomD hr hd).2.1 hx ⟨.int _, H2, I2.tok _, ⟨_, rfl⟩, q _ G2 H2 (g1.trans g2) (.int _)⟩
end
end R87
namespace R87
open PySem PySem.Spec PyProof.Rows L2
def dropG (G : Hp) (p : Addr) : Hp := fun a => if a = p then none else G a
theorem dropG_ne {G : Hp} {p a : Addr} (h : a ≠ p) : dropG G p a = G a := if_neg h
theorem dropG_ex {G : Hp} {p : Addr} : Ex (dropG G p) G := fun a o h => by
  unfold dropG at h
  split at h
  · cases h
  · exact h
/-- the shared view of a list of one's own -/
theorem Ok.view {H0 G H : Hp} {τ : List Sl} {σ : L2.St} {i : Nat} {ds : List D} (k : Ok H0 G H τ σ) (h : τ[i]? = some (Sl.ow ds)) : ∃ p vs, G p = none ∧ H p = some (.lst vs) ∧ Ok H0 (upd G p (.lst vs)) H (τ.set i (.sh (.lst ds))) σ := by
  obtain ⟨p, vs, h1, h2, h3, h0, h4⟩ := k.ow i ds h
  have e1 : Ex G (upd G p (.lst vs)) := .new h3
  refine ⟨p, vs, h3, h2, fun a u q => ?_, by rw [List.length_set]; exact k.len, fun j e he => ?_, fun j es he => ?_, fun j l es fs q n q1 q2 q3 => ?_, fun j a n he => ?_, fun j l es a n q1 q2 => ?_, su_set k.su (fun _ _ z => by cases z)⟩
  · by_cases z : a = p
    · subst z; rw [upd_same] at q; cases q; exact h2
    · rw [upd_ne z] at q; exact k.ex a u q
  · rcases set_at he with ⟨z, e3, hl⟩ | ⟨z, he⟩
    · subst z; cases e3
      exact ⟨_, h1, .lst upd_same (h4.ex e1)⟩
    · obtain ⟨v, a, b⟩ := k.sh j e he
      exact ⟨v, a, b.ex e1⟩
  · rcases set_at he with ⟨z, e3, hl⟩ | ⟨z, he⟩
    · cases e3
    · obtain ⟨q, us, a, b, c, c0, d⟩ := k.ow j es he
      refine ⟨q, us, a, b, ?_, c0, d.ex e1⟩
      rw [upd_ne]
      · exact c
      · intro w
        subst w
        exact k.ap i j ds es q z h he h1 a
  · rcases set_at q1 with ⟨z, e3, hl⟩ | ⟨z, q1⟩
    · cases e3
    · rcases set_at q2 with ⟨z2, e3, hl⟩ | ⟨z2, q2⟩
      · cases e3
      · exact k.ap j l es fs q n q1 q2 q3
  · rcases set_at he with ⟨z, e3, hl⟩ | ⟨z, he⟩
    · cases e3
    · obtain ⟨a1, a2, a3⟩ := k.sr j a n he
      refine ⟨a1, ?_, a3⟩
      rw [upd_ne]
      · exact a2
      · intro w
        subst w
        exact k.aq i j ds a n h he h1
  · rcases set_at q1 with ⟨z, e3, hl⟩ | ⟨z, q1⟩
    · cases e3
    · rcases set_at q2 with ⟨z2, e3, hl⟩ | ⟨z2, q2⟩
      · cases e3
      · exact k.aq j l es a n q1 q2
theorem Gr.back {G H G' H' : Hp} {p : Addr} {vs : List V} (hg : G p = none) (hh : H p = some (.lst vs)) (g : Gr m0 (upd G p (.lst vs)) H G' H') (ex : Ex G H) : Gr m0 G H (dropG G' p) H' :=
  ⟨fun a o h => by
    have n : a ≠ p := fun z => by rw [z, hg] at h; cases h
    rw [dropG_ne n]
    exact g.gg a o (by rw [upd_ne n]; exact h), g.hh, dropG_ex.trans g.gh, fun a h1 h2 => by
    by_cases z : a = p
    · subst z; exact if_pos rfl
    · rw [dropG_ne z]; exact g.fr a (by rw [upd_ne z]; exact h1) h2, g.th⟩
section
variable {X : Cx} {τ : List Sl} {e : Expr} {ds : List D} {i : Nat}
theorem Pt.own {b : Bool} (hi : τ[i]? = some (Sl.ow ds)) (h : Pt X e (τ.set i (.sh (.lst ds))) b) : Pt X e τ b := fun H0 G H σ k Q q => by
  obtain ⟨p, vs, h1, h2, k2⟩ := k.view hi
  exact h H0 _ H σ k2 Q fun G' H' g => q _ H' (g.back h1 h2 k.ex)
theorem Pu.ownI {n : Int} (hi : τ[i]? = some (Sl.ow ds)) (h : Pu X e (τ.set i (.sh (.lst ds))) (.int n)) : Pu X e τ (.int n) := fun H0 G H σ k Q q => by
  obtain ⟨p, vs, h1, h2, k2⟩ := k.view hi
  exact h H0 _ H σ k2 Q fun v G' H' g r => by
    cases r
    exact q _ _ H' (g.back h1 h2 k.ex) (.int n)
theorem rpa_nat {G G' : Hp} : ∀ {ks : List Nat} {vs : List V}, RpA G vs (ks.map En.e) → RpA G' vs (ks.map En.e)
  | [], _, .nil => .nil
  | k :: ks, _, .cons (v := v) r rs => by
    have r' : Rp G v (.int (k : Int)) := r
    cases r'
    exact RpA.cons (d := .int (k : Int)) (.int _) (rpa_nat rs)
theorem Nu.ownI {ks : List Nat} (hi : τ[i]? = some (Sl.ow ds)) (h : Nu X e (τ.set i (.sh (.lst ds))) (ks.map En.e)) : Nu X e τ (ks.map En.e) := fun H0 G H σ k Q q => by
  obtain ⟨p, vs, h1, h2, k2⟩ := k.view hi
  exact h H0 _ H σ k2 Q fun l us G' H' g a1 a2 a3 r => q l us _ H' (g.back h1 h2 k.ex) (by
    by_cases z : l = p
    · subst z; exact if_pos rfl
    · rw [dropG_ne z]; exact a1) a2 a3 (rpa_nat r)
end
end R87
namespace R87
open PySem PySem.Spec PyProof.Rows L2
open PySem.W (Datum DatumOrd Tup T4 Holds HoldAll)
section
variable {prog : Program} {w : World} {A : Around} {E : Value → Shared → Prop} {s : Shared} {α : Type} [DecidableEq α] [DatumOrd α] {x y : α} {a b : Value}
theorem tup_min2 {l : Addr} {Q : Value → Shared → Prop} (hh : A.handled = none) (hl : s.heap.IsTuple l #[a, b]) (ra : Holds s.heap a x) (rb : Holds s.heap b y) (hu : A.units + 1 + Datum.depth α < cLine)
    (h : ∀ h' tk, (∀ c o, s.heap.get? c = some o → h'.get? c = some o) → Q (if DatumOrd.lt y x = true then b else a) { s with heap := h', toks := tk }) : wpAny (model prog w) A (call (.builtin "min") [.ref l]) Q E s :=
  call_min_walkH (PySem.W.iter_tupleW (A := A.in1) hh hl fun s2 e W st hfp hw hk => ⟨_, _, _, _, _, _, _, s.heap, _, rfl, W, st, hfp, by simp, hw, hk, two_lt (A' := A.in1) ra rb hu, fun v s' hp m => by
    obtain ⟨h', tk, rfl, hk'⟩ := PySem.W.moved_old e rfl m
    rw [two_pick (DatumOrd.lt_eq y x) hp]
    exact h h' tk hk'⟩)
theorem tup_max2 {l : Addr} {Q : Value → Shared → Prop} (hh : A.handled = none) (hl : s.heap.IsTuple l #[a, b]) (ra : Holds s.heap a x) (rb : Holds s.heap b y) (hu : A.units + 1 + Datum.depth α < cLine)
    (h : ∀ h' tk, (∀ c o, s.heap.get? c = some o → h'.get? c = some o) → Q (if DatumOrd.lt x y = true then b else a) { s with heap := h', toks := tk }) : wpAny (model prog w) A (call (.builtin "max") [.ref l]) Q E s :=
  call_max_walkH (PySem.W.iter_tupleW (A := A.in1) hh hl fun s2 e W st hfp hw hk => ⟨_, _, _, _, _, _, _, s.heap, _, rfl, W, st, hfp, by simp, hw, hk, two_gt (A' := A.in1) ra rb hu, fun v s' hp m => by
    obtain ⟨h', tk, rfl, hk'⟩ := PySem.W.moved_old e rfl m
    rw [two_pick (DatumOrd.lt_eq x y) hp]
    exact h h' tk hk'⟩)
end
section
variable {X : Cx} {α : Type} [DecidableEq α] [DatumOrd α] [En α]
theorem tup_of_rp {pins : List (Addr × Obj)} {σ : L2.St} {H G : Hp} {s : Shared} (I : Inv X pins σ H s) (ex : Ex G H) {a : Addr} {ds : List D} (r : Rp G (.ref a) (.tup ds)) : ∃ vs its, RpA G vs ds ∧ Vals vs its ∧ s.heap.IsTuple a its.toArray := by
  cases r with
  | tup h r =>
    obtain ⟨its, rv, pl, hz⟩ := I.tuple (SqT.of (ex _ _ h))
    exact ⟨_, its, r, rv, pl⟩
def rTwoU (α : Type) [DecidableEq α] [DatumOrd α] [En α] (f : α → α → α) : List V → Hp → VK → Prop := fun vs H Q => ∃ (l : Addr) (x y : α) (G : Hp), vs = [.ref l] ∧ Ex G H ∧ Rp G (.ref l) (.tup [En.e x, En.e y]) ∧ ∀ w, Rp G w (En.e (f x y)) → Q w H
variable {k : Nat}
theorem call_minUT (hr : Room k X.A) (hd : Datum.depth α ≤ 60) (hc : X.calm = true) : CallR X (.builtin "min") (rTwoU α minT) := by
  rintro pins s σ H vs us Q I rv ⟨l, x, y, G, rfl, ex, r, q⟩
  rw [Vals.ref1 rv]
  obtain ⟨ws, its, r3, rv3, hl⟩ := tup_of_rp I ex r
  obtain ⟨v, u, rfl, r1, r2⟩ := rp_two r3
  obtain ⟨a, b, rfl, ra, rb⟩ := vals2 rv3
  exact tup_min2 (I.ok.hd hc) hl (Rp.holds I ex r1 ra) (Rp.holds I ex r2 rb) (roomD hr hd).2.1 fun h' tk k => pick_end I r1 r2 ra rb rfl q k
theorem call_maxUT (hr : Room k X.A) (hd : Datum.depth α ≤ 60) (hc : X.calm = true) : CallR X (.builtin "max") (rTwoU α maxT) := by
  rintro pins s σ H vs us Q I rv ⟨l, x, y, G, rfl, ex, r, q⟩
  rw [Vals.ref1 rv]
  obtain ⟨ws, its, r3, rv3, hl⟩ := tup_of_rp I ex r
  obtain ⟨v, u, rfl, r1, r2⟩ := rp_two r3
  obtain ⟨a, b, rfl, ra, rb⟩ := vals2 rv3
  exact tup_max2 (I.ok.hd hc) hl (Rp.holds I ex r1 ra) (Rp.holds I ex r2 rb) (roomD hr hd).2.1 fun h' tk k => pick_end I r1 r2 ra rb rfl q k
variable {τ : List Sl} {a b : Expr} {pos p : Pos} {x y : α}
theorem dc_twoU {f : α → α → α} : DCall (rTwoU α f) [.tup [En.e x, En.e y]] (En.e (f x y)) := fun vs G H ex r Q q => by
  cases r with
  | cons r r' =>
    cases r'
    cases r with
    | tup h r => exact ⟨_, x, y, G, rfl, ex, .tup h r, fun w rw => q w G H (.refl ex) rw⟩
theorem pu_minU (hr : Room k X.A) (hm : X.mg "min" = none) (ha : Pu X a τ (.tup [En.e x, En.e y])) (hd : Datum.depth α ≤ 60 := by decide) (hg : Gl X "min" := by rfl) (h1 : noStar a = true := by rfl) (hc : X.calm = true := by rfl) : Pu X (.Call (.Name "min" p) [a] [] pos) τ (En.e (minT x y)) :=
  pu_callB (call_minUT hr hd hc) dc_twoU hm (pas_cons ha pas_nil h1) (by decide +kernel) hg (by decide) (by decide) (by rw [List.all_cons, h1]; rfl)
theorem pu_maxU (hr : Room k X.A) (hm : X.mg "max" = none) (ha : Pu X a τ (.tup [En.e x, En.e y])) (hd : Datum.depth α ≤ 60 := by decide) (hg : Gl X "max" := by rfl) (h1 : noStar a = true := by rfl) (hc : X.calm = true := by rfl) : Pu X (.Call (.Name "max" p) [a] [] pos) τ (En.e (maxT x y)) :=
  pu_callB (call_maxUT hr hd hc) dc_twoU hm (pas_cons ha pas_nil h1) (by decide +kernel) hg (by decide) (by decide) (by rw [List.all_cons, h1]; rfl)
end
end R87
namespace R87
open PySem.W (Tup T4 T3 Datum DatumOrd)
open PySem
section
variable {α : Type} [DecidableEq α] [DatumOrd α]
def dle (x y : α) : Bool := !DatumOrd.lt y x
theorem dataLe_dle : (PySem.W.dataLe false Datum.toD : α → α → Bool) = dle := by
  rw [PySem.W.dataLe_eq]
  funext a b
  show (!PySem.W.dataLt (Datum.toD b) (Datum.toD a)) = _
  rw [DatumOrd.lt_eq]; rfl
theorem dle_tot : PySem.W.TotalLe (dle : α → α → Bool) := by
  rw [← dataLe_dle]; exact PySem.W.sortLe_total _ _ _
theorem sortT_eq (xs : List α) : sortT xs = xs.mergeSort dle := by unfold sortT; rw [dataLe_dle]
theorem dle_trans {a b c : α} (h1 : dle a b = true) (h2 : dle b c = true) : dle a c = true := dle_tot.trans a b c h1 h2
theorem dle_total (a b : α) : dle a b = true ∨ dle b a = true := dle_tot.total a b
theorem dle_refl (a : α) : dle a a = true := (dle_total a a).elim id id
theorem sortT_sorted (xs : List α) : (sortT xs).Pairwise fun a b => dle a b = true := by
  rw [sortT_eq]
  exact List.pairwise_mergeSort (le := dle) (fun a b c => dle_trans) (fun a b => by have := dle_total a b; simpa using this) xs
end
/-- the order tells all -/
class Lin (α : Type) [DecidableEq α] [DatumOrd α] : Prop where
  as : ∀ a b : α, dle a b = true → dle b a = true → a = b
section
variable {α : Type} [DecidableEq α] [DatumOrd α] [Lin α]
theorem sorted_uniq {xs ys : List α} (h : xs.Perm ys) (hx : xs.Pairwise fun a b => dle a b = true) (hy : ys.Pairwise fun a b => dle a b = true) : xs = ys :=
  List.Perm.eq_of_pairwise (le := fun a b => dle a b = true) (fun a b _ _ h1 h2 => Lin.as a b h1 h2) hx hy h
theorem sortT_uniq {xs ys : List α} (h : xs.Perm ys) : sortT xs = sortT ys :=
  sorted_uniq ((List.mergeSort_perm _ _).trans (h.trans (List.mergeSort_perm _ _).symm)) (sortT_sorted xs) (sortT_sorted ys)
theorem sortT_id {xs : List α} (h : xs.Pairwise fun a b => dle a b = true) : sortT xs = xs := sorted_uniq (List.mergeSort_perm _ _) (sortT_sorted xs) h
theorem sortT_idem (xs : List α) : sortT (sortT xs) = sortT xs := sortT_id (sortT_sorted xs)
theorem perm_of_sortT {xs ys : List α} (h : sortT xs = sortT ys) : xs.Perm ys := (List.mergeSort_perm _ _).symm.trans ((List.Perm.of_eq h).trans (List.mergeSort_perm _ _))
theorem sorted_of {xs : List α} (h : sortT xs = xs) : xs.Pairwise fun a b => dle a b = true := by rw [← h]; exact sortT_sorted xs
theorem lt_irrefl (a : α) : DatumOrd.lt a a = false := by
  have := dle_refl a
  unfold dle at this
  simpa using this
/-- the two least first -/
theorem minmax_perm (x y : α) : [minT x y, maxT x y].Perm [x, y] := by
  unfold minT maxT
  cases h1 : DatumOrd.lt y x with
  | true =>
    have h2 : DatumOrd.lt x y = false := by
      cases h2 : DatumOrd.lt x y with
      | false => rfl
      | true =>
        rcases dle_total x y with h | h
        · unfold dle at h; rw [h1] at h; cases h
        · unfold dle at h; rw [h2] at h; cases h
    rw [h2]
    simpa using List.Perm.swap x y []
  | false =>
    cases h2 : DatumOrd.lt x y with
    | true => simp
    | false =>
      have e : x = y := Lin.as x y (by unfold dle; rw [h1]; rfl) (by unfold dle; rw [h2]; rfl)
      subst e; simp
theorem min_le_max (x y : α) : dle (minT x y) (maxT x y) = true := by
  unfold minT maxT
  cases h1 : DatumOrd.lt y x with
  | true =>
    have h2 : DatumOrd.lt x y = false := by
      cases h2 : DatumOrd.lt x y with
      | false => rfl
      | true =>
        rcases dle_total x y with h | h
        · unfold dle at h; rw [h1] at h; cases h
        · unfold dle at h; rw [h2] at h; cases h
    rw [h2]
    unfold dle
    simp [h2]
  | false =>
    cases h2 : DatumOrd.lt x y with
    | true => unfold dle; simp [h1]
    | false => simp only [Bool.false_eq_true, if_false]; exact dle_refl x
theorem sort2 (x y : α) : sortT [x, y] = [minT x y, maxT x y] := by
  rw [sortT_uniq (minmax_perm x y).symm]
  exact sortT_id (by simp [min_le_max])
theorem minT_comm (x y : α) : minT x y = minT y x ∧ maxT x y = maxT y x := by
  have h : sortT [x, y] = sortT [y, x] := sortT_uniq (List.Perm.swap y x [])
  rw [sort2, sort2] at h
  injection h with h1 h2
  injection h2 with h2 _
  exact ⟨h1, h2⟩
end
instance : Lin Nat := ⟨fun a b h1 h2 => by
  have e : ∀ a b : Nat, DatumOrd.lt a b = decide (a < b) := fun _ _ => rfl
  unfold dle at h1 h2
  rw [e] at h1 h2
  simp at h1 h2; omega⟩
instance : Lin Str := ⟨fun a b h1 h2 => by
  have e : ∀ a b : Str, DatumOrd.lt a b = decide (a.cps.toList < b.cps.toList) := fun _ _ => rfl
  unfold dle at h1 h2
  rw [e] at h1 h2
  have h3 : ¬ b.cps.toList < a.cps.toList := by simpa using h1
  have h4 : ¬ a.cps.toList < b.cps.toList := by simpa using h2
  have : a.cps.toList = b.cps.toList := List.le_antisymm (List.not_lt.1 h3) (List.not_lt.1 h4)
  cases a; cases b
  congr 1
  exact Array.toList_inj.1 this⟩
instance {α β : Type} [DecidableEq α] [DatumOrd α] [DecidableEq β] [DatumOrd β] [Lin α] [Lin β] : Lin (α × β) := ⟨fun p q h1 h2 => by
  obtain ⟨a, b⟩ := p
  obtain ⟨c, d⟩ := q
  have e : ∀ (a c : α) (b d : β), DatumOrd.lt (a, b) (c, d) = if a = c then DatumOrd.lt b d else DatumOrd.lt a c := fun a c b d => rfl
  unfold dle at h1 h2
  rw [e] at h1 h2
  by_cases z : a = c
  · subst z
    simp only [if_true] at h1 h2
    rw [Lin.as b d (by unfold dle; exact h1) (by unfold dle; exact h2)]
  · rw [if_neg (Ne.symm z)] at h1
    rw [if_neg z] at h2
    exact absurd (Lin.as a c (by unfold dle; exact h1) (by unfold dle; exact h2)) z⟩
instance {α β γ δ : Type} [DecidableEq α] [DatumOrd α] [DecidableEq β] [DatumOrd β] [DecidableEq γ] [DatumOrd γ] [DecidableEq δ] [DatumOrd δ] [Lin α] [Lin β] [Lin γ] [Lin δ] : Lin (T4 α β γ δ) := ⟨fun p q h1 h2 => by
  have e : ∀ p q : T4 α β γ δ, DatumOrd.lt p q = if p.a = q.a then (if p.b = q.b then (if p.c = q.c then (DatumOrd.lt p.d q.d) else DatumOrd.lt p.c q.c) else DatumOrd.lt p.b q.b) else DatumOrd.lt p.a q.a := fun p q => rfl
  obtain ⟨a, b, c, d⟩ := p
  obtain ⟨a', b', c', d'⟩ := q
  unfold dle at h1 h2
  rw [e] at h1 h2
  simp only at h1 h2
  by_cases z : a = a'
  · subst z
    rw [if_pos rfl] at h1 h2
    by_cases z : b = b'
    · subst z
      rw [if_pos rfl] at h1 h2
      by_cases z : c = c'
      · subst z
        rw [if_pos rfl] at h1 h2
        rw [Lin.as d d' h1 h2]
      · rw [if_neg (Ne.symm z)] at h1
        rw [if_neg z] at h2
        exact absurd (Lin.as c c' h1 h2) z
    · rw [if_neg (Ne.symm z)] at h1
      rw [if_neg z] at h2
      exact absurd (Lin.as b b' h1 h2) z
  · rw [if_neg (Ne.symm z)] at h1
    rw [if_neg z] at h2
    exact absurd (Lin.as a a' h1 h2) z⟩
end R87
namespace R87
open PySem PySem.Spec PyProof.Rows L2
open PySem.W (Tup T4 T3)
def letters : Str := "abcdefghijklmnopqrstuvwxyz"
/-- a name: 1 to 8 small letters -/
structure Nm (z : Str) : Prop where
  lo : 1 ≤ z.length
  hi : z.length ≤ 8
  al : ∀ c ∈ z.cps.toList, c ∈ letters.cps.toList
abbrev Srts := List (Str × Str)
abbrev Knds := List (Str × Tup Str)
/-- sorts that a stock may have -/
structure VSo (so : Srts) : Prop where
  l1 : 1 ≤ so.length
  l3 : so.length ≤ 3
  nm : ∀ p ∈ so, Nm p.1 ∧ Nm p.2
  nd : (so.map (·.1)).Nodup
  sy : ∀ p ∈ so, (p.2, p.1) ∈ so
structure VKd (so : Srts) (q : Str × Tup Str) : Prop where
  nm : Nm q.1
  l1 : 1 ≤ q.2.items.length
  l5 : q.2.items.length ≤ 5
  mem : ∀ e ∈ q.2.items, Nm e ∧ e ∈ so.map (·.1)
  srt : sortT q.2.items = q.2.items
structure VKs (so : Srts) (kd : Knds) : Prop where
  l1 : 1 ≤ kd.length
  l4 : kd.length ≤ 4
  nm : ∀ q ∈ kd, VKd so q
  nd : (kd.map (·.1)).Nodup
abbrev sosD (so : Srts) : D := .lst (so.map En.e)
abbrev kdsD (kd : Knds) : D := .lst (kd.map En.e)
abbrev stD (C : Addr) (so : Srts) (kd : Knds) : D := .ins C [("sorts", sosD so), ("kinds", kdsD kd)]
section
variable {P : Program} {w : World} {K : PySem.W.Frag} {mg : Str → Option Value} {base : Heap}
def r_whole (ds : List D) (d : D) : Prop := ∃ i lo hi : Int, ds = [.int i, .int lo, .int hi] ∧ d = .bl (decide (lo ≤ i) && decide (i ≤ hi))
theorem ok_is_whole (B : Bf mg) {f : Addr} {fd : FuncData} (F : Fun K "is_whole" "is_whole" s_is_whole_stocks f fd) : FnOk P w K mg base CX0 1 f fd ["thing", "low", "high"] (spP r_whole) := by
  refine fun_pu F (N := ["thing", "low", "high"]) (C8.fnScope_by (by decide +kernel)) (fun ds d ⟨i, lo, hi, e, _⟩ => by rw [e]; rfl) fun cdv A outer s H E ds d hr ⟨i, lo, hi, e, ed⟩ => ?_
  subst e ed
  refine ab_ret (pu_and (pu_isInt B (pu_var 0 rfl)) fun _ => pu_and (pu_not (pu_isIntB B (pu_var 0 rfl))) fun _ => pu_one (pu_chain op_le op_le d_B0 d_B0 (pu_var 1 rfl) (pu_var 0 rfl) (pu_var 2 rfl))) ?_
  simp
def r_name (ds : List D) (d : D) : Prop := ∃ z : Str, ds = [.str z] ∧ Nm z ∧ d = .bl true
theorem str_len (z : Str) : z.cps.toList.length = z.length := by unfold Str.length; rw [Array.length_toList]
theorem ok_is_name (B : Bf mg) {f : Addr} {fd : FuncData} (F : Fun K "is_name" "is_name" s_is_name f fd) : FnOk P w K mg base CX0 1 f fd ["thing"] (spP r_name) := by
  refine fun_pu F (N := ["thing", "letter"]) (C8.fnScope_by (by decide +kernel)) (fun ds d ⟨z, e, _⟩ => by rw [e]; rfl) fun cdv A outer s H E ds d hr ⟨z, e, hz, ed⟩ => ?_
  subst e ed
  have hN : (["thing", "letter"] : List Str).Nodup := by decide
  have hl : z.cps.toList.length ≤ 1000 := by rw [str_len]; have := hz.hi; omega
  have h1 : (1 : Int) ≤ (z.length : Int) := by have := hz.lo; omega
  have h8 : (z.length : Int) ≤ 8 := by have := hz.hi; omega
  have hc : (decide ((1 : Int) ≤ (z.length : Int)) && decide ((z.length : Int) ≤ 8)) = true := by simp [h1, h8]
  refine ab_ifF ((pw_or' (pt_nt (pu_isStr B (pu_var 0 rfl))) fun _ => pw_or1' (pt_not' (pt_chain' op_le op_le d_B0 d_B0 pu_int (pu_lenS B.len (pu_var 0 rfl) (by have := hz.hi; omega)) pu_int))).pt.is (by rw [hc]; rfl)) ?_
  refine ab_ret (pu_all B.all (bs := z.cps.toList.map fun _ => true) ((nu_mapN [("letter", 1)] 1 z.cps.toList (fun c => D.str ⟨#[c]⟩) (fun _ => D.bl true) (pi_strD (pu_var 0 rfl)) (fun c hc s H C cl fp => (pu_cmp op_in_sign d_inS (pu_var 1 rfl) (pu_globS B.letters)).is ?_)).pu.is ?_)) ?_
  · have := hz.al c hc
    simp only [letters] at this
    simp [this]
  · rw [List.map_map]; rfl
  · simp
def r_row (ds : List D) (d : D) : Prop := ∃ p : Str × Str, ds = [En.e p] ∧ Nm p.1 ∧ Nm p.2 ∧ d = .bl true
/-- so many levels of calls are free -/
abbrev CalP (P : Program) (w : World) (K : PySem.W.Frag) (mg : Str → Option Value) (base : Heap) (k : Nat) (x : Str) (R : List D → D → Prop) : Prop := Cal P w K mg base CX0 k x (spP R)
theorem ok_is_sort_row (B : Bf mg) (c1 : CalP P w K mg base 1 "is_name" r_name) {f : Addr} {fd : FuncData} (F : Fun K "is_sort_row" "is_sort_row" s_is_sort_row f fd) : FnOk P w K mg base CX0 2 f fd ["thing"] (spP r_row) := by
  refine fun_pu F (N := ["thing"]) (C8.fnScope_by (by decide +kernel)) (fun ds d ⟨z, e, _⟩ => by rw [e]; rfl) fun cdv A outer s H E ds d hr ⟨z, e, h1, h2, ed⟩ => ?_
  subst e ed
  refine ab_ret (pu_and (pu_isTup B (pu_var 0 rfl)) fun _ => pu_and (pu_eqI hr (pu_lenT B.len (pu_var 0 rfl)) pu_int) fun _ => pu_and (pu_call c1 hr ⟨_, rfl, h1, rfl⟩ (pas_cons (pu_ixT (k := 0) (pu_var 0 rfl) pu_int rfl) pas_nil)) fun _ =>
    pu_one (pu_call c1 hr ⟨_, rfl, h2, rfl⟩ (pas_cons (pu_ixT (k := 1) (pu_var 0 rfl) pu_int rfl) pas_nil))) ?_
  simp
def r_sorts (ds : List D) (d : D) : Prop := ∃ so : Srts, ds = [sosD so] ∧ VSo so ∧ d = .bl true
theorem ok_are_sorts (B : Bf mg) (c1 : CalP P w K mg base 2 "is_sort_row" r_row) {f : Addr} {fd : FuncData} (F : Fun K "are_sorts" "are_sorts" s_are_sorts f fd) : FnOk P w K mg base CX0 3 f fd ["thing"] (spP r_sorts) := by
  refine fun_pu F (N := ["thing", "row", "sort", "partner"]) (C8.fnScope_by (by decide +kernel)) (fun ds d ⟨z, e, _⟩ => by rw [e]; rfl) fun cdv A outer s H E ds d hr ⟨so, e, hv, ed⟩ => ?_
  subst e ed
  have hN : (["thing", "row", "sort", "partner"] : List Str).Nodup := by decide
  have h1 := hv.l1
  have h3 := hv.l3
  have hl : so.length ≤ 1000 := by omega
  have hl2 : (so.map En.e).length = so.length := List.length_map ..
  have hc : (decide ((1 : Int) ≤ ((so.map En.e).length : Int)) && decide (((so.map En.e).length : Int) ≤ 3)) = true := by rw [hl2]; simp; omega
  refine ab_ifF ((pw_or' (pt_nt (pu_isLst B (pu_var 0 rfl))) fun _ => pw_or' (pt_not' (pt_chain' op_le op_le d_B0 d_B0 pu_int (pu_lenL B.len (pu_var 0 rfl)) pu_int)) fun _ => pw_or1' (pt_nt (pu_allT (xs := so) B.all (nu_mapN [("row", 1)] 1 so En.e (fun _ => D.bl true) (pi_lst (pu_var 0 rfl)) fun p hp s H C cl fp => pu_call c1 hr ⟨p, rfl, (hv.nm p hp).1, (hv.nm p hp).2, rfl⟩ (pas_cons (pu_var 1 rfl) pas_nil))))).pt.is (by rw [hc]; rfl)) ?_
  refine ab_ifF ((pt_lt (pu_lenSetS (ns := so.map (·.1)) B.len B.set ((nu_map2 [("sort", 2), ("partner", 3)] 2 3 so (fun p => .str p.1) (fun p => .str p.2) (fun p => .str p.1) (pi_lst (pu_var 0 rfl)) fun p hp s H C cl fp => pu_var 2 rfl).pu.is (by rw [List.map_map]; rfl)) (by rw [List.length_map]; exact hl)) (pu_lenL B.len (pu_var 0 rfl))).is ?_) ?_
  · rw [dst_nodup hv.nd, List.length_map, List.length_map]; simp
  refine ab_ret (pu_allT (xs := so) B.all (nu_map2 [("sort", 2), ("partner", 3)] 2 3 so (fun p => .str p.1) (fun p => .str p.2) (fun _ => .bl true) (pi_lst (pu_var 0 rfl)) fun p hp s H C cl fp => (pu_inT (p.2, p.1) so hr (pu_tup (pas_cons (pu_var 3 rfl) (pas_cons (pu_var 2 rfl) pas_nil))) (pu_var 0 rfl)).is ?_)) rfl
  exact bl_true (hv.sy p hp)
def r_krow (ds : List D) (d : D) : Prop := ∃ (so : Srts) (q : Str × Tup Str), ds = [En.e q, .lst ((so.map (·.1)).map En.e)] ∧ so.length ≤ 3 ∧ VKd so q ∧ d = .bl true
theorem ok_is_kind_row (B : Bf mg) (c1 : CalP P w K mg base 1 "is_name" r_name) {f : Addr} {fd : FuncData} (F : Fun K "is_kind_row" "is_kind_row" s_is_kind_row f fd) : FnOk P w K mg base CX0 2 f fd ["thing", "sorts"] (spP r_krow) := by
  refine fun_pu F (N := ["thing", "sorts", "ends", "sort"]) (C8.fnScope_by (by decide +kernel)) (fun ds d ⟨z, _, e, _⟩ => by rw [e]; rfl) fun cdv A outer s H E ds d hr ⟨so, q, e, h3, hv, ed⟩ => ?_
  subst e ed
  have hN : (["thing", "sorts", "ends", "sort"] : List Str).Nodup := by decide
  have l1 := hv.l1
  have l5 := hv.l5
  have hl : q.2.items.length ≤ 1000 := by omega
  have hl2 : (q.2.items.map En.e).length = q.2.items.length := List.length_map ..
  have hc : (decide ((1 : Int) ≤ ((q.2.items.map En.e).length : Int)) && decide (((q.2.items.map En.e).length : Int) ≤ 5)) = true := by rw [hl2]; simp; omega
  refine ab_ifF ((pw_or' (pt_nt (pu_isTup B (pu_var 0 rfl))) fun _ => pw_or' (pt_neI hr (pu_lenT B.len (pu_var 0 rfl)) pu_int) fun _ => pw_or1' (pt_nt (pu_call c1 hr ⟨_, rfl, hv.nm, rfl⟩ (pas_cons (pu_ixT (k := 0) (pu_var 0 rfl) pu_int rfl) pas_nil)))).pt.is (by rfl)) ?_
  refine ab_set 2 (pu_ixT (k := 1) (pu_var 0 rfl) pu_int rfl) ?_ hN
  refine ab_ifF ((pw_or' (pt_nt (pu_isTup (ds := q.2.items.map En.e) B (pu_var 2 rfl))) fun _ => pw_or' (pt_not' (pt_chain' op_le op_le d_B0 d_B0 pu_int (pu_lenT (ds := q.2.items.map En.e) B.len (pu_var 2 rfl)) pu_int)) fun _ => pw_or1' (pt_nt (pu_allT (xs := q.2.items) B.all (nu_mapN [("sort", 3)] 3 q.2.items En.e (fun _ => D.bl true) (pi_tupl (pu_var 2 rfl)) fun z hz s H C cl fp => pu_call c1 hr ⟨z, rfl, (hv.mem z hz).1, rfl⟩ (pas_cons (pu_var 3 rfl) pas_nil))))).pt.is (by rw [hc]; rfl)) ?_
  refine ab_ret (pu_and (pu_allT (xs := q.2.items) B.all (nu_mapN [("sort", 3)] 3 q.2.items En.e (fun _ => D.bl true) (pi_tupl (pu_var 2 rfl)) fun z hz s H C cl fp => (pu_inT z (so.map (·.1)) hr (pu_var 3 rfl) (pu_var 1 rfl)).is (bl_true (hv.mem z hz).2))) fun _ => pu_one (pu_eqT q.2.items (sortT q.2.items) hr (nu_listT B.list (pu_var 2 rfl)).pu (nu_sortedU hr B.sorted (pu_var 2 rfl)).pu)) ?_
  rw [hv.srt]; simp
end
end R87
namespace R87
open PySem PySem.Spec PyProof.Rows L2
open PySem.W (Tup T4 T3)
section
variable {P : Program} {w : World} {K : PySem.W.Frag} {mg : Str → Option Value} {base : Heap}
def r_kinds (ds : List D) (d : D) : Prop := ∃ (so : Srts) (kd : Knds), ds = [kdsD kd, .lst ((so.map (·.1)).map En.e)] ∧ so.length ≤ 3 ∧ VKs so kd ∧ d = .bl true
theorem ok_are_kinds (B : Bf mg) (c1 : CalP P w K mg base 2 "is_kind_row" r_krow) {f : Addr} {fd : FuncData} (F : Fun K "are_kinds" "are_kinds" s_are_kinds f fd) : FnOk P w K mg base CX0 3 f fd ["thing", "sorts"] (spP r_kinds) := by
  refine fun_pu F (N := ["thing", "sorts", "row", "name", "ends"]) (C8.fnScope_by (by decide +kernel)) (fun ds d ⟨z, _, e, _⟩ => by rw [e]; rfl) fun cdv A outer s H E ds d hr ⟨so, kd, e, h3, hv, ed⟩ => ?_
  subst e ed
  have hN : (["thing", "sorts", "row", "name", "ends"] : List Str).Nodup := by decide
  have h1 := hv.l1
  have h4 := hv.l4
  have hl : kd.length ≤ 1000 := by omega
  have hl2 : (kd.map En.e).length = kd.length := List.length_map ..
  have hc : (decide ((1 : Int) ≤ ((kd.map En.e).length : Int)) && decide (((kd.map En.e).length : Int) ≤ 4)) = true := by rw [hl2]; simp; omega
  refine ab_ifF ((pw_or' (pt_nt (pu_isLst B (pu_var 0 rfl))) fun _ => pw_or1' (pt_not' (pt_chain' op_le op_le d_B0 d_B0 pu_int (pu_lenL B.len (pu_var 0 rfl)) pu_int))).pt.is (by rw [hc]; rfl)) ?_
  refine ab_ifF (pt_nt (pu_allT (xs := kd) B.all (nu_mapN [("row", 2)] 2 kd En.e (fun _ => D.bl true) (pi_lst (pu_var 0 rfl)) fun q hq s H C cl fp => pu_call c1 hr ⟨so, q, rfl, h3, hv.nm q hq, rfl⟩ (pas_cons (pu_var 2 rfl) (pas_cons (pu_var 1 rfl) pas_nil))))) ?_
  refine ab_ret (pu_eqI hr (pu_lenSetS (ns := kd.map (·.1)) B.len B.set ((nu_map2 [("name", 3), ("ends", 4)] 3 4 kd (fun q => .str q.1) (fun q => En.e q.2) (fun q => .str q.1) (pi_lst (pu_var 0 rfl)) fun q hq s H C cl fp => pu_var 3 rfl).pu.is (by rw [List.map_map]; rfl)) (by rw [List.length_map]; exact hl)) (pu_lenL B.len (pu_var 0 rfl))) ?_
  rw [dst_nodup hv.nd, List.length_map, List.length_map]
  exact bl_true rfl
structure StF (K : PySem.W.Frag) (C : Addr) : Prop where
  cl : Cls K C
  sorts : NoAttr K C "sorts"
  kinds : NoAttr K C "kinds"
def ri_stock (ds : List D) (fl : List (Str × D)) : Prop := ∃ (so : Srts) (kd : Knds), ds = [sosD so, kdsD kd] ∧ VSo so ∧ VKs so kd ∧ fl = [(("sorts" : Str), sosD so), (("kinds" : Str), kdsD kd)]
theorem ok_Stock_init (B : Bf mg) {C : Addr} (S : StF K C) (c1 : CalP P w K mg base 3 "are_sorts" r_sorts) (c2 : CalP P w K mg base 3 "are_kinds" r_kinds) {f : Addr} {fd : FuncData} (F : Fun K "__init__" "Stock.__init__" s_Stock_init f fd) :
    FnOk P w K mg base CX0 4 f fd ["self", "sorts", "kinds"] (spI C ri_stock) := by
  refine fun_init F (N := ["self", "sorts", "kinds", "sort", "partner"]) (C8.fnScope_by (by decide +kernel)) (fun ds d ⟨z, _, e, _⟩ => by rw [e]; rfl) fun cdv A outer s H E x dx us G ds fl hr ⟨so, kd, e, hv, hk, ed⟩ ok hx gx Dn fin => ?_
  subst e ed
  have hN : (["self", "sorts", "kinds", "sort", "partner"] : List Str).Nodup := by decide
  have h3 := hv.l3
  have hl : so.length ≤ 1000 := by omega
  refine wb_ifF ok (pt_nt (t := true) (pu_call c1 hr ⟨so, rfl, hv, rfl⟩ (pas_cons (pu_var 1 rfl) pas_nil))) fun G1 H1 g1 => ?_
  have ok1 := ok.gr g1
  refine wb_ifF ok1 (pt_nt (t := true) (pu_call c2 hr ⟨so, kd, rfl, h3, hk, rfl⟩ (pas_cons (pu_var 2 rfl) (pas_cons ((nu_map2 [("sort", 3), ("partner", 4)] 3 4 so (fun p => .str p.1) (fun p => .str p.2) (fun p => .str p.1) (pi_lst (pu_var 1 rfl)) fun p hp s H C cl fp => pu_var 3 rfl).pu.is (by rw [List.map_map]; rfl)) pas_nil)))) fun G2 H2 g2 => ?_
  have ok2 := ok1.gr g2
  have hx2 : H2 x = some (.ins C dx []) := g2.ex _ _ (g1.ex _ _ hx)
  have gx2 : G2 x = none := (g1.trans g2).fr x gx (by rw [hx]; exact fun z => by cases z)
  refine wb_fld 0 ok2 (nu_listL B.list (pu_var 1 rfl)).pu rfl hx2 gx2 S.cl S.sorts (by decide) fun v1 G3 H3 g3 r3 h3 gx3 => ?_
  have ok3 := ok2.grp pls_entI g3
  refine wb_fld 0 ok3 (nu_listL B.list (pu_var 2 rfl)).pu rfl h3 gx3 S.cl S.kinds (show 1 < 1000 by decide) (fun v2 G4 H4 g4 r4 h4 gx4 => ?_)
  refine Wb.of pss_nil (fin _ _ G4 H4 ((((g1.trans g2).any.trans g3)).trans g4) h4 (.cons (r3.ex g4.gg) (.cons r4 .nil)) gx4)
abbrev sKv (so : Srts) : List (L2.Key × D) := so.map fun p => (.inr p.1, .str p.2)
abbrev kKv (kd : Knds) : List (L2.Key × D) := kd.map fun q => (.inr q.1, En.e q.2)
theorem sKv_pairs (so : Srts) : so.map En.e = (sKv so).map pairD := by rw [List.map_map]; rfl
theorem kKv_pairs (kd : Knds) : kd.map En.e = (kKv kd).map pairD := by rw [List.map_map]; rfl
theorem sKv_some {so : Srts} {p : Str × Str} (nd : (so.map (·.1)).Nodup) (h : p ∈ so) : valD (mergeD (sKv so)) (.inr p.1) = some (.str p.2) := by
  refine val_merge_some (List.mem_map.2 ⟨p, h, rfl⟩) fun d' hd => ?_
  obtain ⟨q, hq, e⟩ := List.mem_map.1 hd
  have e1 : q.1 = p.1 := by injection e with e1 e2; injection e1
  have e2 : D.str q.2 = d' := by injection e
  have : q = p := by
    clear hd e
    induction so with
    | nil => cases h
    | cons a so ih =>
      rw [List.map_cons, List.nodup_cons] at nd
      rcases List.mem_cons.1 hq with a1 | a1
      · rcases List.mem_cons.1 h with a2 | a2
        · rw [a1, a2]
        · exact absurd (List.mem_map.2 ⟨p, a2, by rw [← e1, a1]⟩) nd.1
      · rcases List.mem_cons.1 h with a2 | a2
        · exact absurd (List.mem_map.2 ⟨q, a1, by rw [e1, a2]⟩) nd.1
        · exact ih nd.2 a2 a1
  rw [← e2, this]
theorem kKv_some {kd : Knds} {p : Str × Tup Str} (nd : (kd.map (·.1)).Nodup) (h : p ∈ kd) : valD (mergeD (kKv kd)) (.inr p.1) = some (En.e p.2) := by
  refine val_merge_some (List.mem_map.2 ⟨p, h, rfl⟩) fun d' hd => ?_
  obtain ⟨q, hq, e⟩ := List.mem_map.1 hd
  have e1 : q.1 = p.1 := by injection e with e1 e2; injection e1
  have e2 : En.e q.2 = d' := by injection e
  have : q = p := by
    clear hd e
    induction kd with
    | nil => cases h
    | cons a so ih =>
      rw [List.map_cons, List.nodup_cons] at nd
      rcases List.mem_cons.1 hq with a1 | a1
      · rcases List.mem_cons.1 h with a2 | a2
        · rw [a1, a2]
        · exact absurd (List.mem_map.2 ⟨p, a2, by rw [← e1, a1]⟩) nd.1
      · rcases List.mem_cons.1 h with a2 | a2
        · exact absurd (List.mem_map.2 ⟨q, a1, by rw [e1, a2]⟩) nd.1
        · exact ih nd.2 a2 a1
  rw [← e2, this]
def r_is_sort (C : Addr) (ds : List D) (d : D) : Prop := ∃ (so : Srts) (kd : Knds) (p : Str × Str), ds = [stD C so kd, .str p.1] ∧ (so.map (·.1)).Nodup ∧ p ∈ so ∧ d = .bl true
theorem ok_is_sort (B : Bf mg) {C : Addr} (S : StF K C) {f : Addr} {fd : FuncData} (F : Fun K "is_sort" "is_sort" s_is_sort f fd) : FnOk P w K mg base CX0 1 f fd ["stock", "thing"] (spP (r_is_sort C)) := by
  refine fun_pu F (N := ["stock", "thing"]) (C8.fnScope_by (by decide +kernel)) (fun ds d ⟨z, _, _, e, _⟩ => by rw [e]; rfl) fun cdv A outer s H E ds d hr ⟨so, kd, p, e, nd, hp, ed⟩ => ?_
  subst e ed
  refine ab_ret (pu_and (pu_isStr B (pu_var 1 rfl)) fun _ => pu_one (pu_inD (k := .inr p.1) hr (pu_var 1 rfl) (pu_dictL (kvs := sKv so) B.dict (((pu_fld S.cl S.sorts (pu_var 0 rfl) rfl).is (congrArg D.lst (sKv_pairs so))))))) ?_
  rw [sKv_some nd hp]; rfl
def r_is_kind (C : Addr) (ds : List D) (d : D) : Prop := ∃ (so : Srts) (kd : Knds) (p : Str × Tup Str), ds = [stD C so kd, .str p.1] ∧ (kd.map (·.1)).Nodup ∧ p ∈ kd ∧ d = .bl true
theorem ok_is_kind (B : Bf mg) {C : Addr} (S : StF K C) {f : Addr} {fd : FuncData} (F : Fun K "is_kind" "is_kind" s_is_kind f fd) : FnOk P w K mg base CX0 1 f fd ["stock", "thing"] (spP (r_is_kind C)) := by
  refine fun_pu F (N := ["stock", "thing"]) (C8.fnScope_by (by decide +kernel)) (fun ds d ⟨z, _, _, e, _⟩ => by rw [e]; rfl) fun cdv A outer s H E ds d hr ⟨so, kd, p, e, nd, hp, ed⟩ => ?_
  subst e ed
  refine ab_ret (pu_and (pu_isStr B (pu_var 1 rfl)) fun _ => pu_one (pu_inD (k := .inr p.1) hr (pu_var 1 rfl) (pu_dictL (kvs := kKv kd) B.dict (((pu_fld S.cl S.kinds (pu_var 0 rfl) rfl).is (congrArg D.lst (kKv_pairs kd))))))) ?_
  rw [kKv_some nd hp]; rfl
def r_partner (C : Addr) (ds : List D) (d : D) : Prop := ∃ (so : Srts) (kd : Knds) (p : Str × Str), ds = [stD C so kd, .str p.1] ∧ (so.map (·.1)).Nodup ∧ p ∈ so ∧ d = .str p.2
theorem ok_partner_of (B : Bf mg) {C : Addr} (S : StF K C) {f : Addr} {fd : FuncData} (F : Fun K "partner_of" "partner_of" s_partner_of f fd) : FnOk P w K mg base CX0 1 f fd ["stock", "sort"] (spP (r_partner C)) := by
  refine fun_pu F (N := ["stock", "sort"]) (C8.fnScope_by (by decide +kernel)) (fun ds d ⟨z, _, _, e, _⟩ => by rw [e]; rfl) fun cdv A outer s H E ds d hr ⟨so, kd, p, e, nd, hp, ed⟩ => ?_
  subst e ed
  exact ab_ret (pu_dget (k := .inr p.1) hr (pu_dictL (kvs := sKv so) B.dict (((pu_fld S.cl S.sorts (pu_var 0 rfl) rfl).is (congrArg D.lst (sKv_pairs so))))) (pu_var 1 rfl) (sKv_some nd hp)) rfl
def r_ends_of (C : Addr) (ds : List D) (d : D) : Prop := ∃ (so : Srts) (kd : Knds) (p : Str × Tup Str), ds = [stD C so kd, .str p.1] ∧ (kd.map (·.1)).Nodup ∧ p ∈ kd ∧ d = En.e p.2
theorem ok_ends_of (B : Bf mg) {C : Addr} (S : StF K C) {f : Addr} {fd : FuncData} (F : Fun K "ends_of" "ends_of" s_ends_of f fd) : FnOk P w K mg base CX0 1 f fd ["stock", "kind"] (spP (r_ends_of C)) := by
  refine fun_pu F (N := ["stock", "kind"]) (C8.fnScope_by (by decide +kernel)) (fun ds d ⟨z, _, _, e, _⟩ => by rw [e]; rfl) fun cdv A outer s H E ds d hr ⟨so, kd, p, e, nd, hp, ed⟩ => ?_
  subst e ed
  exact ab_ret (pu_dget (k := .inr p.1) hr (pu_dictL (kvs := kKv kd) B.dict (((pu_fld S.cl S.kinds (pu_var 0 rfl) rfl).is (congrArg D.lst (kKv_pairs kd))))) (pu_var 1 rfl) (kKv_some nd hp)) rfl
end
end R87
namespace R87
open PySem PySem.Spec PyProof.Rows L2
open PySem.W (Tup T4 T3 DatumOrd)
abbrev Jn := T4 Nat Str Nat Str
abbrev Lgs := List (Str × Str)
abbrev En2 := Nat × Str
structure VC (kd : Knds) (cs : List Str) : Prop where
  l6 : cs.length ≤ 6
  mem : ∀ k ∈ cs, k ∈ kd.map (·.1)
structure VL (so : Srts) (ls : Lgs) : Prop where
  l6 : ls.length ≤ 6
  mem : ∀ l ∈ ls, Nm l.1 ∧ l.2 ∈ so.map (·.1)
  srt : sortT ls = ls
  nd : (ls.map (·.1)).Nodup
def endsK (kd : Knds) (k : Str) : List Str := ((kd.lookup k).map (·.items)).getD []
def endsF (kd : Knds) (cs : List Str) (ls : Lgs) : List En2 := (cs.zipIdx.flatMap fun p => (endsK kd p.1).map fun s => (p.2, s)) ++ ls.zipIdx.map fun p => (cs.length + p.2, p.1.2)
abbrev lo (j : Jn) : En2 := (j.a, j.b)
abbrev hi (j : Jn) : En2 := (j.c, j.d)
structure VJ1 (so : Srts) (j : Jn) : Prop where
  a : j.a ≤ 12
  c : j.c ≤ 12
  le : DatumOrd.lt (hi j) (lo j) = false
  p : (j.b, j.d) ∈ so
structure VJ (so : Srts) (kd : Knds) (cs : List Str) (ls : Lgs) (js : List Jn) : Prop where
  j : ∀ j ∈ js, VJ1 so j
  srt : sortT js = js
  ends : sortT (js.flatMap fun j => [lo j, hi j]) = sortT (endsF kd cs ls)
abbrev csD (cs : List Str) : D := .lst (cs.map En.e)
abbrev lgD (ls : Lgs) : D := .lst (ls.map En.e)
abbrev jsD (js : List Jn) : D := .lst (js.map En.e)
theorem lookup_mem {α : Type} {kd : List (Str × α)} {p : Str × α} (nd : (kd.map (·.1)).Nodup) (h : p ∈ kd) : kd.lookup p.1 = some p.2 := by
  induction kd with
  | nil => cases h
  | cons a kd ih =>
    rw [List.map_cons, List.nodup_cons] at nd
    rcases List.mem_cons.1 h with e | m
    · subst e
      obtain ⟨x, y⟩ := p
      simp [List.lookup]
    · have ne : p.1 ≠ a.1 := fun e => nd.1 (List.mem_map.2 ⟨p, m, e⟩)
      obtain ⟨x, y⟩ := a
      have : (p.1 == x) = false := beq_eq_false_iff_ne.2 ne
      simp only [List.lookup, this]
      exact ih nd.2 m
theorem endsK_mem {kd : Knds} {p : Str × Tup Str} (nd : (kd.map (·.1)).Nodup) (h : p ∈ kd) : endsK kd p.1 = p.2.items := by
  unfold endsK
  rw [lookup_mem nd h]; rfl
theorem take_flat {α β : Type} {xs : List α} {i : Nat} {x : α} (f : α → List β) (h : xs[i]? = some x) : (xs.take (i + 1)).flatMap f = (xs.take i).flatMap f ++ f x := by
  rw [List.take_add_one, h]; simp
theorem take_mapS {α β : Type} {xs : List α} {i : Nat} {x : α} (f : α → β) (h : xs[i]? = some x) : (xs.take (i + 1)).map f = (xs.take i).map f ++ [f x] := by
  rw [List.take_add_one, h]; simp
theorem flat_len {α β : Type} {xs : List α} {f : α → List β} {n : Nat} (h : ∀ x ∈ xs, (f x).length ≤ n) : (xs.flatMap f).length ≤ xs.length * n := by
  induction xs with
  | nil => simp
  | cons x xs ih =>
    rw [List.flatMap_cons, List.length_append, List.length_cons, Nat.succ_mul]
    have := h x (.head _)
    have := ih fun y hy => h y (.tail _ hy)
    omega
theorem mem_zip {α : Type} {xs : List α} {p : α × Nat} (h : p ∈ xs.zipIdx) : p.1 ∈ xs := by
  obtain ⟨i, hi⟩ := List.mem_iff_getElem?.1 h
  rw [List.getElem?_zipIdx] at hi
  obtain ⟨x, hx, e⟩ := Option.map_eq_some_iff.1 hi
  rw [← e]
  exact List.mem_of_getElem? hx
theorem zip_at {α : Type} {xs : List α} {i : Nat} {x : α} (h : xs[i]? = some x) : xs.zipIdx[i]? = some (x, i) := by rw [List.getElem?_zipIdx, h]; simp
section
variable {P : Program} {w : World} {K : PySem.W.Frag} {mg : Str → Option Value} {base : Heap}
/-- the stock of a drawing stands -/
structure VS (so : Srts) (kd : Knds) : Prop where
  s : VSo so
  k : VKs so kd
theorem endsK_len {so : Srts} {kd : Knds} (V : VS so kd) {k : Str} : (endsK kd k).length ≤ 5 := by
  unfold endsK
  cases h : kd.lookup k with
  | none => simp
  | some es =>
    have : (k, es) ∈ kd := by
      clear V
      induction kd with
      | nil => cases h
      | cons a kd ih =>
        obtain ⟨x, y⟩ := a
        by_cases e : k = x
        · subst e
          simp [List.lookup] at h
          rw [h]; exact .head _
        · have : (k == x) = false := beq_eq_false_iff_ne.2 e
          simp only [List.lookup, this] at h
          exact .tail _ (ih h)
    exact (V.k.nm _ this).l5
def r_corners (C : Addr) (ds : List D) (d : D) : Prop := ∃ (so : Srts) (kd : Knds) (cs : List Str), ds = [stD C so kd, csD cs] ∧ VS so kd ∧ VC kd cs ∧ d = .bl true
theorem ok_are_corners (B : Bf mg) {C : Addr} (c1 : CalP P w K mg base 1 "is_kind" (r_is_kind C)) {f : Addr} {fd : FuncData} (F : Fun K "are_corners" "are_corners" s_are_corners f fd) : FnOk P w K mg base CX0 2 f fd ["stock", "thing"] (spP (r_corners C)) := by
  refine fun_pu F (N := ["stock", "thing", "kind"]) (C8.fnScope_by (by decide +kernel)) (fun ds d ⟨z, _, _, e, _⟩ => by rw [e]; rfl) fun cdv A outer s H E ds d hr ⟨so, kd, cs, e, V, hc, ed⟩ => ?_
  subst e ed
  have hN : (["stock", "thing", "kind"] : List Str).Nodup := by decide
  have l6 := hc.l6
  have hl : cs.length ≤ 1000 := by omega
  refine ab_ret (pu_and (pu_isLst B (pu_var 1 rfl)) fun _ => pu_and (pu_le (pu_lenL B.len (pu_var 1 rfl)) (pu_globI B.most)) fun _ => pu_one (pu_allT (xs := cs) B.all (nu_mapN [("kind", 2)] 2 cs En.e (fun _ => D.bl true) (pi_lst (pu_var 1 rfl)) fun k hk s H C' cl fp => ?_))) ?_
  · obtain ⟨p, hp, e⟩ := List.mem_map.1 (hc.mem k hk)
    exact pu_call c1 hr ⟨so, kd, p, rfl, V.k.nd, hp, rfl⟩ (pas_cons (pu_var 0 rfl) (pas_cons ((pu_var 2 rfl).is (by show D.str k = D.str p.1; rw [← e])) pas_nil))
  · rw [List.length_map]; simp; omega
def r_leg (C : Addr) (ds : List D) (d : D) : Prop := ∃ (so : Srts) (kd : Knds) (l : Str × Str), ds = [stD C so kd, En.e l] ∧ VS so kd ∧ Nm l.1 ∧ l.2 ∈ so.map (·.1) ∧ d = .bl true
theorem ok_is_leg (B : Bf mg) {C : Addr} (c1 : CalP P w K mg base 1 "is_name" r_name) (c2 : CalP P w K mg base 1 "is_sort" (r_is_sort C)) {f : Addr} {fd : FuncData} (F : Fun K "is_leg" "is_leg" s_is_leg f fd) : FnOk P w K mg base CX0 2 f fd ["stock", "thing"] (spP (r_leg C)) := by
  refine fun_pu F (N := ["stock", "thing"]) (C8.fnScope_by (by decide +kernel)) (fun ds d ⟨z, _, _, e, _⟩ => by rw [e]; rfl) fun cdv A outer s H E ds d hr ⟨so, kd, l, e, V, h1, h2, ed⟩ => ?_
  subst e ed
  obtain ⟨p, hp, e⟩ := List.mem_map.1 h2
  refine ab_ret (pu_and (pu_isTup B (pu_var 1 rfl)) fun _ => pu_and (pu_eqI hr (pu_lenT B.len (pu_var 1 rfl)) pu_int) fun _ => pu_and (pu_call c1 hr ⟨l.1, rfl, h1, rfl⟩ (pas_cons (pu_ixT (k := 0) (pu_var 1 rfl) pu_int rfl) pas_nil)) fun _ => pu_one (pu_call c2 hr ⟨so, kd, p, rfl, V.s.nd, hp, rfl⟩ (pas_cons (pu_var 0 rfl) (pas_cons ((pu_ixT (k := 1) (pu_var 1 rfl) pu_int rfl).is (by show D.str l.2 = D.str p.1; rw [← e])) pas_nil)))) ?_
  simp
def r_legs (C : Addr) (ds : List D) (d : D) : Prop := ∃ (so : Srts) (kd : Knds) (ls : Lgs), ds = [stD C so kd, lgD ls] ∧ VS so kd ∧ VL so ls ∧ d = .bl true
theorem ok_are_legs (B : Bf mg) {C : Addr} (c1 : CalP P w K mg base 2 "is_leg" (r_leg C)) {f : Addr} {fd : FuncData} (F : Fun K "are_legs" "are_legs" s_are_legs f fd) : FnOk P w K mg base CX0 3 f fd ["stock", "thing"] (spP (r_legs C)) := by
  refine fun_pu F (N := ["stock", "thing", "leg", "name", "sort"]) (C8.fnScope_by (by decide +kernel)) (fun ds d ⟨z, _, _, e, _⟩ => by rw [e]; rfl) fun cdv A outer s H E ds d hr ⟨so, kd, ls, e, V, hv, ed⟩ => ?_
  subst e ed
  have hN : (["stock", "thing", "leg", "name", "sort"] : List Str).Nodup := by decide
  have l6 := hv.l6
  have hl : ls.length ≤ 1000 := by omega
  have hl2 : (ls.map En.e).length = ls.length := List.length_map ..
  have hc : decide ((6 : Int) < ((ls.map En.e).length : Int)) = false := by rw [hl2]; simp; omega
  refine ab_ifF ((pw_or' (pt_nt (pu_isLst B (pu_var 1 rfl))) fun _ => pw_or' (pt_gt (pu_lenL B.len (pu_var 1 rfl)) (pu_globI B.most)) fun _ => pw_or1' (pt_nt (pu_allT (xs := ls) B.all (nu_mapN [("leg", 2)] 2 ls En.e (fun _ => D.bl true) (pi_lst (pu_var 1 rfl)) fun l h s H C' cl fp => pu_call c1 hr ⟨so, kd, l, rfl, V, (hv.mem l h).1, (hv.mem l h).2, rfl⟩ (pas_cons (pu_var 0 rfl) (pas_cons (pu_var 2 rfl) pas_nil)))))).pt.is (by rw [hc]; rfl)) ?_
  refine ab_ret (pu_and (pu_eqT ls (sortT ls) hr (pu_var 1 rfl) (nu_sorted hr B.sorted (pu_var 1 rfl)).pu) fun _ => pu_one (pu_eqI hr (pu_lenSetS (ns := ls.map (·.1)) B.len B.set ((nu_map2 [("name", 3), ("sort", 4)] 3 4 ls (fun q => .str q.1) (fun q => .str q.2) (fun q => .str q.1) (pi_lst (pu_var 1 rfl)) fun q hq s H C cl fp => pu_var 3 rfl).pu.is (by rw [List.map_map]; rfl)) (by rw [List.length_map]; exact hl)) (pu_lenL B.len (pu_var 1 rfl)))) ?_
  rw [hv.srt, dst_nodup hv.nd, List.length_map, List.length_map]
  simp
def r_sure (C : Addr) (ds : List D) (d : D) : Prop := ∃ (so : Srts) (kd : Knds) (cs : List Str) (ls : Lgs), ds = [stD C so kd, csD cs, lgD ls] ∧ VS so kd ∧ VC kd cs ∧ VL so ls ∧ d = .non
theorem ok_sure_corners {C : Addr} (c1 : CalP P w K mg base 2 "are_corners" (r_corners C)) (c2 : CalP P w K mg base 3 "are_legs" (r_legs C)) {f : Addr} {fd : FuncData} (F : Fun K "sure_corners" "sure_corners" s_sure_corners f fd) : FnOk P w K mg base CX0 4 f fd ["stock", "corners", "legs"] (spP (r_sure C)) := by
  refine fun_pu F (N := ["stock", "corners", "legs"]) (C8.fnScope_by (by decide +kernel)) (fun ds d ⟨_, _, _, _, e, _⟩ => by rw [e]; rfl) fun cdv A outer s H E ds d hr ⟨so, kd, cs, ls, e, V, hc, hl, ed⟩ => ?_
  subst e ed
  refine ab_ifF (pt_nt (t := true) (pu_call c1 hr ⟨so, kd, cs, rfl, V, hc, rfl⟩ (pas_cons (pu_var 0 rfl) (pas_cons (pu_var 1 rfl) pas_nil)))) ?_
  refine ab_ifF (pt_nt (t := true) (pu_call c2 hr ⟨so, kd, ls, rfl, V, hl, rfl⟩ (pas_cons (pu_var 0 rfl) (pas_cons (pu_var 2 rfl) pas_nil)))) ?_
  exact ab_nil rfl
def r_there (C : Addr) (ds : List D) (d : D) : Prop := ∃ (so : Srts) (kd : Knds) (cs : List Str) (ls : Lgs), ds = [stD C so kd, csD cs, lgD ls] ∧ VS so kd ∧ VC kd cs ∧ ls.length ≤ 6 ∧ d = .lst ((endsF kd cs ls).map En.e)
theorem ok_ends_there (B : Bf mg) {C : Addr} (c1 : CalP P w K mg base 1 "ends_of" (r_ends_of C)) {f : Addr} {fd : FuncData} (F : Fun K "ends_there" "ends_there" s_ends_there f fd) : FnOk P w K mg base CX0 2 f fd ["stock", "corners", "legs"] (spP (r_there C)) := by
  refine fun_pu F (N := ["stock", "corners", "legs", "found", "place", "kind", "sort", "number", "name"]) (C8.fnScope_by (by decide +kernel)) (fun ds d ⟨_, _, _, _, e, _⟩ => by rw [e]; rfl) fun cdv A outer s H E ds d hr ⟨so, kd, cs, ls, e, V, hc, hl, ed⟩ => ?_
  subst e ed
  have hN : (["stock", "corners", "legs", "found", "place", "kind", "sort", "number", "name"] : List Str).Nodup := by decide
  have l6 := hc.l6
  let F1 : List En2 := cs.zipIdx.flatMap fun p => (endsK kd p.1).map fun s => (p.2, s)
  let fa (i : Nat) : List En2 := (cs.zipIdx.take i).flatMap fun p => (endsK kd p.1).map fun s => (p.2, s)
  let fb (i : Nat) : List En2 := F1 ++ (ls.zipIdx.take i).map fun p => (cs.length + p.2, p.1.2)
  have lfa : ∀ i, (fa i).length ≤ 30 := fun i => by
    refine Nat.le_trans (flat_len (n := 5) fun p hp => ?_) ?_
    · rw [List.length_map]; exact endsK_len V
    · rw [List.length_take, List.length_zipIdx]
      have : min i cs.length ≤ 6 := Nat.le_trans (Nat.min_le_right _ _) l6
      omega
  have lF1 : F1.length ≤ 30 := by
    have := lfa cs.zipIdx.length
    simp only [fa, List.take_length] at this
    exact this
  refine ab_setO 3 (nu_lst pas_nil) ?_ hN
  refine ab_for (ds := enumD (cs.map En.e)) (fun i => [.sh (stD C so kd), .sh (csD cs), .sh (lgD ls), .ow ((fa i).map En.e), .no, .no, .no, .no, .no]) PassesOwn.never (pi_enumL B.enumerate (pu_var 1 rfl)) (Le.refl _) (fun i d hd => ?_) ?_
  · obtain ⟨x, hx, rfl⟩ := enumD_at hd
    rw [List.getElem?_map] at hx
    obtain ⟨k, hk, rfl⟩ := Option.map_eq_some_iff.1 hx
    refine ⟨_, _, tg_tup (tgs_cons (tg_name 4 hN) (tgs_cons (tg_name 5 hN) tgs_nil)), ?_⟩
    obtain ⟨p, hp, e⟩ := List.mem_map.1 (hc.mem k (List.mem_of_getElem? hk))
    have ek : endsK kd k = p.2.items := by rw [← e]; exact endsK_mem V.k.nd hp
    have lk := endsK_len V (k := k)
    refine ab_extend 3 rfl (nu_mapN [("sort", 6)] 6 (endsK kd k) En.e (fun s => En.e ((i, s) : En2)) (pi_tupl ((pu_call c1 hr ⟨so, kd, p, rfl, V.k.nd, hp, rfl⟩ (pas_cons (pu_var 0 rfl) (pas_cons ((pu_var 5 rfl).is (by show D.str k = D.str p.1; rw [← e])) pas_nil))).is (by rw [ek]; rfl))) (fun s hs s' H' C' cl fp => pu_tup (pas_cons (pu_var 4 rfl) (pas_cons (pu_var 6 rfl) pas_nil))) (hl := by omega) (hN := hN)) ?_ ?_
    · refine ab_nil ?_
      have e2 : (fa i).map En.e ++ ((endsK kd k).map fun s => En.e ((i, s) : En2)) = (fa (i + 1)).map En.e := by
        show _ = ((cs.zipIdx.take (i + 1)).flatMap _).map _
        rw [take_flat _ (zip_at hk), List.map_append, List.map_map]; rfl
      show Le [_, _, _, _, _, _, _, _, _] [_, _, _, Sl.ow ((fa i).map En.e ++ ((endsK kd k).map fun s => En.e ((i, s) : En2))), _, _, _, _, _]
      rw [e2]
      exact .eq (.eq (.eq (.eq (.no (.no (Le.refl _))))))
    · have := lfa i
      rw [List.length_map, List.length_map]; omega
  have e0 : (enumD (cs.map (En.e (α := Str)))).length = cs.zipIdx.length := by simp
  have e1 : fa (enumD (cs.map (En.e (α := Str)))).length = F1 := by rw [e0]; simp only [fa, List.take_length]; rfl
  have e2 : fb 0 = F1 := by simp [fb]
  rw [e1, ← e2]
  refine ab_for (ds := enumD (ls.map En.e)) (fun i => [.sh (stD C so kd), .sh (csD cs), .sh (lgD ls), .ow ((fb i).map En.e), .no, .no, .no, .no, .no]) PassesOwn.never (pi_enumL B.enumerate (pu_var 2 rfl)) (Le.refl _) (fun i d hd => ?_) ?_
  · obtain ⟨x, hx, rfl⟩ := enumD_at hd
    rw [List.getElem?_map] at hx
    obtain ⟨l, hk, rfl⟩ := Option.map_eq_some_iff.1 hx
    refine ⟨_, _, tg_tup (tgs_cons (tg_name 7 hN) (tgs_cons (tg_tup (tgs_cons (tg_name 8 hN) (tgs_cons (tg_name 6 hN) tgs_nil))) tgs_nil)), ?_⟩
    refine ab_append 3 rfl ((pu_tup (pas_cons (pu_add (pu_lenL B.len (pu_var 1 rfl)) (pu_var 7 rfl)) (pas_cons (pu_var 6 rfl) pas_nil))).is (d' := En.e ((cs.length + i, l.2) : En2)) (by rw [List.length_map]; rfl)) ?_ ?_
    · refine ab_nil ?_
      have e3 : (fb i).map En.e ++ [En.e ((cs.length + i, l.2) : En2)] = (fb (i + 1)).map En.e := by
        have e4 : fb (i + 1) = fb i ++ [(cs.length + i, l.2)] := by
          show F1 ++ (ls.zipIdx.take (i + 1)).map _ = (F1 ++ (ls.zipIdx.take i).map _) ++ _
          rw [take_mapS _ (zip_at hk), ← List.append_assoc]
        rw [e4]; exact (List.map_append (l₁ := fb i) (l₂ := [(cs.length + i, l.2)])).symm
      show Le [_, _, _, _, _, _, _, _, _] [_, _, _, Sl.ow ((fb i).map En.e ++ [En.e ((cs.length + i, l.2) : En2)]), _, _, _, _, _]
      rw [e3]
      exact .eq (.eq (.eq (.eq (.no (.no (.no (.no (.no .nil))))))))
    · rw [List.length_map, List.length_append, List.length_map, List.length_take, List.length_zipIdx]
      omega
  have e5 : fb (enumD (ls.map (En.e (α := Str × Str)))).length = endsF kd cs ls := by
    have : (enumD (ls.map (En.e (α := Str × Str)))).length = ls.zipIdx.length := by simp
    rw [this]; simp only [fb, List.take_length]; rfl
  rw [e5]
  exact ab_share 3 rfl (ab_ret (pu_var 3 rfl) rfl)
end
end R87
namespace R87
open PySem PySem.Spec PyProof.Rows L2
open PySem.W (Tup T4 T3 DatumOrd)
theorem sortT_perm {α : Type} [DecidableEq α] [DatumOrd α] (xs : List α) : (sortT xs).Perm xs := List.mergeSort_perm _ _
theorem sortT_len {α : Type} [DecidableEq α] [DatumOrd α] (xs : List α) : (sortT xs).length = xs.length := (sortT_perm xs).length_eq
def joinedF (a b : En2) : Jn := ⟨(minT a b).1, (minT a b).2, (maxT a b).1, (maxT a b).2⟩
def movedF (js : List Jn) (pl : Nat → Nat) : List Jn := sortT (js.map fun j => joinedF (pl j.a, j.b) (pl j.c, j.d))
/-- places[i] is n -/
def PlD (places : D) (i n : Nat) : Prop := (∃ ps : List Nat, places = .lst (ps.map En.e) ∧ ps[i]? = some n) ∨ ∃ kvs, places = .dic kvs ∧ valD kvs (.inl (i : Int)) = some (.int (n : Int))
abbrev drD (CD CS : Addr) (so : Srts) (kd : Knds) (cs : List Str) (ls : Lgs) (js : List Jn) : D := .ins CD [("stock", stD CS so kd), ("corners", csD cs), ("legs", lgD ls), ("joins", jsD js)]
theorem endsF_len {so : Srts} {kd : Knds} {cs : List Str} {ls : Lgs} (V : VS so kd) (h1 : cs.length ≤ 6) (h2 : ls.length ≤ 6) : (endsF kd cs ls).length ≤ 36 := by
  unfold endsF
  rw [List.length_append, List.length_map, List.length_zipIdx]
  have : (cs.zipIdx.flatMap fun p => (endsK kd p.1).map fun s => (p.2, s)).length ≤ cs.zipIdx.length * 5 := flat_len fun p hp => by rw [List.length_map]; exact endsK_len V
  rw [List.length_zipIdx] at this
  omega
theorem flat2_len (js : List Jn) : (js.flatMap fun j => [lo j, hi j]).length = js.length * 2 := by
  induction js with
  | nil => rfl
  | cons j js ih => rw [List.flatMap_cons, List.length_append, ih, List.length_cons]; simp; omega
theorem VJ.len {so : Srts} {kd : Knds} {cs : List Str} {ls : Lgs} {js : List Jn} (V : VS so kd) (h1 : cs.length ≤ 6) (h2 : ls.length ≤ 6) (h : VJ so kd cs ls js) : js.length ≤ 18 := by
  have := congrArg List.length h.ends
  rw [sortT_len, sortT_len, flat2_len] at this
  have := endsF_len V h1 h2
  omega
section
variable {X : Cx} {τ : List Sl} {a b : Expr} {pos : Pos}
theorem pu_pl {places : D} {i n k : Nat} (hr : Room k X.A) (ha : Pu X a τ places) (hb : Pu X b τ (.int (i : Int))) (h : PlD places i n) (hs : PlainIx b := by exact fun _ _ => rfl) (hs2 : NoSl b := by exact fun _ _ => rfl) : Pu X (.Subscript a b pos) τ (.int (n : Int)) := by
  rcases h with ⟨ps, rfl, h⟩ | ⟨kvs, rfl, h⟩
  · exact pu_ixL ha hb (by rw [List.getElem?_map, h]; rfl) hs
  · exact pu_dget (k := .inl (i : Int)) hr ha hb h hs2
end
section
variable {P : Program} {w : World} {K : PySem.W.Frag} {mg : Str → Option Value} {base : Heap}
def r_join (C : Addr) (ds : List D) (d : D) : Prop := ∃ (so : Srts) (kd : Knds) (j : Jn), ds = [stD C so kd, En.e j] ∧ VS so kd ∧ VJ1 so j ∧ d = .bl true
theorem ok_is_join (B : Bf mg) {C : Addr} (c1 : CalP P w K mg base 1 "is_whole_stocks" r_whole) (c2 : CalP P w K mg base 1 "is_sort" (r_is_sort C)) (c3 : CalP P w K mg base 1 "partner_of" (r_partner C)) {f : Addr} {fd : FuncData} (F : Fun K "is_join" "is_join" s_is_join f fd) : FnOk P w K mg base CX0 2 f fd ["stock", "thing"] (spP (r_join C)) := by
  refine fun_pu F (N := ["stock", "thing"]) (C8.fnScope_by (by decide +kernel)) (fun ds d ⟨_, _, _, e, _⟩ => by rw [e]; rfl) fun cdv A outer s H E ds d hr ⟨so, kd, j, e, V, hj, ed⟩ => ?_
  subst e ed
  have hb := hj.p
  have hd := V.s.sy _ hb
  have ha := hj.a
  have hc := hj.c
  have wa : (decide ((0 : Int) ≤ (j.a : Int)) && decide ((j.a : Int) ≤ 2 * 6)) = true := by simp; omega
  have wc : (decide ((0 : Int) ≤ (j.c : Int)) && decide ((j.c : Int) ≤ 2 * 6)) = true := by simp; omega
  have m12 : CMul 2 6 := .inl (by decide)
  refine ab_ifF ((pw_or' (pt_nt (pu_isTup B (pu_var 1 rfl))) fun _ => pw_or1' (pt_neI hr (pu_lenT B.len (pu_var 1 rfl)) pu_int)).pt.is (by rfl)) ?_
  refine ab_ifF ((pw_or' (pt_nt (t := true) (pu_call c1 hr ⟨(j.a : Int), 0, 2 * 6, rfl, by rw [wa]⟩ (pas_cons (pu_ixT (k := 0) (pu_var 1 rfl) pu_int rfl) (pas_cons pu_int (pas_cons (pu_mul pu_int (pu_globI B.most) m12) pas_nil))))) fun _ => pw_or1' (pt_nt (t := true) (pu_call c1 hr ⟨(j.c : Int), 0, 2 * 6, rfl, by rw [wc]⟩ (pas_cons (pu_ixT (k := 2) (pu_var 1 rfl) pu_int rfl) (pas_cons pu_int (pas_cons (pu_mul pu_int (pu_globI B.most) m12) pas_nil)))))).pt.is (by rfl)) ?_
  refine ab_ifF ((pw_or' (pt_nt (t := true) (pu_call c2 hr ⟨so, kd, (j.b, j.d), rfl, V.s.nd, hb, rfl⟩ (pas_cons (pu_var 0 rfl) (pas_cons (pu_ixT (k := 1) (pu_var 1 rfl) pu_int rfl) pas_nil)))) fun _ => pw_or1' (pt_nt (t := true) (pu_call c2 hr ⟨so, kd, (j.d, j.b), rfl, V.s.nd, hd, rfl⟩ (pas_cons (pu_var 0 rfl) (pas_cons (pu_ixT (k := 3) (pu_var 1 rfl) pu_int rfl) pas_nil))))).pt.is (by rfl)) ?_
  refine ab_ret (pu_and (pu_leT (lo j) (hi j) hr ((pu_sliceT (pu_var 1 rfl) po_n (po_s pu_int)).is (by rfl)) ((pu_sliceT (pu_var 1 rfl) (po_s pu_int) po_n).is (by rfl))) fun _ => pu_one (pu_eqS hr (pu_call c3 hr ⟨so, kd, (j.b, j.d), rfl, V.s.nd, hb, rfl⟩ (pas_cons (pu_var 0 rfl) (pas_cons (pu_ixT (k := 1) (pu_var 1 rfl) pu_int rfl) pas_nil))) (pu_ixT (k := 3) (pu_var 1 rfl) pu_int rfl))) ?_
  rw [hj.le]; simp
def r_joins (C : Addr) (ds : List D) (d : D) : Prop := ∃ (so : Srts) (kd : Knds) (cs : List Str) (ls : Lgs) (js : List Jn), ds = [stD C so kd, csD cs, lgD ls, jsD js] ∧ VS so kd ∧ VC kd cs ∧ ls.length ≤ 6 ∧ VJ so kd cs ls js ∧ d = .bl true
theorem ok_are_joins (B : Bf mg) {C : Addr} (c1 : CalP P w K mg base 2 "is_join" (r_join C)) (c2 : CalP P w K mg base 2 "ends_there" (r_there C)) {f : Addr} {fd : FuncData} (F : Fun K "are_joins" "are_joins" s_are_joins f fd) : FnOk P w K mg base CX0 3 f fd ["stock", "corners", "legs", "thing"] (spP (r_joins C)) := by
  refine fun_pu F (N := ["stock", "corners", "legs", "thing", "join", "found"]) (C8.fnScope_by (by decide +kernel)) (fun ds d ⟨_, _, _, _, _, e, _⟩ => by rw [e]; rfl) fun cdv A outer s H E ds d hr ⟨so, kd, cs, ls, js, e, V, hc, hl, hj, ed⟩ => ?_
  subst e ed
  have hN : (["stock", "corners", "legs", "thing", "join", "found"] : List Str).Nodup := by decide
  have lj := hj.len V hc.l6 hl
  have lj2 : js.length ≤ 1000 := by omega
  refine ab_ifF ((pw_or' (pt_nt (pu_isLst B (pu_var 3 rfl))) fun _ => pw_or1' (pt_nt (pu_allT (xs := js) B.all (nu_mapN [("join", 4)] 4 js En.e (fun _ => D.bl true) (pi_lst (pu_var 3 rfl)) fun j h s H C' cl fp => pu_call c1 hr ⟨so, kd, j, rfl, V, hj.j j h, rfl⟩ (pas_cons (pu_var 0 rfl) (pas_cons (pu_var 4 rfl) pas_nil)))))).pt.is (by rfl)) ?_
  refine ab_setO 5 (nu_lst pas_nil) ?_ hN
  let fa (i : Nat) : List En2 := (js.take i).flatMap fun j => [lo j, hi j]
  refine ab_for (ds := js.map En.e) (fun i => [.sh (stD C so kd), .sh (csD cs), .sh (lgD ls), .sh (jsD js), .no, .ow ((fa i).map En.e)]) PassesOwn.never (pi_lst (pu_var 3 rfl)) (Le.refl _) (fun i d hd => ?_) ?_
  · rw [List.getElem?_map] at hd
    obtain ⟨j, hk, rfl⟩ := Option.map_eq_some_iff.1 hd
    refine ⟨_, _, tg_name 4 hN, ?_⟩
    refine ab_extend 5 rfl (nu_lst (pas_cons ((pu_sliceT (pu_var 4 rfl) po_n (po_s pu_int)).is (d' := En.e (lo j)) (by rfl)) (pas_cons ((pu_sliceT (pu_var 4 rfl) (po_s pu_int) po_n).is (d' := En.e (hi j)) (by rfl)) pas_nil))) ?_ ?_
    · refine ab_nil ?_
      have e4 : fa (i + 1) = fa i ++ [lo j, hi j] := take_flat _ hk
      have e3 : (fa i).map En.e ++ [En.e (lo j), En.e (hi j)] = (fa (i + 1)).map En.e := by rw [e4]; exact (List.map_append (l₁ := fa i) (l₂ := [lo j, hi j])).symm
      show Le [_, _, _, _, _, _] [_, _, _, _, _, Sl.ow ((fa i).map En.e ++ [En.e (lo j), En.e (hi j)])]
      rw [e3]
      exact .eq (.eq (.eq (.eq (.no (.eq .nil)))))
    · rw [List.length_map, flat2_len, List.length_take]
      simp; omega
  have e5 : fa (js.map (En.e (α := Jn))).length = js.flatMap fun j => [lo j, hi j] := by rw [List.length_map]; simp only [fa, List.take_length]
  rw [e5]
  refine ab_share 5 rfl (ab_ret (pu_and (pu_eqT js (sortT js) hr (pu_var 3 rfl) (nu_sorted hr B.sorted (pu_var 3 rfl)).pu) fun _ => pu_one (pu_eqT (sortT (js.flatMap fun j => [lo j, hi j])) (sortT (endsF kd cs ls)) hr (nu_sorted hr B.sorted (pu_var 5 rfl)).pu (nu_sorted hr B.sorted (pu_call c2 hr ⟨so, kd, cs, ls, rfl, V, hc, hl, rfl⟩ (pas_cons (pu_var 0 rfl) (pas_cons (pu_var 1 rfl) (pas_cons (pu_var 2 rfl) pas_nil))))).pu)) ?_)
  rw [hj.srt, hj.ends]; simp
structure DrF (K : PySem.W.Frag) (C : Addr) : Prop where
  cl : Cls K C
  stock : NoAttr K C "stock"
  corners : NoAttr K C "corners"
  legs : NoAttr K C "legs"
  joins : NoAttr K C "joins"
def ri_drawing (CS : Addr) (ds : List D) (fl : List (Str × D)) : Prop := ∃ (so : Srts) (kd : Knds) (cs : List Str) (ls : Lgs) (js : List Jn), ds = [stD CS so kd, csD cs, lgD ls, jsD js] ∧ VS so kd ∧ VC kd cs ∧ VL so ls ∧ VJ so kd cs ls js ∧
  fl = [(("stock" : Str), stD CS so kd), (("corners" : Str), csD cs), (("legs" : Str), lgD ls), (("joins" : Str), jsD js)]
theorem ok_Drawing_init (B : Bf mg) {CS C : Addr} (S : DrF K C) (c1 : CalP P w K mg base 4 "sure_corners" (r_sure CS)) (c2 : CalP P w K mg base 3 "are_joins" (r_joins CS)) {f : Addr} {fd : FuncData} (F : Fun K "__init__" "Drawing.__init__" s_Drawing_init f fd) :
    FnOk P w K mg base CX0 5 f fd ["self", "stock", "corners", "legs", "joins"] (spI C (ri_drawing CS)) := by
  refine fun_init F (N := ["self", "stock", "corners", "legs", "joins"]) (C8.fnScope_by (by decide +kernel)) (fun ds d ⟨_, _, _, _, _, e, _⟩ => by rw [e]; rfl) fun cdv A outer s H E x dx us G ds fl hr ⟨so, kd, cs, ls, js, e, V, hc, hl, hj, ed⟩ ok hx gx Dn fin => ?_
  subst e ed
  refine wb_expr ok (pu_call c1 hr ⟨so, kd, cs, ls, rfl, V, hc, hl, rfl⟩ (pas_cons (pu_var 1 rfl) (pas_cons (pu_var 2 rfl) (pas_cons (pu_var 3 rfl) pas_nil)))) fun G1 H1 g1 => ?_
  have ok1 := ok.gr g1
  refine wb_ifF ok1 (pt_nt (t := true) (pu_call c2 hr ⟨so, kd, cs, ls, js, rfl, V, hc, hl.l6, hj, rfl⟩ (pas_cons (pu_var 1 rfl) (pas_cons (pu_var 2 rfl) (pas_cons (pu_var 3 rfl) (pas_cons (pu_var 4 rfl) pas_nil)))))) fun G2 H2 g2 => ?_
  have ok2 := ok1.gr g2
  have hx2 : H2 x = some (.ins C dx []) := g2.ex _ _ (g1.ex _ _ hx)
  have gx2 : G2 x = none := (g1.trans g2).fr x gx (by rw [hx]; exact fun z => by cases z)
  refine wb_fld 0 ok2 (pu_var 1 rfl) rfl hx2 gx2 S.cl S.stock (by decide) fun v1 G3 H3 g3 r3 h3 gx3 => ?_
  have ok3 := ok2.grp pls_entI g3
  refine wb_fld 0 ok3 (nu_listL B.list (pu_var 2 rfl)).pu rfl h3 gx3 S.cl S.corners (show 1 < 1000 by decide) fun v2 G4 H4 g4 r4 h4 gx4 => ?_
  have ok4 := ok3.grp pls_entI g4
  refine wb_fld 0 ok4 (nu_listL B.list (pu_var 3 rfl)).pu rfl h4 gx4 S.cl S.legs (show 2 < 1000 by decide) fun v3 G5 H5 g5 r5 h5 gx5 => ?_
  have ok5 := ok4.grp pls_entI g5
  refine wb_fld 0 ok5 (nu_listL B.list (pu_var 4 rfl)).pu rfl h5 gx5 S.cl S.joins (show 3 < 1000 by decide) fun v4 G6 H6 g6 r6 h6 gx6 => ?_
  exact Wb.of pss_nil (fin _ _ G6 H6 (((((g1.trans g2).any.trans g3).trans g4).trans g5).trans g6) h6 (.cons (((r3.ex g4.gg).ex g5.gg).ex g6.gg) (.cons ((r4.ex g5.gg).ex g6.gg) (.cons (r5.ex g6.gg) (.cons r6 .nil)))) gx6)
def r_joined (ds : List D) (d : D) : Prop := ∃ a b : En2, ds = [En.e a, En.e b] ∧ d = En.e (joinedF a b)
theorem ok_joined (B : Bf mg) {f : Addr} {fd : FuncData} (F : Fun K "joined" "joined" s_joined f fd) : FnOk P w K mg base CX0 1 f fd ["one", "two"] (spP r_joined) := by
  refine fun_pu F (N := ["one", "two"]) (C8.fnScope_by (by decide +kernel)) (fun ds d ⟨_, _, e, _⟩ => by rw [e]; rfl) fun cdv A outer s H E ds d hr ⟨a, b, e, ed⟩ => ?_
  subst e ed
  exact ab_ret (pu_catT (ds := [.int ((minT a b).1 : Int), .str (minT a b).2]) (es := [.int ((maxT a b).1 : Int), .str (maxT a b).2]) (pu_min2 (x := a) (y := b) hr B.min (pu_var 0 rfl) (pu_var 1 rfl)) (pu_max2 (x := a) (y := b) hr B.max (pu_var 0 rfl) (pu_var 1 rfl))) rfl
def r_moved (ds : List D) (d : D) : Prop := ∃ (js : List Jn) (pl : Nat → Nat) (places : D), ds = [jsD js, places] ∧ js.length ≤ 900 ∧ (∀ j ∈ js, PlD places j.a (pl j.a) ∧ PlD places j.c (pl j.c)) ∧ d = jsD (movedF js pl)
theorem ok_moved_joins (B : Bf mg) (c1 : CalP P w K mg base 1 "joined" r_joined) {f : Addr} {fd : FuncData} (F : Fun K "moved_joins" "moved_joins" s_moved_joins f fd) : FnOk P w K mg base CX0 2 f fd ["joins", "places"] (spP r_moved) := by
  refine fun_pu F (N := ["joins", "places", "found", "place", "sort", "far", "partner"]) (C8.fnScope_by (by decide +kernel)) (fun ds d ⟨_, _, _, e, _⟩ => by rw [e]; rfl) fun cdv A outer s H E ds d hr ⟨js, pl, places, e, hl, hp, ed⟩ => ?_
  subst e ed
  have hN : (["joins", "places", "found", "place", "sort", "far", "partner"] : List Str).Nodup := by decide
  let g (j : Jn) : Jn := joinedF (pl j.a, j.b) (pl j.c, j.d)
  refine ab_setO 2 (nu_lst pas_nil) ?_ hN
  refine ab_for (ds := js.map En.e) (fun i => [.sh (jsD js), .sh places, .ow (((js.take i).map g).map En.e), .no, .no, .no, .no]) PassesOwn.never (pi_lst (pu_var 0 rfl)) (Le.refl _) (fun i d hd => ?_) ?_
  · rw [List.getElem?_map] at hd
    obtain ⟨j, hk, rfl⟩ := Option.map_eq_some_iff.1 hd
    obtain ⟨h1, h2⟩ := hp j (List.mem_of_getElem? hk)
    refine ⟨_, _, tg_tup (tgs_cons (tg_name 3 hN) (tgs_cons (tg_name 4 hN) (tgs_cons (tg_name 5 hN) (tgs_cons (tg_name 6 hN) tgs_nil)))), ?_⟩
    refine ab_append 2 rfl (pu_call c1 hr ⟨(pl j.a, j.b), (pl j.c, j.d), rfl, rfl⟩ (pas_cons (pu_tup (pas_cons (pu_pl hr (pu_var 1 rfl) (pu_var 3 rfl) h1) (pas_cons (pu_var 4 rfl) pas_nil))) (pas_cons (pu_tup (pas_cons (pu_pl hr (pu_var 1 rfl) (pu_var 5 rfl) h2) (pas_cons (pu_var 6 rfl) pas_nil))) pas_nil))) ?_ ?_
    · refine ab_nil ?_
      have e3 : ((js.take i).map g).map En.e ++ [En.e (g j)] = ((js.take (i + 1)).map g).map En.e := by rw [take_mapS g hk]; exact (List.map_append (l₁ := (js.take i).map g) (l₂ := [g j])).symm
      show Le [_, _, _, _, _, _, _] [_, _, Sl.ow (((js.take i).map g).map En.e ++ [En.e (g j)]), _, _, _, _]
      rw [e3]
      exact .eq (.eq (.eq (.no (.no (.no (.no .nil))))))
    · rw [List.length_map, List.length_map, List.length_take]; omega
  rw [List.length_map, List.take_length]
  exact ab_share 2 rfl (ab_ret (nu_sorted (xs := js.map g) hr B.sorted (pu_var 2 rfl)).pu rfl)
def r_places (CD CS : Addr) (ds : List D) (d : D) : Prop := ∃ (so : Srts) (kd : Knds) (cs : List Str) (ls : Lgs) (js : List Jn) (ns : List Nat), ds = [drD CD CS so kd cs ls js, .tupF (ns.map En.e)] ∧ cs.length ≤ 6 ∧ ls.length ≤ 6 ∧ ns.length ≤ 6 ∧ d = .lst ((ns ++ List.range' cs.length ls.length).map En.e)
theorem ok_places_by (B : Bf mg) {CD CS : Addr} (S : DrF K CD) {f : Addr} {fd : FuncData} (F : Fun K "places_by" "places_by" s_places_by f fd) : FnOk P w K mg base CX0 1 f fd ["drawing", "numbers"] (spP (r_places CD CS)) := by
  refine fun_pu F (N := ["drawing", "numbers"]) (C8.fnScope_by (by decide +kernel)) (fun ds d ⟨_, _, _, _, _, _, e, _⟩ => by rw [e]; rfl) fun cdv A outer s H E ds d hr ⟨so, kd, cs, ls, js, ns, e, h1, h2, h3, ed⟩ => ?_
  subst e ed
  have e1 : ((cs.length + ls.length : Nat) : Int) = ((cs.map (En.e (α := Str))).length : Int) + ((ls.map (En.e (α := Str × Str))).length : Int) := by rw [List.length_map, List.length_map]; omega
  have e2 : ((cs.length : Nat) : Int) = ((cs.map (En.e (α := Str))).length : Int) := by rw [List.length_map]
  refine ab_ret ((nu_cat (nu_listTF B.list (pu_var 1 rfl)).pu (nu_listRange2 (i := cs.length) (k := cs.length + ls.length) B.range B.list ((pu_lenL B.len (pu_fld (d := csD cs) S.cl S.corners (pu_var 0 rfl) rfl)).is (by rw [e2])) ((pu_add (pu_lenL B.len (pu_fld (d := csD cs) S.cl S.corners (pu_var 0 rfl) rfl)) (pu_lenL B.len (pu_fld (d := lgD ls) S.cl S.legs (pu_var 0 rfl) rfl))).is (by rw [e1])) (by omega) (by omega)).pu ?_).pu) ?_
  · rw [List.length_map, List.length_map, List.length_range']; omega
  · rw [Nat.add_sub_cancel_left, List.map_append]
end
end R87
namespace R87
open PySem PySem.Spec PyProof.Rows L2
open PySem.W (Tup T4 T3 DatumOrd)
/-- a drawing that stands -/
structure VD (so : Srts) (kd : Knds) (cs : List Str) (ls : Lgs) (js : List Jn) : Prop where
  s : VS so kd
  c : VC kd cs
  l : VL so ls
  j : VJ so kd cs ls js
theorem VD.jl {so : Srts} {kd : Knds} {cs : List Str} {ls : Lgs} {js : List Jn} (V : VD so kd cs ls js) : js.length ≤ 18 := V.j.len V.s V.c.l6 V.l.l6
/-- how a Drawing is made -/
structure MkD (P : Program) (w : World) (K : PySem.W.Frag) (mg : Str → Option Value) (base : Heap) (CS CD : Addr) : Prop where
  ex : ∃ g fd ps, Mk K CD g ∧ FnOk P w K mg base CX0 5 g fd ps (spI CD (ri_drawing CS)) ∧ Binds K fd ps []
  nm : mg "Drawing" = some (.ref CD)
section
variable {X : Cx} {τ : List Sl} {a b c d : Expr} {pos p : Pos} {CS CD : Addr} {so : Srts} {kd : Knds} {cs : List Str} {ls : Lgs} {js : List Jn}
theorem pu_drawing {k : Nat} (M : MkD X.prog X.w X.K X.mg X.base CS CD) (hr : Room (k + 1) X.A) (V : VD so kd cs ls js) (ha : Pu X a τ (stD CS so kd)) (hb : Pu X b τ (csD cs)) (hc : Pu X c τ (lgD ls)) (hd : Pu X d τ (jsD js)) (hk : 6 ≤ k + 1 := by decide) (hg : Gl X "Drawing" := by rfl)
    (h1 : noStar a = true := by rfl) (h2 : noStar b = true := by rfl) (h3 : noStar c = true := by rfl) (h4 : noStar d = true := by rfl) : Pu X (.Call (.Name "Drawing" p) [a, b, c, d] [] pos) τ (drD CD CS so kd cs ls js) := by
  obtain ⟨g, fd, ps, M1, F, hb'⟩ := M.ex
  exact pu_make M1 F hr M.nm hb' ⟨so, kd, cs, ls, js, rfl, V.s, V.c, V.l, V.j, rfl⟩ (pas_cons ha (pas_cons hb (pas_cons hc (pas_cons hd pas_nil h4) h3) h2) h1) hk hg (by decide) (by rw [List.all_cons, List.all_cons, List.all_cons, List.all_cons, h1, h2, h3, h4]; rfl)
end
/-- the kinds moved, after i of the places -/
def renF (cs : List Str) (ns : List Nat) : Nat → List Str
  | 0 => cs
  | i + 1 => (renF cs ns i).set (ns.getD i 0) (cs.getD i (⟨#[]⟩ : Str))
theorem renF_len (cs : List Str) (ns : List Nat) : ∀ i, (renF cs ns i).length = cs.length
  | 0 => rfl
  | i + 1 => by unfold renF; rw [List.length_set]; exact renF_len cs ns i
/-- the marks behind a join -/
def stepM (m : List Nat) (j : Jn) : List Nat := m.map fun k => if k = maxT (m.getD j.a 0) (m.getD j.c 0) then minT (m.getD j.a 0) (m.getD j.c 0) else k
def marksF (many : Nat) (js : List Jn) : List Nat := js.foldl stepM (List.range many)
theorem stepM_len (m : List Nat) (j : Jn) : (stepM m j).length = m.length := List.length_map ..
theorem foldM_len (js : List Jn) : ∀ m : List Nat, (js.foldl stepM m).length = m.length := by
  induction js with
  | nil => intro m; rfl
  | cons j js ih => intro m; rw [List.foldl_cons, ih, stepM_len]
theorem marksF_len (many : Nat) (js : List Jn) : (marksF many js).length = many := by unfold marksF; rw [foldM_len, List.length_range]
section
variable {P : Program} {w : World} {K : PySem.W.Frag} {mg : Str → Option Value} {base : Heap}
def r_renamed (CD CS : Addr) (ds : List D) (d : D) : Prop := ∃ (so : Srts) (kd : Knds) (cs : List Str) (ls : Lgs) (js : List Jn) (ns : List Nat), ds = [drD CD CS so kd cs ls js, .tupF (ns.map En.e)] ∧ VD so kd cs ls js ∧ sortT ns = List.range cs.length ∧
  (∀ j ∈ js, j.a < cs.length + ls.length ∧ j.c < cs.length + ls.length) ∧ VD so kd (renF cs ns cs.length) ls (movedF js fun i => (ns ++ List.range' cs.length ls.length).getD i 0) ∧ d = drD CD CS so kd (renF cs ns cs.length) ls (movedF js fun i => (ns ++ List.range' cs.length ls.length).getD i 0)
theorem getD_some {α : Type} {xs : List α} {i : Nat} {d : α} (h : i < xs.length) : xs[i]? = some (xs.getD i d) := by rw [List.getD_eq_getElem?_getD, List.getElem?_eq_getElem h]; rfl
theorem ok_renamed (B : Bf mg) {CD CS : Addr} (S : DrF K CD) (M : MkD P w K mg base CS CD) (c1 : CalP P w K mg base 1 "is_whole_stocks" r_whole) (c2 : CalP P w K mg base 2 "moved_joins" r_moved) (c3 : CalP P w K mg base 1 "places_by" (r_places CD CS)) {f : Addr} {fd : FuncData} (F : Fun K "renamed" "renamed" s_renamed f fd) :
    FnOk P w K mg base CX0 7 f fd ["drawing", "numbers"] (spP (r_renamed CD CS)) := by
  refine fun_pu F (N := ["drawing", "numbers", "number", "corners", "place", "joins"]) (C8.fnScope_by (by decide +kernel)) (fun ds d ⟨_, _, _, _, _, _, e, _⟩ => by rw [e]; rfl) fun cdv A outer s H E ds d hr ⟨so, kd, cs, ls, js, ns, e, V, hs, hj, V2, ed⟩ => ?_
  subst e ed
  have hN : (["drawing", "numbers", "number", "corners", "place", "joins"] : List Str).Nodup := by decide
  have l6 := V.c.l6
  have l6' := V.l.l6
  have ln : ns.length = cs.length := by have := congrArg List.length hs; rwa [sortT_len, List.length_range] at this
  have hn1 : ns.length ≤ 1000 := by omega
  have mem : ∀ n ∈ ns, n < cs.length := fun n hn => by have := (sortT_perm ns).mem_iff.2 hn; rw [hs] at this; exact List.mem_range.1 this
  have cl := V.jl
  refine ab_ifF ((pw_or' (pt_nt (pu_isTupF B (pu_var 1 rfl))) fun _ => pw_or1' (pt_nt (pu_allT (xs := ns) B.all (nu_mapN [("number", 2)] 2 ns En.e (fun _ => D.bl true) (pi_tuplF (pu_var 1 rfl)) fun n hn s H C cl fp => pu_call c1 hr ⟨(n : Int), 0, 6, rfl, (by have h := mem n hn; rw [show (decide ((0 : Int) ≤ (n : Int)) && decide ((n : Int) ≤ 6)) = true from by simp; omega])⟩ (pas_cons (pu_var 2 rfl) (pas_cons pu_int (pas_cons (pu_globI B.most) pas_nil))))))).pt.is (by rfl)) ?_
  refine ab_ifF ((pt_neT (sortT ns) (List.range cs.length) hr (nu_sortedF hr B.sorted (pu_var 1 rfl)).pu (nu_listRange1 (k := cs.length) B.range B.list ((pu_lenL B.len (pu_fld (d := csD cs) S.cl S.corners (pu_var 0 rfl) rfl)).is (by rw [List.length_map])) (by omega)).pu).is ?_) ?_
  · exact dec_false (fun z => z hs)
  refine ab_setO 3 (nu_listL B.list (pu_fld (d := csD cs) S.cl S.corners (pu_var 0 rfl) rfl)) ?_ hN
  refine ab_for (ds := enumD (ns.map En.e)) (fun i => [.sh (drD CD CS so kd cs ls js),   .sh (.tupF (ns.map En.e)), .no, .ow ((renF cs ns i).map En.e), .no, .no]) PassesOwn.never (pi_enumTupF B.enumerate (pu_var 1 rfl)) (Le.refl _) (fun i d hd => ?_) ?_
  · obtain ⟨x, hx, rfl⟩ := enumD_at hd
    rw [List.getElem?_map] at hx
    obtain ⟨n, hk, rfl⟩ := Option.map_eq_some_iff.1 hx
    have hi : i < cs.length := by rw [← ln]; exact (List.getElem?_eq_some_iff.1 hk).1
    refine ⟨_, _, tg_tup (tgs_cons (tg_name 4 hN) (tgs_cons (tg_name 2 hN) tgs_nil)), ?_⟩
    refine ab_put 3 (k := n) rfl (pu_ixL (k := i) (pu_fld (d := csD cs) S.cl S.corners (pu_var 0 rfl) rfl) (pu_var 4 rfl) (by rw [List.getElem?_map, getD_some (d := (⟨#[]⟩ : Str)) hi]; rfl)) (pu_var 2 rfl) ?_ ?_
    · rw [List.length_map, renF_len]; exact mem n (List.mem_of_getElem? hk)
    · refine ab_nil ?_
      have e3 : ((renF cs ns i).map En.e).set n (En.e (cs.getD i (⟨#[]⟩ : Str))) = (renF cs ns (i + 1)).map (En.e (α := Str)) := by
        show _ = ((renF cs ns i).set (ns.getD i 0) _).map _
        rw [List.map_set, show ns.getD i 0 = n from by rw [List.getD_eq_getElem?_getD, hk]; rfl]
      show Le [_, _, _, _, _, _] [_, _, _, Sl.ow (((renF cs ns i).map En.e).set n (En.e (cs.getD i (⟨#[]⟩ : Str)))), _, _]
      rw [e3]
      exact .eq (.eq (.no (.eq (.no (.no .nil)))))
  have e5 : (enumD (ns.map (En.e (α := Nat)))).length = cs.length := by simp [ln]
  rw [e5]
  refine ab_set 5 (pu_call c2 hr ⟨js, fun i => (ns ++ List.range' cs.length ls.length).getD i 0, .lst ((ns ++ List.range' cs.length ls.length).map En.e), rfl, by omega, fun j h => ?_, rfl⟩ (pas_cons (pu_fld (d := jsD js) S.cl S.joins (pu_var 0 rfl) rfl) (pas_cons (pu_call c3 hr ⟨so, kd, cs, ls, js, ns, rfl, l6, l6', by omega, rfl⟩ (pas_cons (pu_var 0 rfl) (pas_cons (pu_var 1 rfl) pas_nil))) pas_nil))) ?_ hN
  · obtain ⟨h1, h2⟩ := hj j h
    have le : (ns ++ List.range' cs.length ls.length).length = cs.length + ls.length := by rw [List.length_append, List.length_range', ln]
    exact ⟨.inl ⟨_, rfl, getD_some (by rw [le]; exact h1)⟩, .inl ⟨_, rfl, getD_some (by rw [le]; exact h2)⟩⟩
  exact ab_share 3 rfl (ab_ret (pu_drawing M hr V2 (pu_fld S.cl S.stock (pu_var 0 rfl) rfl) (pu_var 3 rfl) (pu_fld S.cl S.legs (pu_var 0 rfl) rfl) (pu_var 5 rfl)) rfl)
def r_marks (ds : List D) (d : D) : Prop := ∃ (many : Nat) (js : List Jn), ds = [.int (many : Int), jsD js] ∧ many ≤ 100 ∧ (∀ j ∈ js, j.a < many ∧ j.c < many) ∧ d = .lst ((marksF many js).map En.e)
theorem ok_marks_by (B : Bf mg) {f : Addr} {fd : FuncData} (F : Fun K "marks_by" "marks_by" s_marks_by f fd) : FnOk P w K mg base CX0 1 f fd ["many", "joins"] (spP r_marks) := by
  refine fun_pu F (N := ["many", "joins", "marks", "place", "sort", "far", "partner", "low", "high", "mark"]) (C8.fnScope_by (by decide +kernel)) (fun ds d ⟨_, _, e, _⟩ => by rw [e]; rfl) fun cdv A outer s H E ds d hr ⟨many, js, e, hm, hj, ed⟩ => ?_
  subst e ed
  have hN : (["many", "joins", "marks", "place", "sort", "far", "partner", "low", "high", "mark"] : List Str).Nodup := by decide
  let ms (i : Nat) : List Nat := (js.take i).foldl stepM (List.range many)
  have ml : ∀ i, (ms i).length = many := fun i => by rw [foldM_len, List.length_range]
  refine ab_setO 2 (nu_listRange1 (k := many) B.range B.list (pu_var 0 rfl) (by omega)) ?_ hN
  refine ab_share 2 rfl ?_
  refine ab_for (ds := js.map En.e) (fun i => [.sh (.int (many : Int)), .sh (jsD js), .sh (.lst ((ms i).map En.e)), .no, .no, .no, .no, .no, .no, .no]) PassesOwn.never (pi_lst (pu_var 1 rfl)) (Le.refl _) (fun i d hd => ?_) ?_
  · rw [List.getElem?_map] at hd
    obtain ⟨j, hk, rfl⟩ := Option.map_eq_some_iff.1 hd
    obtain ⟨h1, h2⟩ := hj j (List.mem_of_getElem? hk)
    have g1 : ((ms i).map (En.e (α := Nat)))[j.a]? = some (En.e ((ms i).getD j.a 0)) := by rw [List.getElem?_map, getD_some (d := 0) (by rw [ml]; exact h1)]; rfl
    have g2 : ((ms i).map (En.e (α := Nat)))[j.c]? = some (En.e ((ms i).getD j.c 0)) := by rw [List.getElem?_map, getD_some (d := 0) (by rw [ml]; exact h2)]; rfl
    refine ⟨_, _, tg_tup (tgs_cons (tg_name 3 hN) (tgs_cons (tg_name 4 hN) (tgs_cons (tg_name 5 hN) (tgs_cons (tg_name 6 hN) tgs_nil)))), ?_⟩
    refine ab_unpack ((nu_sorted (xs := [(ms i).getD j.a 0, (ms i).getD j.c 0]) hr B.sorted (nu_lst (pas_cons (pu_ixL (k := j.a) (pu_var 2 rfl) (pu_var 3 rfl) g1) (pas_cons (pu_ixL (k := j.c) (pu_var 2 rfl) (pu_var 5 rfl) g2) pas_nil))).pu).pu.is (by rw [sort2]; rfl)) (tg_lst (tgs_cons (tg_name 7 hN) (tgs_cons (tg_name 8 hN) tgs_nil))) ?_
    have lm : (ms i).length ≤ 1000 := by rw [ml]; omega
    refine ab_setC 2 (lc_mapN [("mark", 9)] 9 (ms i) En.e (fun k => En.e (if k = maxT ((ms i).getD j.a 0) ((ms i).getD j.c 0) then minT ((ms i).getD j.a 0) ((ms i).getD j.c 0) else k)) (pi_lst (pu_var 2 rfl)) (fun k hk s H C cl fp => pu_ifExp (pt_eqT k (maxT ((ms i).getD j.a 0) ((ms i).getD j.c 0)) hr (pu_var 9 rfl) (pu_var 8 rfl)) (fun z => ?_) (fun z => ?_)) (hl := lm)) ?_
    · rw [if_pos (of_decide_eq_true z)]; exact pu_var 7 rfl
    · rw [if_neg (of_decide_eq_false z)]; exact pu_var 9 rfl
    · refine ab_share 2 rfl (ab_nil ?_)
      have e4 : ms (i + 1) = stepM (ms i) j := by
        show (js.take (i + 1)).foldl stepM _ = _
        rw [List.take_add_one, hk, List.foldl_append]; rfl
      have e3 : (ms i).map (fun k => En.e (if k = maxT ((ms i).getD j.a 0) ((ms i).getD j.c 0) then minT ((ms i).getD j.a 0) ((ms i).getD j.c 0) else k)) = (ms (i + 1)).map (En.e (α := Nat)) := by
        rw [e4]; unfold stepM; rw [List.map_map]; rfl
      show Le [_, _, _, _, _, _, _, _, _, _] [_, _, Sl.sh (.lst ((ms i).map (fun k => En.e (if k = maxT ((ms i).getD j.a 0) ((ms i).getD j.c 0) then minT ((ms i).getD j.a 0) ((ms i).getD j.c 0) else k)))), _, _, _, _, _, _, _]
      rw [e3]
      exact .eq (.eq (.eq (.no (.no (.no (.no (.no (.no (.no .nil)))))))))
  refine ab_ret (pu_var 2 rfl) ?_
  show D.lst _ = D.lst _
  rw [List.length_map]
  simp only [ms, List.take_length]; rfl
def r_amarks (CD CS : Addr) (ds : List D) (d : D) : Prop := ∃ (so : Srts) (kd : Knds) (cs : List Str) (ls : Lgs) (js ks : List Jn), ds = [drD CD CS so kd cs ls js, jsD ks] ∧ cs.length ≤ 6 ∧ ls.length ≤ 6 ∧ (∀ j ∈ ks, j.a < cs.length + ls.length ∧ j.c < cs.length + ls.length) ∧ d = .lst ((marksF (cs.length + ls.length) ks).map En.e)
theorem len2 {cs : List Str} {ls : Lgs} : ((cs.map (En.e (α := Str))).length : Int) + ((ls.map (En.e (α := Str × Str))).length : Int) = ((cs.length + ls.length : Nat) : Int) := by rw [List.length_map, List.length_map]; omega
theorem ok_all_marks (B : Bf mg) {CD CS : Addr} (S : DrF K CD) (c1 : CalP P w K mg base 1 "marks_by" r_marks) {f : Addr} {fd : FuncData} (F : Fun K "all_marks" "all_marks" s_all_marks f fd) : FnOk P w K mg base CX0 2 f fd ["drawing", "joins"] (spP (r_amarks CD CS)) := by
  refine fun_pu F (N := ["drawing", "joins"]) (C8.fnScope_by (by decide +kernel)) (fun ds d ⟨_, _, _, _, _, _, e, _⟩ => by rw [e]; rfl) fun cdv A outer s H E ds d hr ⟨so, kd, cs, ls, js, ks, e, h1, h2, hj, ed⟩ => ?_
  subst e ed
  exact ab_ret (pu_call c1 hr ⟨cs.length + ls.length, ks, rfl, by omega, hj, rfl⟩ (pas_cons ((pu_add (pu_lenL B.len (pu_fld (d := csD cs) S.cl S.corners (pu_var 0 rfl) rfl)) (pu_lenL B.len (pu_fld (d := lgD ls) S.cl S.legs (pu_var 0 rfl) rfl))).is (congrArg D.int len2)) (pas_cons (pu_var 1 rfl) pas_nil))) rfl
def prtC (cs : List Str) (ps : List Nat) : List Str := (ps.filter fun p => decide (p < cs.length)).map fun p => cs.getD p (⟨#[]⟩ : Str)
def prtL (cs : List Str) (ls : Lgs) (ps : List Nat) : Lgs := (ps.filter fun p => decide (cs.length ≤ p)).map fun p => ls.getD (p - cs.length) ((⟨#[]⟩ : Str), (⟨#[]⟩ : Str))
def prtJ (js : List Jn) (ps : List Nat) : List Jn := movedF (js.filter fun j => decide (j.a ∈ ps)) fun p => ps.idxOf p
abbrev prtD (CD CS : Addr) (so : Srts) (kd : Knds) (cs : List Str) (ls : Lgs) (js : List Jn) (ps : List Nat) : D := drD CD CS so kd (prtC cs ps) (prtL cs ls ps) (prtJ js ps)
def r_part (CD CS : Addr) (ds : List D) (d : D) : Prop := ∃ (so : Srts) (kd : Knds) (cs : List Str) (ls : Lgs) (js : List Jn) (ps : List Nat), ds = [drD CD CS so kd cs ls js, .lst (ps.map En.e)] ∧ VD so kd cs ls js ∧ ps.Nodup ∧ (∀ p ∈ ps, p < cs.length + ls.length) ∧ ps.length ≤ 12 ∧
  (∀ j ∈ js, j.a ∈ ps → j.c ∈ ps) ∧ VD so kd (prtC cs ps) (prtL cs ls ps) (prtJ js ps) ∧ d = prtD CD CS so kd cs ls js ps
abbrev nKv (ps : List Nat) : List (L2.Key × D) := ps.zipIdx.map fun p => (.inl (p.1 : Int), .int (p.2 : Int))
theorem nKv_some {ps : List Nat} {p : Nat} (h : p ∈ ps) (nd : ps.Nodup) : valD (mergeD (nKv ps)) (.inl (p : Int)) = some (.int (ps.idxOf p : Nat)) := by
  have hi : ps.idxOf p < ps.length := List.idxOf_lt_length_iff.2 h
  have hg : ps[ps.idxOf p]? = some p := by rw [List.getElem?_eq_getElem hi, List.getElem_idxOf hi]
  refine val_merge_some (List.mem_map.2 ⟨(p, ps.idxOf p), List.mem_of_getElem? (i := ps.idxOf p) (zip_at hg), rfl⟩) fun d' hd => ?_
  obtain ⟨q, hq, e⟩ := List.mem_map.1 hd
  obtain ⟨i, hi2⟩ := List.mem_iff_getElem?.1 hq
  rw [List.getElem?_zipIdx] at hi2
  obtain ⟨x, hx, e2⟩ := Option.map_eq_some_iff.1 hi2
  have e3 : q.1 = p := by
    have : (Sum.inl (q.1 : Int) : L2.Key) = Sum.inl (p : Int) := by injection e
    injection this with this
    omega
  have e4 : x = p := by rw [← e3, ← e2]
  subst e4
  have ei : i = ps.idxOf x := by
    have hil := (List.getElem?_eq_some_iff.1 hx).1
    rw [← (List.getElem?_eq_some_iff.1 hx).2]
    exact (List.Nodup.idxOf_getElem nd i hil).symm
  have e5 : D.int (q.2 : Int) = d' := by injection e
  rw [← e5, ← e2, ei]; simp
theorem nKv_none {ps : List Nat} {p : Nat} (h : p ∉ ps) : valD (mergeD (nKv ps)) (.inl (p : Int)) = none := by
  rw [val_merge_none]
  intro q hq e
  obtain ⟨r, hr, rfl⟩ := List.mem_map.1 hq
  have : (r.1 : Int) = (p : Int) := by injection e
  have e2 : r.1 = p := by omega
  exact h (e2 ▸ mem_zip hr)
theorem ok_part_of (B : Bf mg) {CD CS : Addr} (S : DrF K CD) (M : MkD P w K mg base CS CD) (c1 : CalP P w K mg base 2 "moved_joins" r_moved) {f : Addr} {fd : FuncData} (F : Fun K "part_of" "part_of" s_part_of f fd) : FnOk P w K mg base CX0 7 f fd ["drawing", "places"] (spP (r_part CD CS)) := by
  refine fun_pu F (N := ["drawing", "places", "many", "corners", "legs", "numbers", "joins", "place", "number", "join"]) (C8.fnScope_by (by decide +kernel)) (fun ds d ⟨_, _, _, _, _, _, e, _⟩ => by rw [e]; rfl) fun cdv A outer s H E ds d hr ⟨so, kd, cs, ls, js, ps, e, V, nd, hp, hl, hj, V2, ed⟩ => ?_
  subst e ed
  have hN : (["drawing", "places", "many", "corners", "legs", "numbers", "joins", "place", "number", "join"] : List Str).Nodup := by decide
  have l6 := V.c.l6
  have l6' := V.l.l6
  have jl := V.jl
  have pl : ps.length ≤ 1000 := by omega
  have jl2 : js.length ≤ 1000 := by omega
  refine ab_set 2 ((pu_lenL B.len (pu_fld (d := csD cs) S.cl S.corners (pu_var 0 rfl) rfl)).is (d' := .int (cs.length : Int)) (by rw [List.length_map])) ?_ hN
  refine ab_setC 3 (lc_filN [("place", 7)] 7 ps En.e (fun p => decide (p < cs.length)) (fun p => En.e (cs.getD p (⟨#[]⟩ : Str))) (pi_lst (pu_var 1 rfl)) (fun p h s H C cl fp => (pt_lt (pu_var 7 rfl) (pu_var 2 rfl)).is (by simp)) (fun p h hf s H C cl fp => pu_ixL (k := p) (pu_fld (d := csD cs) S.cl S.corners (pu_var 0 rfl) rfl) (pu_var 7 rfl) (by rw [List.getElem?_map, getD_some (d := (⟨#[]⟩ : Str)) (of_decide_eq_true hf)]; rfl)) (hl := pl)) ?_
  refine ab_setC 4 (lc_filN [("place", 7)] 7 ps En.e (fun p => decide (cs.length ≤ p)) (fun p => En.e (ls.getD (p - cs.length) ((⟨#[]⟩ : Str), (⟨#[]⟩ : Str)))) (pi_lst (pu_var 1 rfl)) (fun p h s H C cl fp => (pt_ge (pu_var 7 rfl) (pu_var 2 rfl)).is (by simp)) (fun p h hf s H C cl fp => ?_) (hl := pl)) ?_
  · have h1 := hp p h
    have h2 : cs.length ≤ p := of_decide_eq_true hf
    exact pu_ixL (k := p - cs.length) (pu_fld (d := lgD ls) S.cl S.legs (pu_var 0 rfl) rfl) ((pu_sub (pu_var 7 rfl) (pu_var 2 rfl)).is (congrArg D.int (by omega))) (by rw [List.getElem?_map, getD_some (d := ((⟨#[]⟩ : Str), (⟨#[]⟩ : Str))) (by omega)]; rfl)
  refine ab_set 5 (pu_dictL (kvs := nKv ps) B.dict (((nu_map2 [("number", 8), ("place", 7)] 8 7 ps.zipIdx (fun p => .int (p.2 : Int)) (fun p => .int (p.1 : Int)) (fun p => .tup [.int (p.1 : Int), .int (p.2 : Int)]) ((pi_enumL B.enumerate (pu_var 1 rfl)).is ?_) (fun p h s H C cl fp => pu_tup (pas_cons (pu_var 7 rfl) (pas_cons (pu_var 8 rfl) pas_nil))) (hl := by rw [List.length_zipIdx]; exact pl) (hN := hN)).pu.is ?_))) ?_ hN
  · show (ps.map (En.e (α := Nat))).zipIdx.map _ = _
    rw [List.zipIdx_map, List.map_map]; rfl
  · rw [List.map_map]; rfl
  have fi : ∀ j : Jn, (valD (mergeD (nKv ps)) (.inl (j.a : Int))).isSome = decide (j.a ∈ ps) := fun j => by
    by_cases hm : j.a ∈ ps
    · rw [nKv_some hm nd, dec_true hm]; rfl
    · rw [nKv_none hm, dec_false hm]; rfl
  have fl : (js.filter fun j => decide (j.a ∈ ps)).length ≤ 900 := by
    have := List.length_filter_le (fun j : Jn => decide (j.a ∈ ps)) js
    omega
  have fj : ∀ j ∈ js.filter (fun j => decide (j.a ∈ ps)), PlD (.dic (mergeD (nKv ps))) j.a (ps.idxOf j.a) ∧ PlD (.dic (mergeD (nKv ps))) j.c (ps.idxOf j.c) := fun j h => by
    obtain ⟨h1, h2⟩ := List.mem_filter.1 h
    have h3 : j.a ∈ ps := of_decide_eq_true h2
    exact ⟨.inr ⟨_, rfl, nKv_some h3 nd⟩, .inr ⟨_, rfl, nKv_some (hj j h1 h3) nd⟩⟩
  refine ab_set 6 (pu_call c1 hr ⟨js.filter fun j => decide (j.a ∈ ps), fun p => ps.idxOf p, .dic (mergeD (nKv ps)), rfl, fl, fj, rfl⟩ (pas_cons ((nu_filN [("join", 9)] 9 js En.e (fun j => decide (j.a ∈ ps)) En.e (pi_lst (pu_fld (d := jsD js) S.cl S.joins (pu_var 0 rfl) rfl)) (fun j h s H C cl fp => (pt_inD (k := .inl (j.a : Int)) hr (pu_ixT (k := 0) (pu_var 9 rfl) pu_int rfl) (pu_var 5 rfl)).is (fi j)) (fun j h hf s H C cl fp => pu_var 9 rfl) (hl := jl2) (hN := hN)).pu) (pas_cons (pu_var 5 rfl) pas_nil))) ?_ hN
  refine ab_share 3 rfl (ab_share 4 rfl (ab_ret (pu_drawing M hr V2 (pu_fld S.cl S.stock (pu_var 0 rfl) rfl) ((pu_var 3 rfl).is ?_) ((pu_var 4 rfl).is ?_) (pu_var 6 rfl)) rfl))
  · unfold csD prtC; rw [List.map_map]; rfl
  · unfold lgD prtL; rw [List.map_map]; rfl
end
end R87
namespace R87
open PySem PySem.Spec PyProof.Rows L2
open PySem.W (Tup T4 T3 DatumOrd)
theorem sIx_nat (n d i : Nat) : HT.sIx n d (some (i : Int)) = min i n := by
  unfold HT.sIx
  simp; omega
theorem cut_take (ds : List D) (i : Nat) : cutD ds none (some (i : Int)) = ds.take i := by
  unfold cutD
  rw [sIx_nat]
  show (ds.drop 0).take (min i ds.length - 0) = _
  rw [List.drop_zero, Nat.sub_zero]
  rcases Nat.le_total i ds.length with h | h
  · rw [Nat.min_eq_left h]
  · rw [Nat.min_eq_right h, List.take_length, List.take_of_length_le h]
theorem cut_drop (ds : List D) (i : Nat) : cutD ds (some (i : Int)) none = ds.drop i := by
  unfold cutD
  rw [sIx_nat]
  show (ds.drop (min i ds.length)).take (ds.length - min i ds.length) = _
  rw [List.take_of_length_le (by rw [List.length_drop]; exact Nat.le_refl _)]
  rcases Nat.le_total i ds.length with h | h
  · rw [Nat.min_eq_left h]
  · rw [Nat.min_eq_right h, List.drop_length, List.drop_eq_nil_of_le h]
/-- the places of one mark; the classes -/
def clsF (ms : List Nat) (mk : Nat) : List Nat := (List.range ms.length).filter fun p => decide (ms.getD p 0 = mk)
def clss (ms : List Nat) : List (List Nat) := (sset ms).map (clsF ms)
def innF (n : Nat) (js : List Jn) : List Jn := js.filter fun j => decide (j.c < n)
def lessF (js : List Jn) (j : Jn) : List Jn := js.eraseIdx (js.idxOf j)
def nComp (many : Nat) (js : List Jn) : Nat := (dst (marksF many js)).length
def cutsF (n m : Nat) (js : List Jn) : List Jn := (innF n js).filter fun j => decide (nComp (n + m) js < nComp (n + m) (lessF js j))
def piecesF (n m : Nat) (js : List Jn) : List (List Nat) := clss (marksF n ((innF n js).filter fun j => decide (j ∉ cutsF n m js)))
theorem sset_len (xs : List Nat) : (sset xs).length ≤ xs.length := by unfold sset; rw [List.length_mergeSort]; exact dst_len xs
theorem lessF_mem {js : List Jn} {j x : Jn} (h : x ∈ lessF js j) : x ∈ js := List.mem_of_mem_eraseIdx h
theorem lessF_len (js : List Jn) (j : Jn) : (lessF js j).length ≤ js.length := List.length_eraseIdx_le ..
/-- where the joins of a drawing lie -/
structure VP (n m : Nat) (js : List Jn) : Prop where
  n6 : n ≤ 6
  m6 : m ≤ 6
  l : js.length ≤ 18
  a : ∀ j ∈ js, j.a < n + m
  c : ∀ j ∈ js, j.c < n + m
  ac : ∀ j ∈ js, j.a ≤ j.c
section
variable {P : Program} {w : World} {K : PySem.W.Frag} {mg : Str → Option Value} {base : Heap}
/-- a drawing is given -/
def isDr (CD CS : Addr) (d : D) (cs : List Str) (ls : Lgs) (js : List Jn) : Prop := ∃ (so : Srts) (kd : Knds), d = drD CD CS so kd cs ls js
def r_parts (CD CS : Addr) (ds : List D) (d : D) : Prop := ∃ (so : Srts) (kd : Knds) (cs : List Str) (ls : Lgs) (js : List Jn), ds = [drD CD CS so kd cs ls js] ∧ VD so kd cs ls js ∧ VP cs.length ls.length js ∧
  (∀ ps ∈ clss (marksF (cs.length + ls.length) js), (∀ j ∈ js, j.a ∈ ps → j.c ∈ ps) ∧ VD so kd (prtC cs ps) (prtL cs ls ps) (prtJ js ps)) ∧ d = .lst ((clss (marksF (cs.length + ls.length) js)).map fun ps => prtD CD CS so kd cs ls js ps)
theorem ok_parts (B : Bf mg) {CD CS : Addr} (S : DrF K CD) (c1 : CalP P w K mg base 2 "all_marks" (r_amarks CD CS)) (c2 : CalP P w K mg base 7 "part_of" (r_part CD CS)) {f : Addr} {fd : FuncData} (F : Fun K "parts" "parts" s_parts f fd) : FnOk P w K mg base CX0 8 f fd ["drawing"] (spP (r_parts CD CS)) := by
  refine fun_pu F (N := ["drawing", "marks", "found", "mark", "place"]) (C8.fnScope_by (by decide +kernel)) (fun ds d ⟨_, _, _, _, _, e, _⟩ => by rw [e]; rfl) fun cdv A outer s H E ds d hr ⟨so, kd, cs, ls, js, e, V, vp, hps, ed⟩ => ?_
  subst e ed
  have hN : (["drawing", "marks", "found", "mark", "place"] : List Str).Nodup := by decide
  have n6 := vp.n6
  have m6 := vp.m6
  let ms := marksF (cs.length + ls.length) js
  have ml : ms.length = cs.length + ls.length := marksF_len _ _
  let g (mk : Nat) : D := prtD CD CS so kd cs ls js (clsF ms mk)
  refine ab_set 1 (pu_call c1 hr ⟨so, kd, cs, ls, js, js, rfl, n6, m6, fun j h => ⟨vp.a j h, vp.c j h⟩, rfl⟩ (pas_cons (pu_var 0 rfl) (pas_cons (pu_fld S.cl S.joins (pu_var 0 rfl) rfl) pas_nil))) ?_ hN
  refine ab_setO 2 (nu_lst pas_nil) ?_ hN
  refine ab_for (ds := (sset ms).map En.e) (fun i => [.sh (drD CD CS so kd cs ls js), .sh (.lst (ms.map En.e)), .ow (((sset ms).take i).map g), .no, .no]) PassesOwn.never (pi_lst (nu_sortedSet (ns := ms) B.sorted B.set (pu_var 1 rfl) (by rw [ml]; omega)).pu) (Le.refl _) (fun i d hd => ?_) ?_
  · rw [List.getElem?_map] at hd
    obtain ⟨mk, hk, rfl⟩ := Option.map_eq_some_iff.1 hd
    have hmem : clsF ms mk ∈ clss ms := List.mem_map.2 ⟨mk, List.mem_of_getElem? hk, rfl⟩
    obtain ⟨h1, h2⟩ := hps _ hmem
    have cl : (clsF ms mk).length ≤ ms.length := by
      have := List.length_filter_le (fun p => decide (ms.getD p 0 = mk)) (List.range ms.length)
      rw [List.length_range] at this; exact this
    refine ⟨_, _, tg_name 3 hN, ?_⟩
    refine ab_append 2 rfl (pu_call c2 hr ⟨so, kd, cs, ls, js, clsF ms mk, rfl, V, List.nodup_range.filter _, fun p hp => ?_, by omega, h1, h2, rfl⟩ (pas_cons (pu_var 0 rfl) (pas_cons ((nu_filN [("place", 4)] 4 (List.range ms.length) En.e (fun p => decide (ms.getD p 0 = mk)) En.e (pi_rng (n := ms.length) B.range ((pu_lenL B.len (pu_var 1 rfl)).is (by rw [List.length_map])) (by omega)) (fun p hp s H C cl fp => pt_eqT (ms.getD p 0) mk hr (pu_ixL (k := p) (pu_var 1 rfl) (pu_var 4 rfl) (by rw [List.getElem?_map, getD_some (d := 0) (List.mem_range.1 hp)]; rfl)) (pu_var 3 rfl)) (fun p hp hf s H C cl fp => pu_var 4 rfl) (hl := by rw [List.length_range]; omega) (hN := hN)).pu) pas_nil))) ?_ ?_
    · have := List.mem_range.1 (List.mem_filter.1 hp).1
      rw [ml] at this; exact this
    · refine ab_nil ?_
      have e3 : ((sset ms).take i).map g ++ [g mk] = ((sset ms).take (i + 1)).map g := (take_mapS g hk).symm
      show Le [_, _, _, _, _] [_, _, Sl.ow (((sset ms).take i).map g ++ [g mk]), _, _]
      rw [e3]
      exact .eq (.eq (.eq (.no (.no .nil))))
    · rw [List.length_map, List.length_take]
      have := sset_len ms
      omega
  refine ab_share 2 rfl (ab_ret (pu_var 2 rfl) ?_)
  show D.lst _ = D.lst ((clss ms).map _)
  rw [List.length_map, List.take_length]
  unfold clss
  rw [List.map_map]; rfl
def r_whole_d (CD CS : Addr) (ds : List D) (d : D) : Prop := ∃ (so : Srts) (kd : Knds) (cs : List Str) (ls : Lgs) (js : List Jn), ds = [drD CD CS so kd cs ls js] ∧ VP cs.length ls.length js ∧ d = .bl (decide (nComp (cs.length + ls.length) js = 1))
theorem int_one (n : Nat) : decide ((n : Int) = 1) = decide (n = 1) := decide_eq_decide.2 (by omega)
theorem ok_is_whole_parts (B : Bf mg) {CD CS : Addr} (S : DrF K CD) (c1 : CalP P w K mg base 2 "all_marks" (r_amarks CD CS)) {f : Addr} {fd : FuncData} (F : Fun K "is_whole" "is_whole" s_is_whole_parts f fd) : FnOk P w K mg base CX0 3 f fd ["drawing"] (spP (r_whole_d CD CS)) := by
  refine fun_pu F (N := ["drawing"]) (C8.fnScope_by (by decide +kernel)) (fun ds d ⟨_, _, _, _, _, e, _⟩ => by rw [e]; rfl) fun cdv A outer s H E ds d hr ⟨so, kd, cs, ls, js, e, vp, ed⟩ => ?_
  subst e ed
  have n6 := vp.n6
  have m6 := vp.m6
  refine ab_ret (pu_eqI hr (pu_lenSetI (ns := marksF (cs.length + ls.length) js) B.len B.set (pu_call c1 hr ⟨so, kd, cs, ls, js, js, rfl, n6, m6, fun j h => ⟨vp.a j h, vp.c j h⟩, rfl⟩ (pas_cons (pu_var 0 rfl) (pas_cons (pu_fld S.cl S.joins (pu_var 0 rfl) rfl) pas_nil))) (by rw [marksF_len]; omega)) pu_int) ?_
  exact congrArg D.bl (int_one _)
def r_inner (CD CS : Addr) (ds : List D) (d : D) : Prop := ∃ (so : Srts) (kd : Knds) (cs : List Str) (ls : Lgs) (js : List Jn), ds = [drD CD CS so kd cs ls js] ∧ js.length ≤ 18 ∧ d = jsD (innF cs.length js)
theorem ok_inner_joins (B : Bf mg) {CD CS : Addr} (S : DrF K CD) {f : Addr} {fd : FuncData} (F : Fun K "inner_joins" "inner_joins" s_inner_joins f fd) : FnOk P w K mg base CX0 1 f fd ["drawing"] (spP (r_inner CD CS)) := by
  refine fun_pu F (N := ["drawing", "join"]) (C8.fnScope_by (by decide +kernel)) (fun ds d ⟨_, _, _, _, _, e, _⟩ => by rw [e]; rfl) fun cdv A outer s H E ds d hr ⟨so, kd, cs, ls, js, e, hl, ed⟩ => ?_
  subst e ed
  have hN : (["drawing", "join"] : List Str).Nodup := by decide
  exact ab_ret (nu_filN [("join", 1)] 1 js En.e (fun j => decide (j.c < cs.length)) En.e (pi_lst (pu_fld (d := jsD js) S.cl S.joins (pu_var 0 rfl) rfl)) (fun j h s H C cl fp => (pt_lt (pu_ixT (k := 2) (pu_var 1 rfl) pu_int rfl) (pu_lenL B.len (pu_fld (d := csD cs) S.cl S.corners (pu_var 0 rfl) rfl))).is (by rw [List.length_map]; simp)) (fun j h hf s H C cl fp => pu_var 1 rfl) (hl := by omega) (hN := hN)).pu rfl
def r_less (ds : List D) (d : D) : Prop := ∃ (js : List Jn) (j : Jn), ds = [jsD js, En.e j] ∧ js.length ≤ 900 ∧ j ∈ js ∧ d = jsD (lessF js j)
theorem eraseIdx_map {α β : Type} (f : α → β) (xs : List α) (i : Nat) : (xs.map f).eraseIdx i = (xs.eraseIdx i).map f := by
  rw [List.eraseIdx_eq_take_drop_succ, List.eraseIdx_eq_take_drop_succ, List.map_append, List.map_take, List.map_drop]
theorem ok_without {f : Addr} {fd : FuncData} (F : Fun K "without" "without" s_without f fd) : FnOk P w K mg base CX0 1 f fd ["joins", "join"] (spP r_less) := by
  refine fun_pu F (N := ["joins", "join", "at"]) (C8.fnScope_by (by decide +kernel)) (fun ds d ⟨_, _, e, _⟩ => by rw [e]; rfl) fun cdv A outer s H E ds d hr ⟨js, j, e, hl, hj, ed⟩ => ?_
  subst e ed
  have hN : (["joins", "join", "at"] : List Str).Nodup := by decide
  refine ab_set 2 (pu_index (x := j) (xs := js) hr (pu_var 0 rfl) (pu_var 1 rfl) hj) ?_ hN
  refine ab_ret (nu_cat (nu_slice (pu_var 0 rfl) po_n (po_s (pu_var 2 rfl))).pu (nu_slice (pu_var 0 rfl) (po_s ((pu_add (pu_var 2 rfl) pu_int).is (d' := .int ((js.idxOf j + 1 : Nat) : Int)) (congrArg D.int (by omega)))) po_n).pu ?_).pu ?_
  · rw [cut_take, cut_drop, List.length_take, List.length_drop, List.length_map]; omega
  · rw [cut_take, cut_drop, ← List.eraseIdx_eq_take_drop_succ, eraseIdx_map]; rfl
def r_cuts (CD CS : Addr) (ds : List D) (d : D) : Prop := ∃ (so : Srts) (kd : Knds) (cs : List Str) (ls : Lgs) (js : List Jn), ds = [drD CD CS so kd cs ls js] ∧ VP cs.length ls.length js ∧ d = jsD (cutsF cs.length ls.length js)
theorem take_filter {α : Type} {xs : List α} {i : Nat} {x : α} (f : α → Bool) (h : xs[i]? = some x) : (xs.take (i + 1)).filter f = (xs.take i).filter f ++ if f x = true then [x] else [] := by
  rw [List.take_add_one, h, List.filter_append]
  cases q : f x <;> simp [q]
theorem ok_cuts (B : Bf mg) {CD CS : Addr} (S : DrF K CD) (c1 : CalP P w K mg base 2 "all_marks" (r_amarks CD CS)) (c2 : CalP P w K mg base 1 "inner_joins" (r_inner CD CS)) (c3 : CalP P w K mg base 1 "without" r_less) {f : Addr} {fd : FuncData} (F : Fun K "cuts" "cuts" s_cuts f fd) : FnOk P w K mg base CX0 3 f fd ["drawing"] (spP (r_cuts CD CS)) := by
  refine fun_pu F (N := ["drawing", "many", "found", "join"]) (C8.fnScope_by (by decide +kernel)) (fun ds d ⟨_, _, _, _, _, e, _⟩ => by rw [e]; rfl) fun cdv A outer s H E ds d hr ⟨so, kd, cs, ls, js, e, vp, ed⟩ => ?_
  subst e ed
  have hN : (["drawing", "many", "found", "join"] : List Str).Nodup := by decide
  have n6 := vp.n6
  have m6 := vp.m6
  have jl := vp.l
  let g (j : Jn) : Bool := decide (nComp (cs.length + ls.length) js < nComp (cs.length + ls.length) (lessF js j))
  refine ab_set 1 (pu_lenSetI (ns := marksF (cs.length + ls.length) js) B.len B.set (pu_call c1 hr ⟨so, kd, cs, ls, js, js, rfl, n6, m6, fun j h => ⟨vp.a j h, vp.c j h⟩, rfl⟩ (pas_cons (pu_var 0 rfl) (pas_cons (pu_fld S.cl S.joins (pu_var 0 rfl) rfl) pas_nil))) (by rw [marksF_len]; omega)) ?_ hN
  refine ab_setO 2 (nu_lst pas_nil) ?_ hN
  refine ab_for (ds := (innF cs.length js).map En.e) (fun i => [.sh (drD CD CS so kd cs ls js), .sh (.int (nComp (cs.length + ls.length) js : Nat)), .ow ((((innF cs.length js).take i).filter g).map En.e), .no]) PassesOwn.never (pi_lst (pu_call c2 hr ⟨so, kd, cs, ls, js, rfl, jl, rfl⟩ (pas_cons (pu_var 0 rfl) pas_nil))) (Le.refl _) (fun i d hd => ?_) ?_
  · rw [List.getElem?_map] at hd
    obtain ⟨j, hk, rfl⟩ := Option.map_eq_some_iff.1 hd
    have hj : j ∈ js := (List.mem_filter.1 (List.mem_of_getElem? hk)).1
    refine ⟨_, _, tg_name 3 hN, ?_⟩
    refine ab_if (t := g j) ((pt_gt (pu_lenSetI (ns := marksF (cs.length + ls.length) (lessF js j)) B.len B.set (pu_call c1 hr ⟨so, kd, cs, ls, js, lessF js j, rfl, n6, m6, fun j' h => ⟨vp.a j' (lessF_mem h), vp.c j' (lessF_mem h)⟩, rfl⟩ (pas_cons (pu_var 0 rfl) (pas_cons (pu_call c3 hr ⟨js, j, rfl, by omega, hj, rfl⟩ (pas_cons (pu_fld S.cl S.joins (pu_var 0 rfl) rfl) (pas_cons (pu_var 3 rfl) pas_nil))) pas_nil))) (by rw [marksF_len]; omega)) (pu_var 1 rfl)).is ?_) (fun z => ?_) (fun z => ?_)
    · exact decide_eq_decide.2 (by unfold nComp; omega)
    · refine ab_append 2 rfl (pu_var 3 rfl) (ab_nil (ab_nil ?_)) ?_
      · have e3 : (((innF cs.length js).take i).filter g).map En.e ++ [En.e j] = (((innF cs.length js).take (i + 1)).filter g).map En.e := by rw [take_filter g hk, if_pos z]; exact (List.map_append (l₁ := ((innF cs.length js).take i).filter g) (l₂ := [j])).symm
        show Le [_, _, _, _] [_, _, Sl.ow ((((innF cs.length js).take i).filter g).map En.e ++ [En.e j]), _]
        rw [e3]
        exact .eq (.eq (.eq (.no .nil)))
      · rw [List.length_map]
        have h1 := List.length_filter_le g ((innF cs.length js).take i)
        have h2 : (innF cs.length js).length ≤ js.length := List.length_filter_le (fun j : Jn => decide (j.c < cs.length)) js
        rw [List.length_take] at h1
        omega
    · refine ab_nil (ab_nil ?_)
      have e3 : (((innF cs.length js).take i).filter g).map En.e = (((innF cs.length js).take (i + 1)).filter g).map (En.e (α := Jn)) := by rw [take_filter g hk, if_neg (by rw [z]; exact Bool.false_ne_true), List.append_nil]
      show Le [_, _, _, _] [_, _, Sl.ow ((((innF cs.length js).take i).filter g).map En.e), _]
      rw [e3]
      exact .eq (.eq (.eq (.no .nil)))
  refine ab_share 2 rfl (ab_ret (pu_var 2 rfl) ?_)
  rw [List.length_map, List.take_length]; rfl
def r_free (CD CS : Addr) (ds : List D) (d : D) : Prop := ∃ (so : Srts) (kd : Knds) (cs : List Str) (ls : Lgs) (js : List Jn), ds = [drD CD CS so kd cs ls js] ∧ VP cs.length ls.length js ∧ d = .bl (decide (nComp (cs.length + ls.length) js = 1) && (decide (cs ≠ []) && decide (cutsF cs.length ls.length js = [])))
theorem ok_is_free (B : Bf mg) {CD CS : Addr} (S : DrF K CD) (c1 : CalP P w K mg base 3 "is_whole_parts" (r_whole_d CD CS)) (c2 : CalP P w K mg base 3 "cuts" (r_cuts CD CS)) {f : Addr} {fd : FuncData} (F : Fun K "is_free" "is_free" s_is_free f fd) : FnOk P w K mg base CX0 4 f fd ["drawing"] (spP (r_free CD CS)) := by
  refine fun_pu F (N := ["drawing"]) (C8.fnScope_by (by decide +kernel)) (fun ds d ⟨_, _, _, _, _, e, _⟩ => by rw [e]; rfl) fun cdv A outer s H E ds d hr ⟨so, kd, cs, ls, js, e, vp, ed⟩ => ?_
  subst e ed
  refine ab_ret (pu_and (pu_call c1 hr ⟨so, kd, cs, ls, js, rfl, vp, rfl⟩ (pas_cons (pu_var 0 rfl) pas_nil)) fun _ => pu_and (pu_neT cs [] hr (pu_fld S.cl S.corners (pu_var 0 rfl) rfl) (nu_lst pas_nil).pu) fun _ => pu_one (pu_eqT (cutsF cs.length ls.length js) [] hr (pu_call c2 hr ⟨so, kd, cs, ls, js, rfl, vp, rfl⟩ (pas_cons (pu_var 0 rfl) pas_nil)) (nu_lst pas_nil).pu)) ?_
  congr
def r_pieces (CD CS : Addr) (ds : List D) (d : D) : Prop := ∃ (so : Srts) (kd : Knds) (cs : List Str) (ls : Lgs) (js : List Jn), ds = [drD CD CS so kd cs ls js] ∧ VP cs.length ls.length js ∧ d = .lst ((piecesF cs.length ls.length js).map En.e)
theorem ok_pieces (B : Bf mg) {CD CS : Addr} (S : DrF K CD) (c1 : CalP P w K mg base 3 "cuts" (r_cuts CD CS)) (c2 : CalP P w K mg base 1 "inner_joins" (r_inner CD CS)) (c3 : CalP P w K mg base 1 "marks_by" r_marks) {f : Addr} {fd : FuncData} (F : Fun K "pieces" "pieces" s_pieces f fd) : FnOk P w K mg base CX0 4 f fd ["drawing"] (spP (r_pieces CD CS)) := by
  refine fun_pu F (N := ["drawing", "gone", "marks", "found", "mark", "join", "place"]) (C8.fnScope_by (by decide +kernel)) (fun ds d ⟨_, _, _, _, _, e, _⟩ => by rw [e]; rfl) fun cdv A outer s H E ds d hr ⟨so, kd, cs, ls, js, e, vp, ed⟩ => ?_
  subst e ed
  have hN : (["drawing", "gone", "marks", "found", "mark", "join", "place"] : List Str).Nodup := by decide
  have n6 := vp.n6
  have jl := vp.l
  let ks := (innF cs.length js).filter fun j => decide (j ∉ cutsF cs.length ls.length js)
  let ms := marksF cs.length ks
  have ml : ms.length = cs.length := marksF_len _ _
  have il : (innF cs.length js).length ≤ 1000 := by
    have h2 := List.length_filter_le (fun j : Jn => decide (j.c < cs.length)) js
    unfold innF
    omega
  have hks : ∀ j ∈ ks, j.a < cs.length ∧ j.c < cs.length := fun j h => by
    have h1 := List.mem_filter.1 (List.mem_filter.1 h).1
    have h2 : j.c < cs.length := of_decide_eq_true h1.2
    exact ⟨Nat.lt_of_le_of_lt (vp.ac j h1.1) h2, h2⟩
  refine ab_set 1 (pu_call c1 hr ⟨so, kd, cs, ls, js, rfl, vp, rfl⟩ (pas_cons (pu_var 0 rfl) pas_nil)) ?_ hN
  refine ab_set 2 (pu_call c3 hr ⟨cs.length, ks, rfl, by omega, hks, rfl⟩ (pas_cons ((pu_lenL B.len (pu_fld (d := csD cs) S.cl S.corners (pu_var 0 rfl) rfl)).is (by rw [List.length_map])) (pas_cons (nu_filN [("join", 5)] 5 (innF cs.length js) En.e (fun j => decide (j ∉ cutsF cs.length ls.length js)) En.e (pi_lst (pu_call c2 hr ⟨so, kd, cs, ls, js, rfl, jl, rfl⟩ (pas_cons (pu_var 0 rfl) pas_nil))) (fun j h s H C cl fp => (pt_niT j (cutsF cs.length ls.length js) hr (pu_var 5 rfl) (pu_var 1 rfl)).is (decide_eq_decide.2 Iff.rfl)) (fun j h hf s H C cl fp => pu_var 5 rfl) (hl := il) (hN := hN)).pu pas_nil))) ?_ hN
  refine ab_setO 3 (nu_lst pas_nil) ?_ hN
  refine ab_for (ds := (sset ms).map En.e) (fun i => [.sh (drD CD CS so kd cs ls js), .sh (jsD (cutsF cs.length ls.length js)), .sh (.lst (ms.map En.e)), .ow ((((sset ms).take i).map (clsF ms)).map En.e), .no, .no, .no]) PassesOwn.never (pi_lst (nu_sortedSet (ns := ms) B.sorted B.set (pu_var 2 rfl) (by rw [ml]; omega)).pu) (Le.refl _) (fun i d hd => ?_) ?_
  · rw [List.getElem?_map] at hd
    obtain ⟨mk, hk, rfl⟩ := Option.map_eq_some_iff.1 hd
    refine ⟨_, _, tg_name 4 hN, ?_⟩
    refine ab_append 3 rfl (nu_filN [("place", 6)] 6 (List.range ms.length) En.e (fun p => decide (ms.getD p 0 = mk)) En.e (pi_rng (n := ms.length) B.range ((pu_lenL B.len (pu_var 2 rfl)).is (by rw [List.length_map])) (by omega)) (fun p hp s H C cl fp => pt_eqT (ms.getD p 0) mk hr (pu_ixL (k := p) (pu_var 2 rfl) (pu_var 6 rfl) (by rw [List.getElem?_map, getD_some (d := 0) (List.mem_range.1 hp)]; rfl)) (pu_var 4 rfl)) (fun p hp hf s H C cl fp => pu_var 6 rfl) (hl := by rw [List.length_range]; omega) (hN := hN)).pu ?_ ?_
    · refine ab_nil ?_
      have e3 : (((sset ms).take i).map (clsF ms)).map En.e ++ [En.e (clsF ms mk)] = (((sset ms).take (i + 1)).map (clsF ms)).map En.e := by rw [take_mapS (clsF ms) hk]; exact (List.map_append (l₁ := ((sset ms).take i).map (clsF ms)) (l₂ := [clsF ms mk])).symm
      show Le [_, _, _, _, _, _, _] [_, _, _, Sl.ow ((((sset ms).take i).map (clsF ms)).map En.e ++ [En.e (clsF ms mk)]), _, _, _]
      rw [e3]
      exact .eq (.eq (.eq (.eq (.no (.no (.no .nil))))))
    · rw [List.length_map, List.length_map, List.length_take]
      have := sset_len ms
      omega
  refine ab_share 3 rfl (ab_ret (pu_var 3 rfl) ?_)
  show D.lst _ = D.lst ((clss ms).map _)
  rw [List.length_map, List.take_length]; rfl
end
end R87
namespace R87
open PySem PySem.Spec PyProof.Rows L2
open PySem.W (Tup T4 T3 DatumOrd Datum)
/-- a place as named_joins tells it: a corner's number, a leg's name -/
inductive Pl where
  | num (n : Nat) | nm (s : Str)
deriving DecidableEq
instance : Datum Pl where
  toD | .num n => .int (n : Int) | .nm s => .str s
  plain a := by cases a <;> rfl
  eqv a b := by
    cases a with
    | num n => cases b with
      | num m =>
        simp only [PyData.eqv, Pl.num.injEq]
        rw [Bool.eq_iff_iff, beq_iff_eq, decide_eq_true_eq]; omega
      | nm s => simp [PyData.eqv]
    | nm s => cases b with
      | num m => simp [PyData.eqv]
      | nm t =>
        simp only [PyData.eqv, Pl.nm.injEq]
        rw [Bool.eq_iff_iff, beq_iff_eq, decide_eq_true_eq]
  depth := 0
  depth_le a := by cases a <;> exact Nat.le_refl _
instance : En Pl := ⟨fun | .num n => .int (n : Int) | .nm s => .str s, fun {K G v a} r => by
  cases a with
  | num n => cases r; exact .int _
  | nm s => cases r; exact .str _⟩
abbrev PE2 := Pl × Str
abbrev NJ := PE2 × PE2
def spotF (n : Nat) (ls : Lgs) (p : Nat) : Pl := if p < n then .num p else .nm (ls.getD (p - n) ((⟨#[]⟩ : Str), (⟨#[]⟩ : Str))).1
def namedF (n : Nat) (ls : Lgs) (js : List Jn) : List NJ := js.map fun j => ((spotF n ls j.a, j.b), (spotF n ls j.c, j.d))
def resF (many : Nat) (names : List Str) : Pl → Nat
  | .num n => n
  | .nm s => many + names.idxOf s
def withF (n : Nat) (ls : Lgs) (nj : List NJ) : List Jn := sortT (nj.map fun p => joinedF (resF n (ls.map (·.1)) p.1.1, p.1.2) (resF n (ls.map (·.1)) p.2.1, p.2.2))
def farF (nj : List NJ) (name : Str) : Option PE2 := nj.foldl (fun acc p => if p.2.1 = .nm name then some p.1 else if p.1.1 = .nm name then some p.2 else acc) none
def optD : Option PE2 → D
  | none => .non
  | some x => En.e x
theorem range_num (n : Nat) : (List.range n).map (En.e (α := Nat)) = ((List.range n).map Pl.num).map (En.e (α := Pl)) := by rw [List.map_map]; rfl
theorem legs_nm (ls : Lgs) : (ls.map fun q => D.str q.1) = (ls.map fun q => Pl.nm q.1).map (En.e (α := Pl)) := by rw [List.map_map]; rfl
theorem names_nm (ls : Lgs) : (ls.map fun q => D.str q.1) = ((ls.map (·.1)).map Pl.nm).map (En.e (α := Pl)) := by rw [List.map_map, List.map_map]; rfl
theorem spot_at {n : Nat} {ls : Lgs} {p : Nat} (h : p < n + ls.length) : ((List.range n).map Pl.num ++ ls.map fun q => Pl.nm q.1)[p]? = some (spotF n ls p) := by
  unfold spotF
  by_cases z : p < n
  · rw [if_pos z, List.getElem?_append_left (by rw [List.length_map, List.length_range]; exact z), List.getElem?_map, List.getElem?_range z]; rfl
  · rw [if_neg z, List.getElem?_append_right (by rw [List.length_map, List.length_range]; omega), List.length_map, List.length_range, List.getElem?_map, getD_some (d := ((⟨#[]⟩ : Str), (⟨#[]⟩ : Str))) (by omega)]; rfl
theorem idx_nm (names : List Str) (s : Str) : (names.map Pl.nm).idxOf (Pl.nm s) = names.idxOf s := by
  induction names with
  | nil => rfl
  | cons x xs ih =>
    rw [List.map_cons, List.idxOf_cons, List.idxOf_cons, ih]
    by_cases h : x = s
    · subst h; simp
    · have h1 : (x == s) = false := beq_eq_false_iff_ne.2 h
      have h2 : (Pl.nm x == Pl.nm s) = false := beq_eq_false_iff_ne.2 (fun e => h (by injection e))
      rw [h1, h2]
section
variable {P : Program} {w : World} {K : PySem.W.Frag} {mg : Str → Option Value} {base : Heap}
def r_names (CD CS : Addr) (ds : List D) (d : D) : Prop := ∃ (so : Srts) (kd : Knds) (cs : List Str) (ls : Lgs) (js : List Jn) (a b : Str), ds = [drD CD CS so kd cs ls js, En.e (a, b)] ∧ ls.length ≤ 6 ∧ Nm a ∧ Nm b ∧ a ≠ b ∧ a ∉ ls.map (·.1) ∧ b ∉ ls.map (·.1) ∧ d = .bl true
theorem ok_are_names (B : Bf mg) {CD CS : Addr} (S : DrF K CD) (c1 : CalP P w K mg base 1 "is_name" r_name) {f : Addr} {fd : FuncData} (F : Fun K "are_names" "are_names" s_are_names f fd) : FnOk P w K mg base CX0 2 f fd ["drawing", "thing"] (spP (r_names CD CS)) := by
  refine fun_pu F (N := ["drawing", "thing", "names", "name", "sort"]) (C8.fnScope_by (by decide +kernel)) (fun ds d ⟨_, _, _, _, _, _, _, e, _⟩ => by rw [e]; rfl) fun cdv A outer s H E ds d hr ⟨so, kd, cs, ls, js, a, b, e, hl, ha, hb, hab, na, nb, ed⟩ => ?_
  subst e ed
  have hN : (["drawing", "thing", "names", "name", "sort"] : List Str).Nodup := by decide
  refine ab_ifF ((pw_or' (pt_nt (pu_isTup B (pu_var 1 rfl))) fun _ => pw_or' (pt_neI hr (pu_lenT B.len (pu_var 1 rfl)) pu_int) fun _ => pw_or' (pt_nt (t := true) (pu_call c1 hr ⟨a, rfl, ha, rfl⟩ (pas_cons (pu_ixT (k := 0) (pu_var 1 rfl) pu_int rfl) pas_nil))) fun _ => pw_or1' (pt_nt (t := true) (pu_call c1 hr ⟨b, rfl, hb, rfl⟩ (pas_cons (pu_ixT (k := 1) (pu_var 1 rfl) pu_int rfl) pas_nil)))).pt.is (by rfl)) ?_
  refine ab_setC 2 (lc_map2 [("name", 3), ("sort", 4)] 3 4 ls (fun q => .str q.1) (fun q => .str q.2) (fun q => .str q.1) (pi_lst (pu_fld (d := lgD ls) S.cl S.legs (pu_var 0 rfl) rfl)) (fun q hq s H C cl fp => pu_var 3 rfl) (hl := by omega)) ?_
  have e1 : (ls.map fun q => D.str q.1) = (ls.map (·.1)).map (En.e (α := Str)) := by rw [List.map_map]; rfl
  refine ab_share 2 rfl (ab_ret (pu_and (pu_neS hr (pu_ixT (k := 0) (pu_var 1 rfl) pu_int rfl) (pu_ixT (k := 1) (pu_var 1 rfl) pu_int rfl)) fun _ => pu_and (pu_niT a (ls.map (·.1)) hr (pu_ixT (k := 0) (pu_var 1 rfl) pu_int rfl) ((pu_var 2 rfl).is (congrArg D.lst e1))) fun _ => pu_one (pu_niT b (ls.map (·.1)) hr (pu_ixT (k := 1) (pu_var 1 rfl) pu_int rfl) ((pu_var 2 rfl).is (congrArg D.lst e1)))) ?_)
  rw [dec_true hab, dec_true na, dec_true nb]; rfl
def r_named (CD CS : Addr) (ds : List D) (d : D) : Prop := ∃ (so : Srts) (kd : Knds) (cs : List Str) (ls : Lgs) (js ks : List Jn), ds = [drD CD CS so kd cs ls js, jsD ks] ∧ cs.length ≤ 6 ∧ ls.length ≤ 6 ∧ ks.length ≤ 900 ∧ (∀ j ∈ ks, j.a < cs.length + ls.length ∧ j.c < cs.length + ls.length) ∧ d = .lst ((namedF cs.length ls ks).map En.e)
theorem ok_named_joins (B : Bf mg) {CD CS : Addr} (S : DrF K CD) {f : Addr} {fd : FuncData} (F : Fun K "named_joins" "named_joins" s_named_joins f fd) : FnOk P w K mg base CX0 1 f fd ["drawing", "joins"] (spP (r_named CD CS)) := by
  refine fun_pu F (N := ["drawing", "joins", "names", "name", "sort", "place", "far", "partner"]) (C8.fnScope_by (by decide +kernel)) (fun ds d ⟨_, _, _, _, _, _, e, _⟩ => by rw [e]; rfl) fun cdv A outer s H E ds d hr ⟨so, kd, cs, ls, js, ks, e, h1, h2, hl, hj, ed⟩ => ?_
  subst e ed
  have hN : (["drawing", "joins", "names", "name", "sort", "place", "far", "partner"] : List Str).Nodup := by decide
  let nm : List Pl := (List.range cs.length).map Pl.num ++ ls.map fun q => Pl.nm q.1
  refine ab_setO 2 ((nu_cat (nu_listRange1 (k := cs.length) B.range B.list ((pu_lenL B.len (pu_fld (d := csD cs) S.cl S.corners (pu_var 0 rfl) rfl)).is (by rw [List.length_map])) (by omega)).pu (nu_map2 [("name", 3), ("sort", 4)] 3 4 ls (fun q => .str q.1) (fun q => .str q.2) (fun q => .str q.1) (pi_lst (pu_fld (d := lgD ls) S.cl S.legs (pu_var 0 rfl) rfl)) (fun q hq s H C cl fp => pu_var 3 rfl) (hl := by omega) (hN := hN)).pu ?_).is (d' := nm.map En.e) ?_) ?_ hN
  · rw [List.length_map, List.length_map, List.length_range]; omega
  · rw [range_num, legs_nm, ← List.map_append]
  refine ab_share 2 rfl (ab_ret (nu_map4 [("place", 5), ("sort", 4), ("far", 6), ("partner", 7)] 5 4 6 7 ks (fun j => .int (j.a : Int)) (fun j => .str j.b) (fun j => .int (j.c : Int)) (fun j => .str j.d) (fun j => En.e (((spotF cs.length ls j.a, j.b), (spotF cs.length ls j.c, j.d)) : NJ)) (pi_lst (pu_var 1 rfl)) (fun j h s H C cl fp => ?_) (hl := by omega) (hN := hN)).pu ?_)
  · obtain ⟨b1, b2⟩ := hj j h
    exact pu_tup (pas_cons (pu_tup (pas_cons (pu_ixL (k := j.a) (pu_var 2 rfl) (pu_var 5 rfl) (by rw [List.getElem?_map, spot_at b1]; rfl)) (pas_cons (pu_var 4 rfl) pas_nil))) (pas_cons (pu_tup (pas_cons (pu_ixL (k := j.c) (pu_var 2 rfl) (pu_var 6 rfl) (by rw [List.getElem?_map, spot_at b2]; rfl)) (pas_cons (pu_var 7 rfl) pas_nil))) pas_nil))
  · unfold namedF; rw [List.map_map]; rfl
def r_far (ds : List D) (d : D) : Prop := ∃ (nj : List NJ) (name : Str), ds = [.lst (nj.map En.e), .str name] ∧ d = optD (farF nj name)
theorem ok_far_end {f : Addr} {fd : FuncData} (F : Fun K "far_end" "far_end" s_far_end f fd) : FnOk P w K mg base CX0 1 f fd ["joins", "name"] (spP r_far) := by
  refine fun_pu F (N := ["joins", "name", "found", "first", "second"]) (C8.fnScope_by (by decide +kernel)) (fun ds d ⟨_, _, e, _⟩ => by rw [e]; rfl) fun cdv A outer s H E ds d hr ⟨nj, name, e, ed⟩ => ?_
  subst e ed
  have hN : (["joins", "name", "found", "first", "second"] : List Str).Nodup := by decide
  refine ab_set 2 pu_non ?_ hN
  refine ab_for (ds := nj.map En.e) (fun i => [.sh (.lst (nj.map En.e)), .sh (.str name), .sh (optD (farF (nj.take i) name)), .no, .no]) PassesOwn.never (pi_lst (pu_var 0 rfl)) (Le.refl _) (fun i d hd => ?_) ?_
  · rw [List.getElem?_map] at hd
    obtain ⟨p, hk, rfl⟩ := Option.map_eq_some_iff.1 hd
    refine ⟨_, _, tg_tup (tgs_cons (tg_name 3 hN) (tgs_cons (tg_name 4 hN) tgs_nil)), ?_⟩
    have e4 : farF (nj.take (i + 1)) name = if p.2.1 = .nm name then some p.1 else if p.1.1 = .nm name then some p.2 else farF (nj.take i) name := by
      unfold farF
      rw [List.take_add_one, hk, List.foldl_append]; rfl
    have last : ∀ acc : Option PE2, (optD (if p.2.1 = .nm name then some p.1 else acc)) = optD (farF (nj.take (i + 1)) name) → AB (cxOf CX0 P w K mg base ["joins", "name", "found", "first", "second"] "far_end" (defScope s_far_end) f cdv A outer s H E).nox m0 ((defBody s_far_end).getD 1 (.Pass ⟨0, 0, 0, 0⟩) |> fun | .For _ _ b _ _ => b.drop 1 | _ => []) [.sh (.lst (nj.map En.e)), .sh (.str name), .sh (optD acc), .sh (En.e p.1), .sh (En.e p.2)]
        { nx := fun t => Le [.sh (.lst (nj.map En.e)), .sh (.str name), .sh (optD (farF (nj.take (i + 1)) name)), .no, .no] t, ct := fun t => Le [.sh (.lst (nj.map En.e)), .sh (.str name), .sh (optD (farF (nj.take (i + 1)) name)), .no, .no] t, bk := fun t => AB (cxOf CX0 P w K mg base ["joins", "name", "found", "first", "second"] "far_end" (defScope s_far_end) f cdv A outer s H E).nox m0 ((defBody s_far_end).drop 2) t { nx := fun _ => optD (farF nj name) = .non, rt := fun e _ => e = optD (farF nj name) }, rt := fun e _ => e = optD (farF nj name) } := fun acc hacc => by
      refine ab_if (t := decide (p.2.1 = .nm name)) (pt_eqT p.2.1 (.nm name) hr (pu_ixT (k := 0) (ds := [En.e p.2.1, .str p.2.2]) (pu_var 4 rfl) pu_int rfl) (pu_var 1 rfl)) (fun z => ?_) (fun z => ?_)
      · refine ab_set 2 (pu_var 3 rfl) (ab_nil (ab_nil ?_)) hN
        rw [if_pos (of_decide_eq_true z)] at hacc
        show Le [_, _, _, _, _] [_, _, Sl.sh (optD (some p.1)), _, _]
        rw [hacc]
        exact .eq (.eq (.eq (.no (.no .nil))))
      · refine ab_nil (ab_nil ?_)
        rw [if_neg (of_decide_eq_false z)] at hacc
        show Le [_, _, _, _, _] [_, _, Sl.sh (optD acc), _, _]
        rw [hacc]
        exact .eq (.eq (.eq (.no (.no .nil))))
    refine ab_if (t := decide (p.1.1 = .nm name)) (pt_eqT p.1.1 (.nm name) hr (pu_ixT (k := 0) (ds := [En.e p.1.1, .str p.1.2]) (pu_var 3 rfl) pu_int rfl) (pu_var 1 rfl)) (fun z => ?_) (fun z => ?_)
    · refine ab_set 2 (pu_var 4 rfl) (ab_nil ?_) hN
      refine last (some p.2) ?_
      rw [e4, if_pos (of_decide_eq_true z)]
    · refine ab_nil ?_
      refine last (farF (nj.take i) name) ?_
      rw [e4, if_neg (of_decide_eq_false z)]
  refine ab_ret (pu_var 2 rfl) ?_
  rw [List.length_map, List.take_length]
end
end R87
namespace R87
open PySem PySem.Spec PyProof.Rows L2
open PySem.W (Tup T4 T3 DatumOrd Datum)
def spNu (R : List D → List D → Prop) : Sp := fun vs H Q _ => ∃ G ds es, Ex G H ∧ RpA G vs ds ∧ R ds es ∧ ∀ p us G' H', Gr m0 G H G' H' → G' p = none → H p = none → H' p = some (.lst us) → RpA G' us es → Q (.ref p) H'
theorem spNu_spP {R : List D → List D → Prop} {R' : List D → D → Prop} (h : ∀ ds d, R' ds d → ∃ es, R ds es ∧ d = .lst es) : ∀ vs H Q E, spP R' vs H Q E → spNu R vs H Q E := fun vs H Q E ⟨G, ds, d, e, r, hR, k⟩ => by
  obtain ⟨es, h1, rfl⟩ := h ds d hR
  exact ⟨G, ds, es, e, r, h1, fun p us G' H' g h1 h2 h3 r => k _ _ H' (g.known h1 h2 h3) (.lst upd_same (r.ex (.new h1)))⟩
section
variable {X : Cx} {τ : List Sl} {e : Expr} {es : List Expr} {pos p : Pos} {n : Str} {ds us : List D}
theorem nu_call {R : List D → List D → Prop} {j k : Nat} (C : Cal X.prog X.w X.K X.mg X.base CX0 j n (spNu R)) (hr : Room k X.A) (hR : R ds us) (ha : Pa X (e :: es) τ ds) (hj : j ≤ k := by decide) (hg : Gl X n := by rfl) (hdb : (n == ("__debug__" : Str)) = false := by decide)
    (hs : (e :: es).all noStar = true := by rfl) : Nu X (.Call (.Name n p) (e :: es) [] pos) τ us := fun H0 G H σ ok Q q => by
  have hs' : noStar e = true ∧ es.all noStar = true := by rwa [List.all_cons, Bool.and_eq_true] at hs
  obtain ⟨f, fd, ps, F, hm, hk, hb⟩ := C.ex
  refine We.of (pe_call F (hr.mono hj) hg hm hk hb .nil pass0 pa_wa hdb (star_cons hs'.1) (plain_args hs'.2)) (ha H0 G H σ ok _ fun vs G1 H1 g1 r1 => ?_)
  show spNu R (vs ++ []) H1 Q E0
  rw [List.append_nil]
  exact ⟨G1, ds, us, g1.gh, r1, hR, fun t ws G2 H2 g2 h1 h2 h3 r2 => q t ws G2 H2 (g1.trans g2) h1 (g1.ex.back h2) h3 r2⟩
end
section
variable {P : Program} {w : World} {K : PySem.W.Frag} {mg : Str → Option Value} {base : Heap}
theorem fun_nu {x qual : Str} {st : Stmt} {f : Addr} {fd : FuncData} {N ps : List Str} {k : Nat} {R : List D → List D → Prop} (F : Fun K x qual st f fd) (S : FnScope N ps (defScope st)) (len : ∀ ds d, R ds d → ds.length = ps.length)
    (hbody : ∀ (cdv : Value) (A : Around) (outer : List Env) (s : Shared) (H : Hp) (E : XK) (ds es : List D) (G : Hp) (σ : L2.St) (Dn : Ends), Room k (A.deeper (envOfC qual (defScope st) s.heap.objs.size f cdv)) → R ds es → Ok H G H (ent N ds) σ →
      (∀ p us G' H', Gr m0 G H G' H' → G' p = none → H p = none → H' p = some (.lst us) → RpA G' us es → Dn.rt (.ref p) H') → Wb (cxOf CX0 P w K mg base N qual (defScope st) f cdv A outer s H E).nox (defBody st) Dn σ H) : FnOk P w K mg base CX0 (k + 1) f fd ps (spNu R) := by
  refine F.ok S (fun vs H Q E h => ?_) (fun cdv A outer s H vs Q E hr h => ?_)
  · obtain ⟨G, ds, es, _, r, hR, _⟩ := h
    rw [r.length]; exact len ds es hR
  · obtain ⟨G, ds, es, e, r, hR, c⟩ := h
    exact ⟨_, pss_wb, hbody cdv A outer s H E ds es G _ { nx := fun _ H' => Q .non H', rt := Q } hr hR (ok_ent e r) fun p us G' H' g h1 h2 h3 r => c p us G' H' g h1 h2 h3 r⟩
def r_namedN (CD CS : Addr) (ds es : List D) : Prop := ∃ (so : Srts) (kd : Knds) (cs : List Str) (ls : Lgs) (js ks : List Jn), ds = [drD CD CS so kd cs ls js, jsD ks] ∧ cs.length ≤ 6 ∧ ls.length ≤ 6 ∧ ks.length ≤ 900 ∧ (∀ j ∈ ks, j.a < cs.length + ls.length ∧ j.c < cs.length + ls.length) ∧ es = (namedF cs.length ls ks).map En.e
theorem ok_named_joinsN (B : Bf mg) {CD CS : Addr} (S : DrF K CD) {f : Addr} {fd : FuncData} (F : Fun K "named_joins" "named_joins" s_named_joins f fd) : FnOk P w K mg base CX0 1 f fd ["drawing", "joins"] (spNu (r_namedN CD CS)) := by
  refine fun_nu F (N := ["drawing", "joins", "names", "name", "sort", "place", "far", "partner"]) (C8.fnScope_by (by decide +kernel)) (fun ds d ⟨_, _, _, _, _, _, e, _⟩ => by rw [e]; rfl) fun cdv A outer s H E ds es G σ Dn hr ⟨so, kd, cs, ls, js, ks, e, h1, h2, hl, hj, ed⟩ ok fin => ?_
  subst e ed
  have hN : (["drawing", "joins", "names", "name", "sort", "place", "far", "partner"] : List Str).Nodup := by decide
  let nm : List Pl := (List.range cs.length).map Pl.num ++ ls.map fun q => Pl.nm q.1
  refine wb_set (d := .lst (nm.map En.e)) 2 ok ((nu_cat (nu_listRange1 (k := cs.length) B.range B.list ((pu_lenL B.len (pu_fld (d := csD cs) S.cl S.corners (pu_var 0 rfl) rfl)).is (by rw [List.length_map])) (by omega)).pu (nu_map2 [("name", 3), ("sort", 4)] 3 4 ls (fun q => .str q.1) (fun q => .str q.2) (fun q => .str q.1) (pi_lst (pu_fld (d := lgD ls) S.cl S.legs (pu_var 0 rfl) rfl)) (fun q hq s H C cl fp => pu_var 3 rfl) (hl := by omega) (hN := hN)).pu ?_).pu.is ?_) (fun G1 H1 σ1 g1 ok1 => ?_) hN
  · rw [List.length_map, List.length_map, List.length_range]; omega
  · rw [range_num, legs_nm, ← List.map_append]
  refine Wb.of (pss_cons (ps_ret pe_we) pss_wb) ((nu_map4 [("place", 5), ("sort", 4), ("far", 6), ("partner", 7)] 5 4 6 7 ks (fun j => .int (j.a : Int)) (fun j => .str j.b) (fun j => .int (j.c : Int)) (fun j => .str j.d) (fun j => En.e (((spotF cs.length ls j.a, j.b), (spotF cs.length ls j.c, j.d)) : NJ)) (pi_lst (pu_var 1 rfl)) (fun j h s H C cl fp => ?_) (hl := by omega) (hN := hN)) H G1 H1 σ1 ok1 _ fun p us G2 H2 g2 q1 q2 q3 r => fin p us G2 H2 (g1.trans g2) q1 (g1.ex.back q2) q3 ?_)
  · obtain ⟨b1, b2⟩ := hj j h
    exact pu_tup (pas_cons (pu_tup (pas_cons (pu_ixL (k := j.a) (pu_var 2 rfl) (pu_var 5 rfl) (by rw [List.getElem?_map, spot_at b1]; rfl)) (pas_cons (pu_var 4 rfl) pas_nil))) (pas_cons (pu_tup (pas_cons (pu_ixL (k := j.c) (pu_var 2 rfl) (pu_var 6 rfl) (by rw [List.getElem?_map, spot_at b2]; rfl)) (pas_cons (pu_var 7 rfl) pas_nil))) pas_nil))
  · have e : (namedF cs.length ls ks).map (En.e (α := NJ)) = ks.map fun j => En.e (((spotF cs.length ls j.a, j.b), (spotF cs.length ls j.c, j.d)) : NJ) := by unfold namedF; rw [List.map_map]; rfl
    rw [e]; exact r
def plOk (names : List Str) : Pl → Prop
  | .num _ => True
  | .nm s => s ∈ names
def r_with (CD CS : Addr) (ds : List D) (d : D) : Prop := ∃ (so : Srts) (kd : Knds) (cs : List Str) (ls ls' : Lgs) (js : List Jn) (nj : List NJ), ds = [drD CD CS so kd cs ls js, lgD ls', .lst (nj.map En.e)] ∧ nj.length ≤ 900 ∧ (∀ p ∈ nj, plOk (ls'.map (·.1)) p.1.1 ∧ plOk (ls'.map (·.1)) p.2.1) ∧
  VD so kd cs ls' (withF cs.length ls' nj) ∧ d = drD CD CS so kd cs ls' (withF cs.length ls' nj)
theorem nm_mem {names : List Str} {s : Str} : Pl.nm s ∈ names.map Pl.nm ↔ s ∈ names := by
  rw [List.mem_map]
  exact ⟨fun ⟨a, h, e⟩ => by injection e with e; rw [← e]; exact h, fun h => ⟨s, h, rfl⟩⟩
theorem num_mem {names : List Str} {n : Nat} : Pl.num n ∉ names.map Pl.nm := fun h => by
  obtain ⟨a, _, e⟩ := List.mem_map.1 h
  cases e
theorem ok_with_legs (B : Bf mg) {CD CS : Addr} (S : DrF K CD) (M : MkD P w K mg base CS CD) (c1 : CalP P w K mg base 1 "joined" r_joined) {f : Addr} {fd : FuncData} (F : Fun K "with_legs" "with_legs" s_with_legs f fd) : FnOk P w K mg base CX0 7 f fd ["drawing", "legs", "joins"] (spP (r_with CD CS)) := by
  refine fun_pu F (N := ["drawing", "legs", "joins", "many", "sort", "names", "found", "first", "second", "ends", "place", "name"]) (C8.fnScope_by (by decide +kernel)) (fun ds d ⟨_, _, _, _, _, _, _, e, _⟩ => by rw [e]; rfl) fun cdv A outer s H E ds d hr ⟨so, kd, cs, ls, ls', js, nj, e, hl, hp, V, ed⟩ => ?_
  subst e ed
  have hN : (["drawing", "legs", "joins", "many", "sort", "names", "found", "first", "second", "ends", "place", "name"] : List Str).Nodup := by decide
  have l6 := V.l.l6
  let names := ls'.map (·.1)
  let res (x : Pl) : Nat := resF cs.length names x
  let g (p : NJ) : Jn := joinedF (res p.1.1, p.1.2) (res p.2.1, p.2.2)
  refine ab_set 3 ((pu_lenL B.len (pu_fld (d := csD cs) S.cl S.corners (pu_var 0 rfl) rfl)).is (d' := .int (cs.length : Int)) (by rw [List.length_map])) ?_ hN
  refine ab_setC 5 (lc_map2 [("name", 11), ("sort", 4)] 11 4 ls' (fun q => .str q.1) (fun q => .str q.2) (fun q => .str q.1) (pi_lst (pu_var 1 rfl)) (fun q hq s H C cl fp => pu_var 11 rfl) (hl := by omega)) ?_
  rw [names_nm]
  refine ab_share 5 rfl ?_
  refine ab_setO 6 (nu_lst pas_nil) ?_ hN
  refine ab_for (ds := nj.map En.e) (fun i => [.sh (drD CD CS so kd cs ls js), .sh (lgD ls'), .sh (.lst (nj.map En.e)), .sh (.int (cs.length : Int)), .no, .sh (.lst ((names.map Pl.nm).map En.e)), .ow (((nj.take i).map g).map En.e), .no, .no, .no, .no, .no]) PassesOwn.never (pi_lst (pu_var 2 rfl)) (Le.refl _) (fun i d hd => ?_) ?_
  · rw [List.getElem?_map] at hd
    obtain ⟨p, hk, rfl⟩ := Option.map_eq_some_iff.1 hd
    obtain ⟨p1, p2⟩ := hp p (List.mem_of_getElem? hk)
    refine ⟨_, _, tg_tup (tgs_cons (tg_name 7 hN) (tgs_cons (tg_name 8 hN) tgs_nil)), ?_⟩
    refine ab_setO 9 (nu_lst pas_nil) ?_ hN
    let two : List PE2 := [p.1, p.2]
    let h (x : PE2) : En2 := (res x.1, x.2)
    refine ab_for (ds := two.map En.e) (fun l => [.sh (drD CD CS so kd cs ls js), .sh (lgD ls'), .sh (.lst (nj.map En.e)), .sh (.int (cs.length : Int)), .no, .sh (.lst ((names.map Pl.nm).map En.e)), .ow (((nj.take i).map g).map En.e), .sh (En.e p.1), .sh (En.e p.2), .ow (((two.take l).map h).map En.e), .no, .no]) PassesOwn.never (pi_tupl (pu_tup (pas_cons (pu_var 7 rfl) (pas_cons (pu_var 8 rfl) pas_nil)) (show 2 ≤ 1000 by decide))) (Le.refl _) (fun l d hd => ?_) ?_
    · rw [List.getElem?_map] at hd
      obtain ⟨x, hx, rfl⟩ := Option.map_eq_some_iff.1 hd
      have hx2 : plOk names x.1 := by
        rcases List.mem_cons.1 (List.mem_of_getElem? hx) with e | e
        · rw [e]; exact p1
        · rw [List.mem_singleton.1 e]; exact p2
      refine ⟨_, _, tg_tup (tgs_cons (tg_name 10 hN) (tgs_cons (tg_name 4 hN) tgs_nil)), ?_⟩
      refine ab_append 9 rfl ((pu_tup (pas_cons (pu_ifExp (d := .int (res x.1 : Int)) (t := decide (x.1 ∈ names.map Pl.nm)) (pt_inT x.1 (names.map Pl.nm) hr (pu_var 10 rfl) (pu_var 5 rfl)) (fun z => ?_) (fun z => ?_)) (pas_cons (pu_var 4 rfl) pas_nil))).is (d' := En.e (h x)) rfl) ?_ ?_
      · have hm : x.1 ∈ names.map Pl.nm := of_decide_eq_true z
        refine (pu_add (pu_var 3 rfl) (pu_index (x := x.1) (xs := names.map Pl.nm) hr (pu_var 5 rfl) (pu_var 10 rfl) hm)).is ?_
        cases q : x.1 with
        | num k => rw [q] at hm; exact absurd hm num_mem
        | nm t =>
          rw [idx_nm]
          exact congrArg D.int (by show _ = ((cs.length + names.idxOf t : Nat) : Int); omega)
      · have hm : x.1 ∉ names.map Pl.nm := of_decide_eq_false z
        refine (pu_var 10 rfl : Pu _ _ _ (En.e x.1)).is ?_
        cases q : x.1 with
        | num k => rfl
        | nm t => rw [q] at hm hx2; exact absurd (nm_mem.2 hx2) hm
      · refine ab_nil ?_
        have e3 : ((two.take l).map h).map En.e ++ [En.e (h x)] = ((two.take (l + 1)).map h).map En.e := by rw [take_mapS h hx]; exact (List.map_append (l₁ := (two.take l).map h) (l₂ := [h x])).symm
        show Le [_, _, _, _, _, _, _, _, _, _, _, _] [_, _, _, _, _, _, _, _, _, Sl.ow (((two.take l).map h).map En.e ++ [En.e (h x)]), _, _]
        rw [e3]
        exact .eq (.eq (.eq (.eq (.no (.eq (.eq (.eq (.eq (.eq (.no (.no .nil)))))))))))
      · rw [List.length_map, List.length_map, List.length_take]
        exact Nat.lt_of_le_of_lt (Nat.min_le_right _ _) (show 2 < 1000 by decide)
    · refine ab_share 9 rfl ?_
      refine ab_append 6 rfl (pu_call c1 hr ⟨h p.1, h p.2, rfl, rfl⟩ (pas_cons (pu_ixL (k := 0) (pu_var 9 rfl) pu_int rfl) (pas_cons (pu_ixL (k := 1) (pu_var 9 rfl) pu_int rfl) pas_nil))) ?_ ?_
      · refine ab_nil ?_
        have e3 : ((nj.take i).map g).map En.e ++ [En.e (g p)] = ((nj.take (i + 1)).map g).map En.e := by rw [take_mapS g hk]; exact (List.map_append (l₁ := (nj.take i).map g) (l₂ := [g p])).symm
        show Le [_, _, _, _, _, _, _, _, _, _, _, _] [_, _, _, _, _, _, Sl.ow (((nj.take i).map g).map En.e ++ [En.e (g p)]), _, _, _, _, _]
        rw [e3]
        exact .eq (.eq (.eq (.eq (.no (.eq (.eq (.no (.no (.no (.no (.no .nil)))))))))))
      · rw [List.length_map, List.length_map, List.length_take]; omega
  rw [List.length_map, List.take_length]
  exact ab_share 6 rfl (ab_ret (pu_drawing M hr V (pu_fld S.cl S.stock (pu_var 0 rfl) rfl) (pu_fld S.cl S.corners (pu_var 0 rfl) rfl) (pu_var 1 rfl) (nu_sorted (xs := nj.map g) hr B.sorted (pu_var 6 rfl)).pu) rfl)
end
end R87
namespace R87
open PySem PySem.Spec PyProof.Rows L2
open PySem.W (Tup T4 T3 DatumOrd Datum)
section
variable {P : Program} {w : World} {K : PySem.W.Frag} {mg : Str → Option Value} {base : Heap}
def r_steq (C : Addr) (ds : List D) (d : D) : Prop := ∃ (so : Srts) (kd : Knds), ds = [stD C so kd, stD C so kd] ∧ d = .bl true
theorem ok_Stock_eq (B : Bf mg) {C : Addr} (S : StF K C) (I : ClsI K C) (hS : mg "Stock" = some (.ref C)) {f : Addr} {fd : FuncData} (F : Fun K "__eq__" "Stock.__eq__" s_Stock_eq f fd) : FnOk P w K mg base CX0 1 f fd ["self", "thing"] (spP (r_steq C)) := by
  refine fun_pu F (N := ["self", "thing"]) (C8.fnScope_by (by decide +kernel)) (fun ds d ⟨_, _, e, _⟩ => by rw [e]; rfl) fun cdv A outer s H E ds d hr ⟨so, kd, e, ed⟩ => ?_
  subst e ed
  refine ab_ret (pu_and (pu_isC I B.isinstance hS (pu_var 1 rfl)) fun _ => pu_and (pu_eqT so so hr (pu_fld S.cl S.sorts (pu_var 0 rfl) rfl) (pu_fld S.cl S.sorts (pu_var 1 rfl) rfl)) fun _ => pu_one (pu_eqT kd kd hr (pu_fld S.cl S.kinds (pu_var 0 rfl) rfl) (pu_fld S.cl S.kinds (pu_var 1 rfl) rfl))) ?_
  simp
structure StEq (P : Program) (w : World) (K : PySem.W.Frag) (mg : Str → Option Value) (base : Heap) (C : Addr) : Prop where
  ex : ∃ f fd ps, FnOk P w K mg base CX0 1 f fd ps (spP (r_steq C)) ∧ PySem.W.findIn K (.ref C) "__eq__" = some (some (.ref f)) ∧ PySem.W.isFn K (.ref f) = true ∧ Binds K fd ps []
end
section
variable {X : Cx} {τ : List Sl} {a b : Expr} {pos : Pos}
def StR (C : Addr) (a b : Addr) (H : Hp) : Prop := ∃ G so kd, Ex G H ∧ Rp G (.ref a) (stD C so kd) ∧ Rp G (.ref b) (stD C so kd)
theorem st_op {C : Addr} {so : Srts} {kd : Knds} {k : Nat} (E : StEq X.prog X.w X.K X.mg X.base C) (hr : Room k X.A) (hk : 1 ≤ k := by decide) : ∃ r, OpR X (compareOp .Eq) r ∧ DOp r (stD C so kd) (stD C so kd) (.bl true) := by
  obtain ⟨f, fd, ps, F, h1, h2, h3⟩ := E.ex
  have F' : FnOk X.prog X.w X.K X.mg X.base CX0 1 f fd ps (spEq (StR C)) := F.imp fun vs H Q E ⟨a, b, ev, ⟨G, so, kd, ex, r1, r2⟩, k⟩ => by
    subst ev
    exact ⟨G, _, _, ex, .cons r1 (.one r2), ⟨so, kd, rfl, rfl⟩, fun v G' H' g r => by cases r; exact k H' g.ex⟩
  refine ⟨_, op_eqG (rcG_ins F' h1 h2 h3 (pass0 : Passes CX0 X E0)) (hr.mono hk), fun v u G H ex r1 r2 Q q => ?_⟩
  cases r1 with
  | ins i1 f1 => cases r2 with
    | ins i2 f2 => exact ⟨⟨_, _, _, _, _, _, rfl, rfl, ex _ _ i1, ex _ _ i2, ⟨G, so, kd, ex, .ins i1 f1, .ins i2 f2⟩⟩, fun H' e => q _ G H' ⟨.refl _, fun a o _ h => e a o h, ex.trans e, fun _ h _ => h, fun a h => by
      cases z : H a with
      | none => exact absurd z h
      | some o => rw [e a o z]; exact fun z => by cases z⟩ (.bl _)⟩
theorem pt_eqSt {C : Addr} {so : Srts} {kd : Knds} {k : Nat} (E : StEq X.prog X.w X.K X.mg X.base C) (hr : Room k X.A) (ha : Pu X a τ (stD C so kd)) (hb : Pu X b τ (stD C so kd)) (hk : 1 ≤ k := by decide) (hm : behindInMarks .Eq b = false := by first | exact nomark _ | rfl) : Pt X (.Compare a [.Eq] [b] pos) τ true := by
  obtain ⟨r, h1, h2⟩ := st_op (so := so) (kd := kd) E hr hk
  exact pt_cmp' h1 h2 ha hb hm
end
def besC (c1 c2 : List Str) : List Str := c1 ++ c2
def besL (l1 l2 : Lgs) : Lgs := sortT (l1 ++ l2)
def ixOf {α : Type} [DecidableEq α] (xs : List α) (x : α) : Nat := xs.idxOf x
/-- the places of one of them -/
def besP (base n tot : Nat) (ls L : Lgs) : List Nat := List.range' base n ++ ls.map fun l => tot + ixOf L l
def besJ (c1 : List Str) (l1 : Lgs) (j1 : List Jn) (c2 : List Str) (l2 : Lgs) (j2 : List Jn) : List Jn :=
  sortT (movedF j1 (fun i => (besP 0 c1.length (c1 ++ c2).length l1 (besL l1 l2)).getD i 0) ++ movedF j2 (fun i => (besP c1.length c2.length (c1 ++ c2).length l2 (besL l1 l2)).getD i 0))
section
variable {X : Cx} {m : Addr → Prop} {τ : List Sl} {N : AE} {rest body : List Stmt} {a b c e tg : Expr} {pos p p2 p3 q2 tpos : Pos} {ds fs : List D} {d x y : D} {n : Str}
/-- x.extend(e), e any list -/
theorem ab_extendP (i : Nat) {es fs : List D} {p2 p3 : Pos} (hs : τ[i]? = some (Sl.ow es)) (h : Pu X e τ (.lst fs)) (h2 : AB X m rest (τ.set i (.ow (es ++ fs))) N) (hl : es.length + fs.length ≤ 1000)
    (hN : X.N[i]? = some n := by rfl) (hv : Vis X.env.scope n := by first | exact Or.inl rfl | exact Or.inr (Or.inl rfl) | exact Or.inr (Or.inr rfl)) (hd : (n == ("__debug__" : Str)) = false := by decide) (hcd : (n == ("__classdict__" : Str)) = false := by decide)
    (he : PE X (.Call (.Attribute (.Name n p) "extend" p2) [e] [] p3) (tBM X.K "list" rExtend (tVar i) (tCons (We X e) tNil)) := by exact pe_bm PySem.F.plainAttrs_list PySem.F.slot_list_extend PySem.F.type_list_extend mt_extend (pv _) (pa_cons pe_we pa_nil))
    (hsw : swapsWith (.Call (.Attribute (.Name n p) "extend" p2) [e] [] p3) none pos.line X.env = pure false := by rfl) :
    AB X m (.Expr (.Call (.Attribute (.Name n p) "extend" p2) [e] [] p3) pos :: rest) τ N := fun G0 H0 G H σ g k => by
  obtain ⟨q, vs, h1, h3, h4, h5, r⟩ := k.ow i es hs
  refine Wb.of (pss_cons (ps_expr he hsw) pss_wb) ⟨_, h1, Or.inl ⟨rfl, _, SqL.of h3⟩, ?_⟩
  show We X e σ H (fun x H1 => rExtend (V.ref q) [x] H1 fun _ H2 => Wb X rest (Cn m G0 H0 N) σ H2)
  refine h H0 G H σ k _ fun b G1 H1 g1 r1 => ?_
  cases r1 with
  | lst hh r1 =>
    refine ⟨q, _, vs, _, rfl, rfl, g1.ex _ _ h3, g1.gh _ _ hh, ?_, ?_⟩
    · rw [r.length, r1.length]; exact sl1000 hl
    · have k1 := k.gr g1
      obtain ⟨g2, k2⟩ := k1.change (g.trans g1.any) hs h1 ((r.ex g1.gg).append r1)
      exact h2 G0 H0 G1 _ σ g2 k2
end
section
variable {P : Program} {w : World} {K : PySem.W.Frag} {mg : Str → Option Value} {base : Heap}
structure BesOk (so : Srts) (kd : Knds) (c1 c2 : List Str) (l1 l2 : Lgs) (j1 j2 : List Jn) : Prop where
  v1 : VD so kd c1 l1 j1
  v2 : VD so kd c2 l2 j2
  nd : ((l1 ++ l2).map (·.1)).Nodup
  p1 : ∀ j ∈ j1, j.a < c1.length + l1.length ∧ j.c < c1.length + l1.length
  p2 : ∀ j ∈ j2, j.a < c2.length + l2.length ∧ j.c < c2.length + l2.length
def r_beside (CD CS : Addr) (ds : List D) (d : D) : Prop := ∃ (so : Srts) (kd : Knds) (c1 c2 : List Str) (l1 l2 : Lgs) (j1 j2 : List Jn), ds = [drD CD CS so kd c1 l1 j1, drD CD CS so kd c2 l2 j2] ∧ BesOk so kd c1 c2 l1 l2 j1 j2 ∧ (c1 ++ c2).length ≤ 6 ∧ (l1 ++ l2).length ≤ 6 ∧
  VD so kd (c1 ++ c2) (besL l1 l2) (besJ c1 l1 j1 c2 l2 j2) ∧ d = drD CD CS so kd (c1 ++ c2) (besL l1 l2) (besJ c1 l1 j1 c2 l2 j2)
def x_beside (CT CD CS : Addr) (ds : List D) (C : Addr) : Prop := ∃ (so : Srts) (kd : Knds) (c1 c2 : List Str) (l1 l2 : Lgs) (j1 j2 : List Jn), ds = [drD CD CS so kd c1 l1 j1, drD CD CS so kd c2 l2 j2] ∧ BesOk so kd c1 c2 l1 l2 j1 j2 ∧ ¬ ((c1 ++ c2).length ≤ 6 ∧ (l1 ++ l2).length ≤ 6) ∧ C = CT
theorem movedF_len (js : List Jn) (pl : Nat → Nat) : (movedF js pl).length = js.length := by unfold movedF; rw [sortT_len, List.length_map]
theorem besP_len {base n tot : Nat} {ls L : Lgs} : (besP base n tot ls L).length = n + ls.length := by unfold besP; rw [List.length_append, List.length_range', List.length_map]
theorem ok_beside (B : Bf mg) {CT CD CS : Addr} (S : DrF K CD) (M : MkD P w K mg base CS CD) (Q : StEq P w K mg base CS) (T : ExF K mg "TooMany" CT) (c1 : CalP P w K mg base 2 "moved_joins" r_moved) {f : Addr} {fd : FuncData} (F : Fun K "beside" "beside" s_beside f fd) :
    FnOk P w K mg base (L2.CX P w) 7 f fd ["one", "other"] (spR (r_beside CD CS) (x_beside CT CD CS)) := by
  have hN : (["one", "other", "names", "corners", "legs", "joins", "drawing", "base", "places", "name", "sort", "leg"] : List Str).Nodup := by decide
  refine fun_puX F (N := ["one", "other", "names", "corners", "legs", "joins", "drawing", "base", "places", "name", "sort", "leg"]) (C8.fnScope_by (by decide +kernel)) (fun ds d ⟨_, _, _, _, _, _, _, _, e, _⟩ => by rw [e]; rfl) (fun ds d ⟨_, _, _, _, _, _, _, _, e, _⟩ => by rw [e]; rfl)
    (fun cdv A outer s H E ds d hr ⟨so, kd, d1, d2, l1, l2, j1, j2, e, O, n6, m6, V, ed⟩ hp => ?_) (fun cdv A outer s H E ds C G σ Dn hr ⟨so, kd, d1, d2, l1, l2, j1, j2, e, O, big, ed⟩ ok tk fin => ?_)
  · subst e ed
    have a1 := O.v1.l.l6
    have a2 := O.v2.l.l6
    have b1 := O.v1.c.l6
    have b2 := O.v2.c.l6
    have q1 := O.v1.jl
    have q2 := O.v2.jl
    have ll : (l1 ++ l2).length = l1.length + l2.length := List.length_append ..
    have cl : (d1 ++ d2).length = d1.length + d2.length := List.length_append ..
    refine ab_setC 2 (lc_map2 [("name", 9), ("sort", 10)] 9 10 (l1 ++ l2) (fun q => .str q.1) (fun q => .str q.2) (fun q => .str q.1) ((pi_lst (nu_cat (pu_fld (d := lgD l1) S.cl S.legs (pu_var 0 rfl) rfl) (pu_fld (d := lgD l2) S.cl S.legs (pu_var 1 rfl) rfl) (by rw [List.length_map, List.length_map]; omega)).pu).is (List.map_append (l₁ := l1) (l₂ := l2)).symm) (fun q hq s H C cl fp => pu_var 9 rfl) (hl := by omega)) ?_
    have e1 : ((l1 ++ l2).map fun q => D.str q.1) = ((l1 ++ l2).map (·.1)).map (En.e (α := Str)) := by rw [List.map_map]; rfl
    rw [e1]
    refine ab_share 2 rfl ?_
    refine ab_ifF ((pw_or' (pt_not' (pt_eqSt Q hr (pu_fld S.cl S.stock (pu_var 0 rfl) rfl) (pu_fld S.cl S.stock (pu_var 1 rfl) rfl))) fun _ => pw_or1' (pt_lt (pu_lenSetS (ns := (l1 ++ l2).map (·.1)) B.len B.set (pu_var 2 rfl) (by rw [List.length_map]; omega)) (pu_lenL B.len (pu_var 2 rfl)))).pt.is ?_) ?_
    · rw [dst_nodup O.nd, List.length_map, List.length_map]; simp
    refine ab_setO 3 ((nu_cat (pu_fld (d := csD d1) S.cl S.corners (pu_var 0 rfl) rfl) (pu_fld (d := csD d2) S.cl S.corners (pu_var 1 rfl) rfl) (by rw [List.length_map, List.length_map]; omega)).is (List.map_append (l₁ := d1) (l₂ := d2)).symm) ?_ hN
    refine ab_share 3 rfl ?_
    refine ab_setO 4 (nu_sorted (xs := l1 ++ l2) hr B.sorted ((nu_cat (pu_fld (d := lgD l1) S.cl S.legs (pu_var 0 rfl) rfl) (pu_fld (d := lgD l2) S.cl S.legs (pu_var 1 rfl) rfl) (by rw [List.length_map, List.length_map]; omega)).pu.is (congrArg D.lst (List.map_append (l₁ := l1) (l₂ := l2)).symm))) ?_ hN
    refine ab_share 4 rfl ?_
    refine ab_ifF ((pw_or' (pt_gt (pu_lenL B.len (pu_var 3 rfl)) (pu_globI B.most)) fun _ => pw_or1' (pt_gt (pu_lenL B.len (pu_var 4 rfl)) (pu_globI B.most))).pt.is ?_) ?_
    · rw [List.length_map, List.length_map, sortT_len]; simp; omega
    refine ab_setO 5 (nu_lst pas_nil) ?_ hN
    let L := besL l1 l2
    let tot := (d1 ++ d2).length
    let mj (i : Nat) : List Jn := if i = 0 then movedF j1 (fun i => (besP 0 d1.length tot l1 L).getD i 0) else movedF j2 (fun i => (besP d1.length d2.length tot l2 L).getD i 0)
    let acc (i : Nat) : List Jn := (List.range i).flatMap mj
    -- one turn: the drawing, its base, its places
    have turn : ∀ (i : Nat) (dr : D) (cs : List Str) (ls : Lgs) (js : List Jn) (bs : Nat), dr = drD CD CS so kd cs ls js → cs.length ≤ 6 → ls.length ≤ 6 → js.length ≤ 18 → bs ≤ 6 → (∀ l ∈ ls, l ∈ L) → (∀ j ∈ js, j.a < cs.length + ls.length ∧ j.c < cs.length + ls.length) → mj i = movedF js (fun i => (besP bs cs.length tot ls L).getD i 0) → (acc i).length ≤ 100 →
        AB (cxOf (L2.CX P w) P w K mg base ["one", "other", "names", "corners", "legs", "joins", "drawing", "base", "places", "name", "sort", "leg"] "beside" (defScope s_beside) f cdv A outer s H E) m0
          ((defBody s_beside).getD 6 (.Pass ⟨0, 0, 0, 0⟩) |> fun | .For _ _ b _ _ => b | _ => [])
          [.sh (drD CD CS so kd d1 l1 j1), .sh (drD CD CS so kd d2 l2 j2), .sh (.lst (((l1 ++ l2).map (·.1)).map En.e)), .sh (csD (d1 ++ d2)), .sh (lgD L), .ow ((acc i).map En.e), .sh dr, .sh (.int (bs : Int)), .no, .no, .no, .no]
          { nx := fun t => Le [.sh (drD CD CS so kd d1 l1 j1), .sh (drD CD CS so kd d2 l2 j2), .sh (.lst (((l1 ++ l2).map (·.1)).map En.e)), .sh (csD (d1 ++ d2)), .sh (lgD L), .ow ((acc (i + 1)).map En.e), .no, .no, .no, .no, .no, .no] t,
            ct := fun t => Le [.sh (drD CD CS so kd d1 l1 j1), .sh (drD CD CS so kd d2 l2 j2), .sh (.lst (((l1 ++ l2).map (·.1)).map En.e)), .sh (csD (d1 ++ d2)), .sh (lgD L), .ow ((acc (i + 1)).map En.e), .no, .no, .no, .no, .no, .no] t,
            bk := fun t => AB (cxOf (L2.CX P w) P w K mg base ["one", "other", "names", "corners", "legs", "joins", "drawing", "base", "places", "name", "sort", "leg"] "beside" (defScope s_beside) f cdv A outer s H E) m0 ((defBody s_beside).drop 7) t { nx := fun _ => drD CD CS so kd (d1 ++ d2) (besL l1 l2) (besJ d1 l1 j1 d2 l2 j2) = .non, rt := fun e _ => e = drD CD CS so kd (d1 ++ d2) (besL l1 l2) (besJ d1 l1 j1 d2 l2 j2) },
            rt := fun e _ => e = drD CD CS so kd (d1 ++ d2) (besL l1 l2) (besJ d1 l1 j1 d2 l2 j2) } := by
      intro i dr cs ls js bs edr h1 h2 h3 h4 h5 h6 h7 h8
      subst edr
      refine ab_set 8 (d := .lst ((List.range' bs cs.length).map (En.e (α := Nat)))) ((nu_listRange2 (i := bs) (k := bs + cs.length) B.range B.list (pu_var 7 rfl) ((pu_add (pu_var 7 rfl) (pu_lenL B.len (pu_fld (d := csD cs) S.cl S.corners (pu_var 6 rfl) rfl))).is (congrArg D.int (by rw [List.length_map]; omega))) (by omega) (by omega)).pu.is (by rw [Nat.add_sub_cancel_left])) ?_ hN
      refine ab_set 8 (d := .lst ((besP bs cs.length tot ls L).map (En.e (α := Nat)))) ((nu_cat (pu_var 8 rfl) (nu_mapN [("leg", 11)] 11 ls En.e (fun l => En.e (tot + ixOf L l)) (pi_lst (pu_fld (d := lgD ls) S.cl S.legs (pu_var 6 rfl) rfl)) (fun l hl s H C cl fp => (pu_add (pu_lenL B.len (pu_var 3 rfl)) (pu_index (x := l) (xs := L) hr (pu_var 4 rfl) (pu_var 11 rfl) (h5 l hl))).is (by rw [List.length_map]; exact congrArg D.int (Int.natCast_add tot (ixOf L l)).symm)) (hl := by omega) (hN := hN)).pu ?_).pu.is ?_) ?_ hN
      · rw [List.length_map, List.length_map, List.length_range']; omega
      · unfold besP; rw [List.map_append, List.map_map]; rfl
      refine ab_extendP 5 rfl (fs := (mj i).map En.e) (pu_call c1 hr ⟨js, fun i => (besP bs cs.length tot ls L).getD i 0, .lst ((besP bs cs.length tot ls L).map En.e), rfl, by omega, fun j hj => ?_, by rw [h7]⟩ (pas_cons (pu_fld (d := jsD js) S.cl S.joins (pu_var 6 rfl) rfl) (pas_cons (pu_var 8 rfl) pas_nil))) ?_ ?_
      · obtain ⟨g1, g2⟩ := h6 j hj
        exact ⟨.inl ⟨_, rfl, getD_some (by rw [besP_len]; exact g1)⟩, .inl ⟨_, rfl, getD_some (by rw [besP_len]; exact g2)⟩⟩
      · refine ab_nil ?_
        have e3 : (acc i).map En.e ++ (mj i).map En.e = (acc (i + 1)).map (En.e (α := Jn)) := by
          show _ = ((List.range (i + 1)).flatMap mj).map _
          rw [List.range_succ, List.flatMap_append, List.map_append]; simp [acc]
        show Le [_, _, _, _, _, _, _, _, _, _, _, _] [_, _, _, _, _, Sl.ow ((acc i).map En.e ++ (mj i).map En.e), _, _, _, _, _, _]
        rw [e3]
        exact .eq (.eq (.eq (.eq (.eq (.eq (.no (.no (.no (.no (.no (.no .nil)))))))))))
      · rw [List.length_map, List.length_map, h7, movedF_len]; omega
    have memL : ∀ l, l ∈ L ↔ l ∈ l1 ++ l2 := fun l => (sortT_perm _).mem_iff
    have m0l : (mj 0).length ≤ 18 := by show (if 0 = 0 then _ else _ : List Jn).length ≤ 18; rw [if_pos rfl, movedF_len]; omega
    refine ab_for (ds := [.tup [drD CD CS so kd d1 l1 j1, .int 0], .tup [drD CD CS so kd d2 l2 j2, .int (d1.length : Int)]]) (fun i => [.sh (drD CD CS so kd d1 l1 j1), .sh (drD CD CS so kd d2 l2 j2), .sh (.lst (((l1 ++ l2).map (·.1)).map En.e)), .sh (csD (d1 ++ d2)), .sh (lgD L), .ow ((acc i).map En.e), .no, .no, .no, .no, .no, .no]) hp
      (pi_tupl (pu_tup (pas_cons (pu_tup (pas_cons (pu_var 0 rfl) (pas_cons pu_int pas_nil))) (pas_cons (pu_tup (pas_cons (pu_var 1 rfl) (pas_cons ((pu_lenL B.len (pu_fld (d := csD d1) S.cl S.corners (pu_var 0 rfl) rfl)).is (by rw [List.length_map])) pas_nil))) pas_nil)))) (Le.refl _) (fun i d hd => ?_) ?_
    · match i, hd with
      | 0, hd =>
        cases (Option.some.inj hd)
        exact ⟨_, _, tg_tup (tgs_cons (tg_name 6 hN) (tgs_cons (tg_name 7 hN) tgs_nil)), turn 0 _ d1 l1 j1 0 rfl b1 a1 q1 (by omega) (fun l h => (memL l).2 (List.mem_append_left _ h)) O.p1 rfl (Nat.zero_le _)⟩
      | 1, hd =>
        cases (Option.some.inj hd)
        refine ⟨_, _, tg_tup (tgs_cons (tg_name 6 hN) (tgs_cons (tg_name 7 hN) tgs_nil)), turn 1 _ d2 l2 j2 d1.length rfl b2 a2 q2 (by omega) (fun l h => (memL l).2 (List.mem_append_right _ h)) O.p2 rfl ?_⟩
        simp [acc]; omega
    · have e9 : acc 2 = movedF j1 (fun i => (besP 0 d1.length tot l1 L).getD i 0) ++ movedF j2 (fun i => (besP d1.length d2.length tot l2 L).getD i 0) := by
        simp [acc, mj, List.range_succ]
      refine ab_share 5 rfl (ab_ret (pu_drawing M hr V (pu_fld S.cl S.stock (pu_var 0 rfl) rfl) (pu_var 3 rfl) (pu_var 4 rfl) ((nu_sorted (xs := acc 2) hr B.sorted (pu_var 5 rfl)).pu.is ?_)) rfl)
      rw [e9]; rfl
  · subst e ed
    have a1 := O.v1.l.l6
    have a2 := O.v2.l.l6
    have b1 := O.v1.c.l6
    have b2 := O.v2.c.l6
    have ll : (l1 ++ l2).length = l1.length + l2.length := List.length_append ..
    have cl : (d1 ++ d2).length = d1.length + d2.length := List.length_append ..
    refine wb_setC 2 ok (lc_map2 [("name", 9), ("sort", 10)] 9 10 (l1 ++ l2) (fun q => .str q.1) (fun q => .str q.2) (fun q => .str q.1) ((pi_lst (nu_cat (pu_fld (d := lgD l1) S.cl S.legs (pu_var 0 rfl) rfl) (pu_fld (d := lgD l2) S.cl S.legs (pu_var 1 rfl) rfl) (by rw [List.length_map, List.length_map]; omega)).pu).is (List.map_append (l₁ := l1) (l₂ := l2)).symm) (fun q hq s H C cl fp => pu_var 9 rfl) (hl := by omega)) fun G1 H1 σ1 g1 ok1 => ?_
    have e1 : ((l1 ++ l2).map fun q => D.str q.1) = ((l1 ++ l2).map (·.1)).map (En.e (α := Str)) := by rw [List.map_map]; rfl
    rw [e1] at ok1
    refine wb_ifF ok1 ((pw_or' (pt_not' (pt_eqSt Q hr (pu_fld S.cl S.stock (pu_var 0 rfl) rfl) (pu_fld S.cl S.stock (pu_var 1 rfl) rfl))) fun _ => pw_or1' (pt_lt (pu_lenSetS (ns := (l1 ++ l2).map (·.1)) B.len B.set (pu_var 2 rfl) (by rw [List.length_map]; omega)) (pu_lenL B.len (pu_var 2 rfl)))).pt.is ?_) fun G2 H2 g2 => ?_
    · rw [dst_nodup O.nd, List.length_map, List.length_map]; simp
    refine wb_set 3 (ok1.gr g2) ((nu_cat (pu_fld (d := csD d1) S.cl S.corners (pu_var 0 rfl) rfl) (pu_fld (d := csD d2) S.cl S.corners (pu_var 1 rfl) rfl) (by rw [List.length_map, List.length_map]; omega)).is (List.map_append (l₁ := d1) (l₂ := d2)).symm).pu (fun G3 H3 σ3 g3 ok3 => ?_) hN
    refine wb_set 4 ok3 (nu_sorted (xs := l1 ++ l2) hr B.sorted ((nu_cat (pu_fld (d := lgD l1) S.cl S.legs (pu_var 0 rfl) rfl) (pu_fld (d := lgD l2) S.cl S.legs (pu_var 1 rfl) rfl) (by rw [List.length_map, List.length_map]; omega)).pu.is (congrArg D.lst (List.map_append (l₁ := l1) (l₂ := l2)).symm))).pu (fun G4 H4 σ4 g4 ok4 => ?_) hN
    refine wb_ifT ok4 ((pw_or' (pt_gt (pu_lenL B.len (pu_var 3 rfl)) (pu_globI B.most)) fun _ => pw_or1' (pt_gt (pu_lenL B.len (pu_var 4 rfl)) (pu_globI B.most))).pt.is ?_) fun G5 H5 g5 Dm => ?_
    · rw [List.length_map, List.length_map, sortT_len]; simp; omega
    exact wb_raise T tk (fin G5 H5 ((((g1.trans g2).trans g3).trans g4).trans g5))
end
end R87
namespace R87
open PySem PySem.Spec PyProof.Rows L2
open PySem.W (Tup T4 T3 DatumOrd Datum)
def cutL (ls : Lgs) (j : Jn) (a b : Str) : Lgs := sortT (ls ++ [(a, j.d), (b, j.b)])
def cutNJ (n : Nat) (ls : Lgs) (js : List Jn) (j : Jn) (a b : Str) : List NJ := namedF n ls (lessF js j) ++ [((.num j.a, j.b), (.nm a, j.d)), ((.num j.c, j.d), (.nm b, j.b))]
section
variable {P : Program} {w : World} {K : PySem.W.Frag} {mg : Str → Option Value} {base : Heap}
/-- what is asked ahead of a cut -/
structure CutOk (so : Srts) (kd : Knds) (cs : List Str) (ls : Lgs) (js : List Jn) (j : Jn) (a b : Str) : Prop where
  v : VD so kd cs ls js
  p : ∀ j ∈ js, j.a < cs.length + ls.length ∧ j.c < cs.length + ls.length
  j : j ∈ innF cs.length js
  na : Nm a
  nb : Nm b
  ab : a ≠ b
  a : a ∉ ls.map (·.1)
  b : b ∉ ls.map (·.1)
def r_cut (CD CS : Addr) (ds : List D) (d : D) : Prop := ∃ (so : Srts) (kd : Knds) (cs : List Str) (ls : Lgs) (js : List Jn) (j : Jn) (a b : Str), ds = [drD CD CS so kd cs ls js, En.e j, En.e (a, b)] ∧ CutOk so kd cs ls js j a b ∧ ls.length + 2 ≤ 6 ∧
  (∀ p ∈ cutNJ cs.length ls js j a b, plOk ((cutL ls j a b).map (·.1)) p.1.1 ∧ plOk ((cutL ls j a b).map (·.1)) p.2.1) ∧ VD so kd cs (cutL ls j a b) (withF cs.length (cutL ls j a b) (cutNJ cs.length ls js j a b)) ∧ d = drD CD CS so kd cs (cutL ls j a b) (withF cs.length (cutL ls j a b) (cutNJ cs.length ls js j a b))
def x_cut (CT CD CS : Addr) (ds : List D) (C : Addr) : Prop := ∃ (so : Srts) (kd : Knds) (cs : List Str) (ls : Lgs) (js : List Jn) (j : Jn) (a b : Str), ds = [drD CD CS so kd cs ls js, En.e j, En.e (a, b)] ∧ CutOk so kd cs ls js j a b ∧ ¬ ls.length + 2 ≤ 6 ∧ C = CT
theorem ok_cut (B : Bf mg) {CT CD CS : Addr} (S : DrF K CD) (T : ExF K mg "TooMany" CT) (c1 : CalP P w K mg base 2 "is_join" (r_join CS)) (c2 : CalP P w K mg base 1 "inner_joins" (r_inner CD CS)) (c3 : CalP P w K mg base 2 "are_names" (r_names CD CS)) (c4 : Cal P w K mg base CX0 1 "named_joins" (spNu (r_namedN CD CS)))
    (c5 : CalP P w K mg base 1 "without" r_less) (c6 : CalP P w K mg base 1 "partner_of" (r_partner CS)) (c7 : CalP P w K mg base 7 "with_legs" (r_with CD CS)) {f : Addr} {fd : FuncData} (F : Fun K "cut" "cut" s_cut f fd) : FnOk P w K mg base (L2.CX P w) 8 f fd ["drawing", "join", "names"] (spR (r_cut CD CS) (x_cut CT CD CS)) := by
  have hN : (["drawing", "join", "names", "legs", "joins", "name", "end", "sort"] : List Str).Nodup := by decide
  refine fun_puX F (N := ["drawing", "join", "names", "legs", "joins", "name", "end", "sort"]) (C8.fnScope_by (by decide +kernel)) (fun ds d ⟨_, _, _, _, _, _, _, _, e, _⟩ => by rw [e]; rfl) (fun ds d ⟨_, _, _, _, _, _, _, _, e, _⟩ => by rw [e]; rfl)
    (fun cdv A outer s H E ds d hr ⟨so, kd, cs, ls, js, j, a, b, e, O, l6, pls, V2, ed⟩ hp => ?_) (fun cdv A outer s H E ds C G σ Dn hr ⟨so, kd, cs, ls, js, j, a, b, e, O, big, ed⟩ ok tk fin => ?_)
  · subst e ed
    have V := O.v
    have jl := V.jl
    have c6' := V.c.l6
    have jm : j ∈ js := (List.mem_filter.1 O.j).1
    have vj := V.j.j j jm
    have p1 := vj.p
    have p2 := V.s.s.sy _ p1
    have ll := lessF_len js j
    refine ab_ifF ((pw_or' (pt_nt (t := true) (pu_call c1 hr ⟨so, kd, j, rfl, V.s, vj, rfl⟩ (pas_cons (pu_fld S.cl S.stock (pu_var 0 rfl) rfl) (pas_cons (pu_var 1 rfl) pas_nil)))) fun _ => pw_or1' (pt_niT j (innF cs.length js) hr (pu_var 1 rfl) (pu_call c2 hr ⟨so, kd, cs, ls, js, rfl, jl, rfl⟩ (pas_cons (pu_var 0 rfl) pas_nil)))).pt.is ?_) ?_
    · rw [dec_false (fun z => z O.j)]; rfl
    refine ab_ifF (pt_nt (t := true) (pu_call c3 hr ⟨so, kd, cs, ls, js, a, b, rfl, by omega, O.na, O.nb, O.ab, O.a, O.b, rfl⟩ (pas_cons (pu_var 0 rfl) (pas_cons (pu_var 2 rfl) pas_nil)))) ?_
    refine ab_ifF ((pt_gt (pu_add (pu_lenL B.len (pu_fld (d := lgD ls) S.cl S.legs (pu_var 0 rfl) rfl)) pu_int) (pu_globI B.most)).is ?_) ?_
    · rw [List.length_map]; simp; omega
    refine ab_setO 3 (nu_listL B.list (pu_fld (d := lgD ls) S.cl S.legs (pu_var 0 rfl) rfl)) ?_ hN
    refine ab_setO 4 (nu_call c4 hr ⟨so, kd, cs, ls, js, lessF js j, rfl, c6', by omega, by omega, fun x h => O.p x (lessF_mem h), rfl⟩ (pas_cons (pu_var 0 rfl) (pas_cons (pu_call c5 hr ⟨js, j, rfl, by omega, jm, rfl⟩ (pas_cons (pu_fld S.cl S.joins (pu_var 0 rfl) rfl) (pas_cons (pu_var 1 rfl) pas_nil))) pas_nil))) ?_ hN
    let nj0 : List NJ := namedF cs.length ls (lessF js j)
    have nl : nj0.length ≤ 18 := by show (List.map _ _).length ≤ 18; rw [List.length_map]; omega
    let lx : Lgs := [(a, j.d), (b, j.b)]
    let jx : List NJ := [((.num j.a, j.b), (.nm a, j.d)), ((.num j.c, j.d), (.nm b, j.b))]
    -- one turn
    have turn : ∀ (i : Nat) (nme : Str) (en : En2) (q : Str), (en.2, q) ∈ so → lx[i]? = some (nme, q) → jx[i]? = some ((.num en.1, en.2), (.nm nme, q)) →
        AB (cxOf (L2.CX P w) P w K mg base ["drawing", "join", "names", "legs", "joins", "name", "end", "sort"] "cut" (defScope s_cut) f cdv A outer s H E) m0
          ((defBody s_cut).getD 5 (.Pass ⟨0, 0, 0, 0⟩) |> fun | .For _ _ b _ _ => b | _ => [])
          [.sh (drD CD CS so kd cs ls js), .sh (En.e j), .sh (En.e (a, b)), .ow ((ls ++ lx.take i).map En.e), .ow ((nj0 ++ jx.take i).map En.e), .sh (.str nme), .sh (En.e en), .no]
          { nx := fun t => Le [.sh (drD CD CS so kd cs ls js), .sh (En.e j), .sh (En.e (a, b)), .ow ((ls ++ lx.take (i + 1)).map En.e), .ow ((nj0 ++ jx.take (i + 1)).map En.e), .no, .no, .no] t,
            ct := fun t => Le [.sh (drD CD CS so kd cs ls js), .sh (En.e j), .sh (En.e (a, b)), .ow ((ls ++ lx.take (i + 1)).map En.e), .ow ((nj0 ++ jx.take (i + 1)).map En.e), .no, .no, .no] t,
            bk := fun t => AB (cxOf (L2.CX P w) P w K mg base ["drawing", "join", "names", "legs", "joins", "name", "end", "sort"] "cut" (defScope s_cut) f cdv A outer s H E) m0 ((defBody s_cut).drop 6) t { nx := fun _ => drD CD CS so kd cs (cutL ls j a b) (withF cs.length (cutL ls j a b) (cutNJ cs.length ls js j a b)) = .non, rt := fun e _ => e = drD CD CS so kd cs (cutL ls j a b) (withF cs.length (cutL ls j a b) (cutNJ cs.length ls js j a b)) },
            rt := fun e _ => e = drD CD CS so kd cs (cutL ls j a b) (withF cs.length (cutL ls j a b) (cutNJ cs.length ls js j a b)) } := by
      intro i nme en q hq hl hj
      refine ab_set 7 (pu_call c6 hr ⟨so, kd, (en.2, q), rfl, V.s.s.nd, hq, rfl⟩ (pas_cons (pu_fld S.cl S.stock (pu_var 0 rfl) rfl) (pas_cons (pu_ixT (k := 1) (ds := [.int (en.1 : Int), .str en.2]) (pu_var 6 rfl) pu_int rfl) pas_nil))) ?_ hN
      refine ab_append 3 rfl ((pu_tup (pas_cons (pu_var 5 rfl) (pas_cons (pu_var 7 rfl) pas_nil))).is (d' := En.e ((nme, q) : Str × Str)) rfl) ?_ ?_
      · refine ab_append 4 rfl ((pu_tup (pas_cons (pu_var 6 rfl) (pas_cons (pu_tup (pas_cons (pu_var 5 rfl) (pas_cons (pu_var 7 rfl) pas_nil))) pas_nil))).is (d' := En.e (((.num en.1, en.2), (.nm nme, q)) : NJ)) rfl) ?_ ?_
        · refine ab_nil ?_
          have t1 : lx.take (i + 1) = lx.take i ++ [(nme, q)] := by rw [List.take_add_one, hl]; rfl
          have t2 : jx.take (i + 1) = jx.take i ++ [((.num en.1, en.2), (.nm nme, q))] := by rw [List.take_add_one, hj]; rfl
          have e3 : (ls ++ lx.take i).map En.e ++ [En.e ((nme, q) : Str × Str)] = (ls ++ lx.take (i + 1)).map En.e := by rw [t1, ← List.append_assoc]; exact (List.map_append (l₁ := ls ++ lx.take i) (l₂ := [(nme, q)])).symm
          have e4 : (nj0 ++ jx.take i).map En.e ++ [En.e (((.num en.1, en.2), (.nm nme, q)) : NJ)] = (nj0 ++ jx.take (i + 1)).map En.e := by rw [t2, ← List.append_assoc]; exact (List.map_append (l₁ := nj0 ++ jx.take i) (l₂ := [((.num en.1, en.2), (.nm nme, q))])).symm
          show Le [_, _, _, _, _, _, _, _] [_, _, _, Sl.ow ((ls ++ lx.take i).map En.e ++ [En.e ((nme, q) : Str × Str)]), Sl.ow ((nj0 ++ jx.take i).map En.e ++ [En.e (((.num en.1, en.2), (.nm nme, q)) : NJ)]), _, _, _]
          rw [e3, e4]
          exact .eq (.eq (.eq (.eq (.eq (.no (.no (.no .nil)))))))
        · rw [List.length_map, List.length_append, List.length_take]
          have : min i jx.length ≤ 2 := Nat.min_le_right _ _
          omega
      · rw [List.length_map, List.length_append, List.length_take]
        have : min i lx.length ≤ 2 := Nat.min_le_right _ _
        omega
    have z0 : (ls.map En.e : List D) = (ls ++ lx.take 0).map En.e := by simp
    have z1 : ((namedF cs.length ls (lessF js j)).map En.e : List D) = (nj0 ++ jx.take 0).map En.e := by simp [nj0]
    rw [z1]
    show AB _ _ _ [.sh (drD CD CS so kd cs ls js), .sh (En.e j), .sh (En.e (a, b)), .ow (ls.map En.e), .ow ((nj0 ++ jx.take 0).map En.e), .no, .no, .no] _
    rw [z0]
    refine ab_for (ds := zipD [.str a, .str b] [En.e (lo j), En.e (hi j)]) (fun i => [.sh (drD CD CS so kd cs ls js), .sh (En.e j), .sh (En.e (a, b)), .ow ((ls ++ lx.take i).map En.e), .ow ((nj0 ++ jx.take i).map En.e), .no, .no, .no]) hp
      (pi_zipTup B.zip (pu_var 2 rfl) (pu_tup (pas_cons ((pu_sliceT (pu_var 1 rfl) po_n (po_s pu_int)).is (d' := En.e (lo j)) (by rfl)) (pas_cons ((pu_sliceT (pu_var 1 rfl) (po_s pu_int) po_n).is (d' := En.e (hi j)) (by rfl)) pas_nil)))) (Le.refl _) (fun i d hd => ?_) ?_
    · match i, hd with
      | 0, hd =>
        cases (Option.some.inj hd)
        exact ⟨_, _, tg_tup (tgs_cons (tg_name 5 hN) (tgs_cons (tg_name 6 hN) tgs_nil)), turn 0 a (lo j) j.d p1 rfl rfl⟩
      | 1, hd =>
        cases (Option.some.inj hd)
        exact ⟨_, _, tg_tup (tgs_cons (tg_name 5 hN) (tgs_cons (tg_name 6 hN) tgs_nil)), turn 1 b (hi j) j.b p2 rfl rfl⟩
    · refine ab_share 3 rfl (ab_share 4 rfl (ab_ret (pu_call c7 hr ⟨so, kd, cs, ls, cutL ls j a b, js, cutNJ cs.length ls js j a b, rfl, ?_, pls, V2, rfl⟩ (pas_cons (pu_var 0 rfl) (pas_cons (nu_sorted (xs := ls ++ lx) hr B.sorted (pu_var 3 rfl)).pu (pas_cons (pu_var 4 rfl) pas_nil)))) rfl))
      show (nj0 ++ jx).length ≤ 900
      rw [List.length_append]
      have : jx.length = 2 := rfl
      omega
  · subst e ed
    have V := O.v
    have jl := V.jl
    have l6 := V.l.l6
    have jm : j ∈ js := (List.mem_filter.1 O.j).1
    have vj := V.j.j j jm
    refine wb_ifF ok ((pw_or' (pt_nt (t := true) (pu_call c1 hr ⟨so, kd, j, rfl, V.s, vj, rfl⟩ (pas_cons (pu_fld S.cl S.stock (pu_var 0 rfl) rfl) (pas_cons (pu_var 1 rfl) pas_nil)))) fun _ => pw_or1' (pt_niT j (innF cs.length js) hr (pu_var 1 rfl) (pu_call c2 hr ⟨so, kd, cs, ls, js, rfl, jl, rfl⟩ (pas_cons (pu_var 0 rfl) pas_nil)))).pt.is ?_) fun G1 H1 g1 => ?_
    · rw [dec_false (fun z => z O.j)]; rfl
    refine wb_ifF (ok.gr g1) (pt_nt (t := true) (pu_call c3 hr ⟨so, kd, cs, ls, js, a, b, rfl, by omega, O.na, O.nb, O.ab, O.a, O.b, rfl⟩ (pas_cons (pu_var 0 rfl) (pas_cons (pu_var 2 rfl) pas_nil)))) fun G2 H2 g2 => ?_
    refine wb_ifT ((ok.gr g1).gr g2) ((pt_gt (pu_add (pu_lenL B.len (pu_fld (d := lgD ls) S.cl S.legs (pu_var 0 rfl) rfl)) pu_int) (pu_globI B.most)).is ?_) fun G3 H3 g3 Dm => ?_
    · rw [List.length_map]; simp; omega
    exact wb_raise T tk (fin G3 H3 ((g1.trans g2).trans g3))
def sewL (ls : Lgs) (a b : Str) : Lgs := ls.filter fun l => decide (l.1 ∉ [a, b])
def sewNJ (n : Nat) (ls : Lgs) (js : List Jn) (a b : Str) (e1 e2 : PE2) : List NJ := ((namedF n ls js).filter fun p => decide (p.1.1 ∉ [Pl.nm a, Pl.nm b]) && decide (p.2.1 ∉ [Pl.nm a, Pl.nm b])) ++ [(e1, e2)]
structure SewOk (so : Srts) (kd : Knds) (cs : List Str) (ls : Lgs) (js : List Jn) (a b : Str) (e1 e2 : PE2) (q : Str) : Prop where
  v : VD so kd cs ls js
  p : ∀ j ∈ js, j.a < cs.length + ls.length ∧ j.c < cs.length + ls.length
  na : Nm a
  nb : Nm b
  ab : a ≠ b
  ia : a ∈ ls.map (·.1)
  ib : b ∈ ls.map (·.1)
  f1 : farF (namedF cs.length ls js) a = some e1
  f2 : farF (namedF cs.length ls js) b = some e2
  q : (e1.2, q) ∈ so
def r_sew (CD CS : Addr) (ds : List D) (d : D) : Prop := ∃ (so : Srts) (kd : Knds) (cs : List Str) (ls : Lgs) (js : List Jn) (a b : Str) (e1 e2 : PE2) (q : Str), ds = [drD CD CS so kd cs ls js, .str a, .str b] ∧ SewOk so kd cs ls js a b e1 e2 q ∧ e1.1 ≠ .nm b ∧ q = e2.2 ∧
  (∀ p ∈ sewNJ cs.length ls js a b e1 e2, plOk ((sewL ls a b).map (·.1)) p.1.1 ∧ plOk ((sewL ls a b).map (·.1)) p.2.1) ∧ VD so kd cs (sewL ls a b) (withF cs.length (sewL ls a b) (sewNJ cs.length ls js a b e1 e2)) ∧ d = drD CD CS so kd cs (sewL ls a b) (withF cs.length (sewL ls a b) (sewNJ cs.length ls js a b e1 e2))
def x_sew (CN CD CS : Addr) (ds : List D) (C : Addr) : Prop := ∃ (so : Srts) (kd : Knds) (cs : List Str) (ls : Lgs) (js : List Jn) (a b : Str) (e1 e2 : PE2) (q : Str), ds = [drD CD CS so kd cs ls js, .str a, .str b] ∧ SewOk so kd cs ls js a b e1 e2 q ∧ ¬ (e1.1 ≠ .nm b ∧ q = e2.2) ∧ C = CN
theorem ok_join_legs (B : Bf mg) {CN CD CS : Addr} (S : DrF K CD) (T : ExF K mg "NoJoin" CN) (c1 : CalP P w K mg base 1 "is_name" r_name) (c2 : CalP P w K mg base 1 "named_joins" (r_named CD CS)) (c3 : CalP P w K mg base 1 "far_end" r_far) (c4 : CalP P w K mg base 1 "partner_of" (r_partner CS)) (c5 : CalP P w K mg base 7 "with_legs" (r_with CD CS))
    {f : Addr} {fd : FuncData} (F : Fun K "join_legs" "join_legs" s_join_legs f fd) : FnOk P w K mg base (L2.CX P w) 8 f fd ["drawing", "one", "other"] (spR (r_sew CD CS) (x_sew CN CD CS)) := by
  have hN : (["drawing", "one", "other", "names", "joins", "ends", "left", "legs", "name", "sort", "pair", "leg"] : List Str).Nodup := by decide
  refine fun_puX F (N := ["drawing", "one", "other", "names", "joins", "ends", "left", "legs", "name", "sort", "pair", "leg"]) (C8.fnScope_by (by decide +kernel)) (fun ds d ⟨_, _, _, _, _, _, _, _, _, _, e, _⟩ => by rw [e]; rfl) (fun ds d ⟨_, _, _, _, _, _, _, _, _, _, e, _⟩ => by rw [e]; rfl)
    (fun cdv A outer s H E ds d hr ⟨so, kd, cs, ls, js, a, b, e1, e2, q, e, O, h1, h2, pls, V2, ed⟩ hp => ?_) (fun cdv A outer s H E ds C G σ Dn hr ⟨so, kd, cs, ls, js, a, b, e1, e2, q, e, O, bad, ed⟩ ok tk fin => ?_)
  · subst e ed
    have V := O.v
    have jl := V.jl
    have l6 := V.l.l6
    have c6 := V.c.l6
    have nl : (namedF cs.length ls js).length ≤ 18 := by unfold namedF; rw [List.length_map]; omega
    refine ab_setC 3 (lc_map2 [("name", 8), ("sort", 9)] 8 9 ls (fun q => .str q.1) (fun q => .str q.2) (fun q => .str q.1) (pi_lst (pu_fld (d := lgD ls) S.cl S.legs (pu_var 0 rfl) rfl)) (fun q hq s H C cl fp => pu_var 8 rfl) (hl := by omega)) ?_
    have z1 : (ls.map fun q => D.str q.1) = (ls.map (·.1)).map (En.e (α := Str)) := by rw [List.map_map]; rfl
    rw [z1]
    refine ab_share 3 rfl ?_
    refine ab_ifF ((pw_or' (pt_nt (t := true) (pu_call c1 hr ⟨a, rfl, O.na, rfl⟩ (pas_cons (pu_var 1 rfl) pas_nil))) fun _ => pw_or' (pt_nt (t := true) (pu_call c1 hr ⟨b, rfl, O.nb, rfl⟩ (pas_cons (pu_var 2 rfl) pas_nil))) fun _ => pw_or' (pt_eqS hr (pu_var 1 rfl) (pu_var 2 rfl)) fun _ => pw_or' (pt_niT a (ls.map (·.1)) hr (pu_var 1 rfl) (pu_var 3 rfl)) fun _ => pw_or1' (pt_niT b (ls.map (·.1)) hr (pu_var 2 rfl) (pu_var 3 rfl))).pt.is ?_) ?_
    · rw [dec_false O.ab, dec_false (fun z => z O.ia), dec_false (fun z => z O.ib)]; rfl
    refine ab_set 4 (pu_call c2 hr ⟨so, kd, cs, ls, js, js, rfl, c6, l6, by omega, O.p, rfl⟩ (pas_cons (pu_var 0 rfl) (pas_cons (pu_fld S.cl S.joins (pu_var 0 rfl) rfl) pas_nil))) ?_ hN
    refine ab_set 5 (pu_tup (pas_cons (pu_call c3 hr ⟨_, a, rfl, by rw [O.f1]⟩ (pas_cons (pu_var 4 rfl) (pas_cons (pu_var 1 rfl) pas_nil))) (pas_cons (pu_call c3 hr ⟨_, b, rfl, by rw [O.f2]⟩ (pas_cons (pu_var 4 rfl) (pas_cons (pu_var 2 rfl) pas_nil))) pas_nil))) ?_ hN
    refine ab_ifF ((pw_or' (pt_eqT e1.1 (.nm b) hr (pu_ixT (k := 0) (ds := [En.e e1.1, .str e1.2]) (pu_ixT (k := 0) (pu_var 5 rfl) pu_int rfl) pu_int rfl) (pu_var 2 rfl)) fun _ => pw_or1' (pt_neS hr (pu_call c4 hr ⟨so, kd, (e1.2, q), rfl, V.s.s.nd, O.q, rfl⟩ (pas_cons (pu_fld S.cl S.stock (pu_var 0 rfl) rfl) (pas_cons (pu_ixT (k := 1) (ds := [En.e e1.1, .str e1.2]) (pu_ixT (k := 0) (pu_var 5 rfl) pu_int rfl) pu_int rfl) pas_nil))) (pu_ixT (k := 1) (ds := [En.e e2.1, .str e2.2]) (pu_ixT (k := 1) (pu_var 5 rfl) pu_int rfl) pu_int rfl))).pt.is ?_) ?_
    · rw [dec_false h1]; simp [h2]
    refine ab_setC 6 (lc_filN [("pair", 10)] 10 (namedF cs.length ls js) En.e (fun p => decide (p.1.1 ∉ [Pl.nm a, Pl.nm b]) && decide (p.2.1 ∉ [Pl.nm a, Pl.nm b])) En.e (pi_lst (pu_var 4 rfl)) (fun p hp s H C cl fp => (pw_and' (pt_niU p.1.1 [.nm a, .nm b] hr (pu_ixT (k := 0) (ds := [En.e p.1.1, .str p.1.2]) (pu_ixT (k := 0) (ds := [En.e p.1, En.e p.2]) (pu_var 10 rfl) pu_int rfl) pu_int rfl) (pu_tup (pas_cons (pu_var 1 rfl) (pas_cons (pu_var 2 rfl) pas_nil)) (show 2 ≤ 1000 by decide))) fun _ => pw_and1' (pt_niU p.2.1 [.nm a, .nm b] hr (pu_ixT (k := 0) (ds := [En.e p.2.1, .str p.2.2]) (pu_ixT (k := 1) (ds := [En.e p.1, En.e p.2]) (pu_var 10 rfl) pu_int rfl) pu_int rfl) (pu_tup (pas_cons (pu_var 1 rfl) (pas_cons (pu_var 2 rfl) pas_nil)) (show 2 ≤ 1000 by decide)))).pt) (fun p hp hf s H C cl fp => pu_var 10 rfl) (hl := by omega)) ?_
    refine ab_setC 7 (lc_filN [("leg", 11)] 11 ls En.e (fun l => decide (l.1 ∉ [a, b])) En.e (pi_lst (pu_fld (d := lgD ls) S.cl S.legs (pu_var 0 rfl) rfl)) (fun l hl s H C cl fp => (pt_niU l.1 [a, b] hr (pu_ixT (k := 0) (ds := [.str l.1, .str l.2]) (pu_var 11 rfl) pu_int rfl) (pu_tup (pas_cons (pu_var 1 rfl) (pas_cons (pu_var 2 rfl) pas_nil)) (show 2 ≤ 1000 by decide))).is (decide_eq_decide.2 Iff.rfl)) (fun l hl hf s H C cl fp => pu_var 11 rfl) (hl := by omega)) ?_
    refine ab_share 6 rfl (ab_share 7 rfl (ab_ret (pu_call c5 hr ⟨so, kd, cs, ls, sewL ls a b, js, sewNJ cs.length ls js a b e1 e2, rfl, ?_, pls, V2, rfl⟩ (pas_cons (pu_var 0 rfl) (pas_cons (pu_var 7 rfl) (pas_cons ((nu_cat (pu_var 6 rfl) (nu_lst (pas_cons (pu_var 5 rfl) pas_nil)).pu ?_).pu.is ?_) pas_nil)))) rfl))
    · unfold sewNJ
      rw [List.length_append]
      have := List.length_filter_le (fun p : NJ => decide (p.1.1 ∉ [Pl.nm a, Pl.nm b]) && decide (p.2.1 ∉ [Pl.nm a, Pl.nm b])) (namedF cs.length ls js)
      simp only [List.length_singleton]; omega
    · rw [List.length_map]
      have := List.length_filter_le (fun p : NJ => decide (p.1.1 ∉ [Pl.nm a, Pl.nm b]) && decide (p.2.1 ∉ [Pl.nm a, Pl.nm b])) (namedF cs.length ls js)
      simp only [List.length_singleton]; omega
    · unfold sewNJ; rw [List.map_append]; rfl
  · subst e ed
    have V := O.v
    have jl := V.jl
    have l6 := V.l.l6
    have c6 := V.c.l6
    refine wb_setC 3 ok (lc_map2 [("name", 8), ("sort", 9)] 8 9 ls (fun q => .str q.1) (fun q => .str q.2) (fun q => .str q.1) (pi_lst (pu_fld (d := lgD ls) S.cl S.legs (pu_var 0 rfl) rfl)) (fun q hq s H C cl fp => pu_var 8 rfl) (hl := by omega)) fun G1 H1 σ1 g1 ok1 => ?_
    have z1 : (ls.map fun q => D.str q.1) = (ls.map (·.1)).map (En.e (α := Str)) := by rw [List.map_map]; rfl
    rw [z1] at ok1
    refine wb_ifF ok1 ((pw_or' (pt_nt (t := true) (pu_call c1 hr ⟨a, rfl, O.na, rfl⟩ (pas_cons (pu_var 1 rfl) pas_nil))) fun _ => pw_or' (pt_nt (t := true) (pu_call c1 hr ⟨b, rfl, O.nb, rfl⟩ (pas_cons (pu_var 2 rfl) pas_nil))) fun _ => pw_or' (pt_eqS hr (pu_var 1 rfl) (pu_var 2 rfl)) fun _ => pw_or' (pt_niT a (ls.map (·.1)) hr (pu_var 1 rfl) (pu_var 3 rfl)) fun _ => pw_or1' (pt_niT b (ls.map (·.1)) hr (pu_var 2 rfl) (pu_var 3 rfl))).pt.is ?_) fun G2 H2 g2 => ?_
    · rw [dec_false O.ab, dec_false (fun z => z O.ia), dec_false (fun z => z O.ib)]; rfl
    refine wb_set 4 (ok1.gr g2) (pu_call c2 hr ⟨so, kd, cs, ls, js, js, rfl, c6, l6, by omega, O.p, rfl⟩ (pas_cons (pu_var 0 rfl) (pas_cons (pu_fld S.cl S.joins (pu_var 0 rfl) rfl) pas_nil))) (fun G3 H3 σ3 g3 ok3 => ?_) hN
    refine wb_set 5 ok3 (pu_tup (pas_cons (pu_call c3 hr ⟨_, a, rfl, by rw [O.f1]⟩ (pas_cons (pu_var 4 rfl) (pas_cons (pu_var 1 rfl) pas_nil))) (pas_cons (pu_call c3 hr ⟨_, b, rfl, by rw [O.f2]⟩ (pas_cons (pu_var 4 rfl) (pas_cons (pu_var 2 rfl) pas_nil))) pas_nil))) (fun G4 H4 σ4 g4 ok4 => ?_) hN
    refine wb_ifT ok4 ((pw_or' (pt_eqT e1.1 (.nm b) hr (pu_ixT (k := 0) (ds := [En.e e1.1, .str e1.2]) (pu_ixT (k := 0) (pu_var 5 rfl) pu_int rfl) pu_int rfl) (pu_var 2 rfl)) fun _ => pw_or1' (pt_neS hr (pu_call c4 hr ⟨so, kd, (e1.2, q), rfl, V.s.s.nd, O.q, rfl⟩ (pas_cons (pu_fld S.cl S.stock (pu_var 0 rfl) rfl) (pas_cons (pu_ixT (k := 1) (ds := [En.e e1.1, .str e1.2]) (pu_ixT (k := 0) (pu_var 5 rfl) pu_int rfl) pu_int rfl) pas_nil))) (pu_ixT (k := 1) (ds := [En.e e2.1, .str e2.2]) (pu_ixT (k := 1) (pu_var 5 rfl) pu_int rfl) pu_int rfl))).pt.is ?_) fun G5 H5 g5 Dm => ?_
    · by_cases z : e1.1 = .nm b
      · rw [dec_true z]; rfl
      · rw [dec_false z]
        have : q ≠ e2.2 := fun w => bad ⟨z, w⟩
        simp [this]
    exact wb_raise T tk (fin G5 H5 ((((g1.trans g2).trans g3).trans g4).trans g5))
end
end R87
namespace R87
open PySem PySem.Spec PyProof.Rows L2
open PySem.W (Tup T4 T3 DatumOrd Datum)
abbrev dnD (cs : List Str) (ls : Lgs) (js : List Jn) : D := .tup [csD cs, lgD ls, jsD js]
section
variable {X : Cx} {τ : List Sl} {a b c : Expr} {pos p q1 q2 q3 q4 q5 : Pos} {ds es : List D} {d : D} {n : Str}
/-- min(p) + max(p) -/
theorem pu_jl {x y : En2} {k : Nat} {nm1 nm2 : Pos} (hr : Room k X.A) (B : Bf X.mg) (ha : Pu X a τ (.lst [En.e x, En.e y])) (hb : Pu X b τ (.lst [En.e x, En.e y])) (g1 : Gl X "min" := by rfl) (g2 : Gl X "max" := by rfl) (h1 : noStar a = true := by rfl) (h2 : noStar b = true := by rfl) (hc : X.calm = true := by rfl) : Pu X (.BinOp (.Call (.Name "min" nm1) [a] [] q1) .Add (.Call (.Name "max" nm2) [b] [] q2) pos) τ (En.e (joinedF x y)) :=
  pu_catT (ds := [.int ((minT x y).1 : Int), .str (minT x y).2]) (es := [.int ((maxT x y).1 : Int), .str (maxT x y).2]) (pu_minL (x := x) (y := y) hr B.min ha (by decide) g1 h1 hc) (pu_maxL (x := x) (y := y) hr B.max hb (by decide) g2 h2 hc)
end
theorem zip_range {α : Type} (xs : List α) (d : α) : xs.zipIdx = (List.range xs.length).map fun i => (xs.getD i d, i) := by
  apply List.ext_getElem?
  intro i
  rw [List.getElem?_zipIdx, List.getElem?_map]
  by_cases h : i < xs.length
  · rw [List.getElem?_range h, getD_some (d := d) h]; simp
  · rw [List.getElem?_eq_none (by omega), List.getElem?_eq_none (by rw [List.length_range]; omega)]; rfl
abbrev s00 : Str × Str := ((⟨#[]⟩ : Str), (⟨#[]⟩ : Str))
theorem range'_add (b n : Nat) : List.range' b n = (List.range n).map (b + ·) := by
  rw [List.range_eq_range', List.map_add_range', Nat.add_zero]
def cntF (ends : List En2) (s : Str) : Nat := (ends.filter fun e => decide (e.2 = s)).length
def lackF (so : Srts) (ends : List En2) : List Str := so.flatMap fun p => if p.1 = p.2 then List.replicate (cntF ends p.1 % 2) p.1 else List.replicate (cntF ends p.1 - cntF ends p.2) p.2
section
variable {P : Program} {w : World} {K : PySem.W.Frag} {mg : Str → Option Value} {base : Heap}
def r_lends (ds : List D) (d : D) : Prop := ∃ (so : Srts) (kd : Knds) (cs : List Str) (ls : Lgs), ds = [kdsD kd, csD cs, lgD ls] ∧ VS so kd ∧ VC kd cs ∧ ls.length ≤ 100 ∧ d = .lst ((endsF kd cs ls).map En.e)
theorem ok_law_ends (B : Bf mg) {f : Addr} {fd : FuncData} (F : Fun K "_law_ends" "_law_ends" s_law_ends f fd) : FnOk P w K mg base CX0 1 f fd ["_law_kinds", "_law_corners", "_law_legs"] (spP r_lends) := by
  refine fun_pu F (N := ["_law_kinds", "_law_corners", "_law_legs", "_law_found", "_law_place", "_law_kind", "_law_sort", "_law_k"]) (C8.fnScope_by (by decide +kernel)) (fun ds d ⟨_, _, _, _, e, _⟩ => by rw [e]; rfl) fun cdv A outer s H E ds d hr ⟨so, kd, cs, ls, e, V, hc, hl, ed⟩ => ?_
  subst e ed
  have hN : (["_law_kinds", "_law_corners", "_law_legs", "_law_found", "_law_place", "_law_kind", "_law_sort", "_law_k"] : List Str).Nodup := by decide
  have l6 := hc.l6
  let fa (i : Nat) : List En2 := (cs.zipIdx.take i).flatMap fun p => (endsK kd p.1).map fun s => (p.2, s)
  have lfa : ∀ i, (fa i).length ≤ 30 := fun i => by
    refine Nat.le_trans (flat_len (n := 5) fun p hp => ?_) ?_
    · rw [List.length_map]; exact endsK_len V
    · rw [List.length_take, List.length_zipIdx]
      have : min i cs.length ≤ 6 := Nat.le_trans (Nat.min_le_right _ _) l6
      omega
  refine ab_set 3 (nu_lst pas_nil).pu ?_ hN
  refine ab_for (ds := enumD (cs.map En.e)) (fun i => [.sh (kdsD kd), .sh (csD cs), .sh (lgD ls), .sh (.lst ((fa i).map En.e)), .no, .no, .no, .no]) PassesOwn.never (pi_enumL B.enumerate (pu_var 1 rfl)) (Le.refl _) (fun i d hd => ?_) ?_
  · obtain ⟨x, hx, rfl⟩ := enumD_at hd
    rw [List.getElem?_map] at hx
    obtain ⟨k, hk, rfl⟩ := Option.map_eq_some_iff.1 hx
    refine ⟨_, _, tg_tup (tgs_cons (tg_name 4 hN) (tgs_cons (tg_name 5 hN) tgs_nil)), ?_⟩
    obtain ⟨p, hp, e⟩ := List.mem_map.1 (hc.mem k (List.mem_of_getElem? hk))
    have ek : endsK kd k = p.2.items := by rw [← e]; exact endsK_mem V.k.nd hp
    have lk := endsK_len V (k := k)
    refine ab_set 3 (d := .lst ((fa (i + 1)).map En.e)) ((nu_cat (pu_var 3 rfl) (nu_mapN [("_law_sort", 6)] 6 (endsK kd k) En.e (fun s => En.e ((i, s) : En2)) (pi_tupl ((pu_dget (k := .inr p.1) hr (pu_dictL (kvs := kKv kd) B.dict ((pu_var 0 rfl).is (congrArg D.lst (kKv_pairs kd)))) ((pu_var 5 rfl).is (by show D.str k = D.str p.1; rw [← e])) (kKv_some V.k.nd hp)).is (by rw [ek]; rfl))) (fun s hs s' H' C' cl fp => pu_tup (pas_cons (pu_var 4 rfl) (pas_cons (pu_var 6 rfl) pas_nil))) (hl := by omega) (hN := hN)).pu ?_).pu.is ?_) (ab_nil ?_) hN
    · have := lfa i
      rw [List.length_map, List.length_map]; omega
    · show _ = D.lst (((cs.zipIdx.take (i + 1)).flatMap _).map _)
      rw [take_flat _ (zip_at hk), List.map_append, List.map_map]; rfl
    · exact .eq (.eq (.eq (.eq (.no (.no (Le.refl _))))))
  have e0 : (enumD (cs.map (En.e (α := Str)))).length = cs.zipIdx.length := by simp
  have e1 : fa (enumD (cs.map (En.e (α := Str)))).length = cs.zipIdx.flatMap fun p => (endsK kd p.1).map fun s => (p.2, s) := by rw [e0]; simp only [fa, List.take_length]
  have lf := lfa (enumD (cs.map (En.e (α := Str)))).length
  rw [e1] at lf
  rw [e1]
  refine ab_ret ((nu_cat (pu_var 3 rfl) (nu_mapN [("_law_k", 7)] 7 (List.range ls.length) En.e (fun k => En.e ((cs.length + k, (ls.getD k s00).2) : En2)) (pi_rng (n := ls.length) B.range ((pu_lenL B.len (pu_var 2 rfl)).is (by rw [List.length_map])) (by omega)) (fun k hk s' H' C' cl fp => pu_tup (pas_cons ((pu_add (pu_lenL B.len (pu_var 1 rfl)) (pu_var 7 rfl)).is (by rw [List.length_map]; exact congrArg D.int (Int.natCast_add cs.length k).symm)) (pas_cons (pu_ixT (k := 1) (ds := [.str (ls.getD k s00).1, .str (ls.getD k s00).2]) (pu_ixL (k := k) (pu_var 2 rfl) (pu_var 7 rfl) (by rw [List.getElem?_map, getD_some (d := s00) (List.mem_range.1 hk)]; rfl)) pu_int rfl) pas_nil))) (hl := by rw [List.length_range]; omega) (hN := hN)).pu ?_).pu) ?_
  · rw [List.length_map, List.length_map, List.length_range]; omega
  · show D.lst _ = D.lst _
    unfold endsF
    rw [List.map_append, List.map_map, zip_range ls s00, List.map_map]; rfl
def r_lack (ds : List D) (d : D) : Prop := ∃ (so : Srts) (ends : List En2), ds = [sosD so, .lst (ends.map En.e)] ∧ so.length ≤ 3 ∧ ends.length ≤ 100 ∧ d = .lst ((lackF so ends).map En.e)
theorem cntF_le (ends : List En2) (s : Str) : cntF ends s ≤ ends.length := List.length_filter_le ..
theorem rep_flat {α : Type} (x : α) : ∀ k, (List.replicate k [x]).flatten = List.replicate k x
  | 0 => rfl
  | k + 1 => by rw [List.replicate_succ, List.flatten_cons, rep_flat x k, List.replicate_succ]; rfl
theorem ok_law_lacking (B : Bf mg) {f : Addr} {fd : FuncData} (F : Fun K "_law_lacking" "_law_lacking" s_law_lacking f fd) : FnOk P w K mg base CX0 1 f fd ["_law_sorts", "_law_ends_here"] (spP r_lack) := by
  refine fun_pu F (N := ["_law_sorts", "_law_ends_here", "_law_found", "_law_sort", "_law_partner", "_law_many", "_law_place", "_law_one_here"]) (C8.fnScope_by (by decide +kernel)) (fun ds d ⟨_, _, e, _⟩ => by rw [e]; rfl) fun cdv A outer s H E ds d hr ⟨so, ends, e, h3, hl, ed⟩ => ?_
  subst e ed
  have hN : (["_law_sorts", "_law_ends_here", "_law_found", "_law_sort", "_law_partner", "_law_many", "_law_place", "_law_one_here"] : List Str).Nodup := by decide
  let g (p : Str × Str) : List Str := if p.1 = p.2 then List.replicate (cntF ends p.1 % 2) p.1 else List.replicate (cntF ends p.1 - cntF ends p.2) p.2
  let fa (i : Nat) : List Str := (so.take i).flatMap g
  have gl : ∀ p, (g p).length ≤ 100 := fun p => by
    have h1 := cntF_le ends p.1
    show (if _ then _ else _ : List Str).length ≤ 100
    split
    · rw [List.length_replicate]; omega
    · rw [List.length_replicate]; omega
  have lfa : ∀ i, (fa i).length ≤ 300 := fun i => by
    refine Nat.le_trans (flat_len (n := 100) fun p hp => gl p) ?_
    rw [List.length_take]
    have : min i so.length ≤ 3 := Nat.le_trans (Nat.min_le_right _ _) h3
    omega
  refine ab_set 2 (nu_lst pas_nil).pu ?_ hN
  refine ab_for (ds := so.map En.e) (fun i => [.sh (sosD so), .sh (.lst (ends.map En.e)), .sh (.lst ((fa i).map En.e)), .no, .no, .no, .no, .no]) PassesOwn.never (pi_lst (pu_var 0 rfl)) (Le.refl _) (fun i d hd => ?_) ?_
  · rw [List.getElem?_map] at hd
    obtain ⟨p, hk, rfl⟩ := Option.map_eq_some_iff.1 hd
    have c1 := cntF_le ends p.1
    have c2 := cntF_le ends p.2
    refine ⟨_, _, tg_tup (tgs_cons (tg_name 3 hN) (tgs_cons (tg_name 4 hN) tgs_nil)), ?_⟩
    refine ab_set 5 (d := .int (cntF ends p.1 : Nat)) ((pu_lenL B.len (nu_fil2 [("_law_place", 6), ("_law_one_here", 7)] 6 7 ends (fun e => .int (e.1 : Int)) (fun e => .str e.2) (fun e => decide (e.2 = p.1)) (fun e => .str e.2) (pi_lst (pu_var 1 rfl)) (fun e he s H C cl fp => pt_eqS hr (pu_var 7 rfl) (pu_var 3 rfl)) (fun e he hf s H C cl fp => pu_var 7 rfl) (hl := by omega) (hN := hN)).pu).is (by rw [List.length_map]; rfl)) ?_ hN
    have e3 : D.lst ((fa i).map En.e ++ (g p).map En.e) = D.lst ((fa (i + 1)).map (En.e (α := Str))) := by
      show _ = D.lst (((so.take (i + 1)).flatMap g).map _)
      rw [take_flat g hk, List.map_append]
    have fin : Le [.sh (sosD so), .sh (.lst (ends.map En.e)), .sh (.lst ((fa (i + 1)).map En.e)), .no, .no, .no, .no, .no] [.sh (sosD so), .sh (.lst (ends.map En.e)), .sh (.lst ((fa (i + 1)).map (En.e (α := Str)))), .sh (.str p.1), .sh (.str p.2), .sh (.int (cntF ends p.1 : Nat)), .no, .no] := .eq (.eq (.eq (.no (.no (.no (.eq (.eq .nil)))))))
    have lf := lfa i
    refine ab_if (t := decide (p.1 = p.2)) (pt_eqS hr (pu_var 3 rfl) (pu_var 4 rfl)) (fun z => ?_) (fun z => ?_)
    · have z' : p.1 = p.2 := of_decide_eq_true z
      refine ab_set 2 ((nu_cat (pu_var 2 rfl) (nu_rep (k := cntF ends p.1 % 2) (nu_lst (pas_cons (pu_var 3 rfl) pas_nil)).pu ((pu_op op_mod (d_I (C := fun _ j => 0 < j) (g := fun i j => i % j) (by decide)) (pu_var 5 rfl) pu_int).is (congrArg D.int (by omega))) ?_ ?_).pu ?_).pu.is ?_) (ab_nil (ab_nil fin)) hN
      · simp; omega
      · omega
      · rw [rep_flat, List.length_map, List.length_replicate]; omega
      · rw [← e3, rep_flat]
        show D.lst (_ ++ _) = D.lst (_ ++ (if p.1 = p.2 then _ else _ : List Str).map _)
        rw [if_pos z', List.map_replicate]
    · have z' : p.1 ≠ p.2 := of_decide_eq_false z
      refine ab_set 2 ((nu_cat (pu_var 2 rfl) (nu_rep (k := cntF ends p.1 - cntF ends p.2) (nu_lst (pas_cons (pu_var 4 rfl) pas_nil)).pu ((pu_max2 (α := Int) (x := 0) (y := (cntF ends p.1 : Int) - (cntF ends p.2 : Int)) hr B.max pu_int (pu_sub (pu_var 5 rfl) ((pu_lenL B.len (nu_fil2 [("_law_place", 6), ("_law_one_here", 7)] 6 7 ends (fun e => .int (e.1 : Int)) (fun e => .str e.2) (fun e => decide (e.2 = p.2)) (fun e => .str e.2) (pi_lst (pu_var 1 rfl)) (fun e he s H C cl fp => pt_eqS hr (pu_var 7 rfl) (pu_var 4 rfl)) (fun e he hf s H C cl fp => pu_var 7 rfl) (hl := by omega) (hN := hN)).pu).is (by rw [List.length_map]; rfl)))).is ?_) ?_ ?_).pu ?_).pu.is ?_) (ab_nil (ab_nil fin)) hN
      · show D.int (maxT (0 : Int) _) = _
        refine congrArg D.int ?_
        have e : DatumOrd.lt (0 : Int) ((cntF ends p.1 : Int) - (cntF ends p.2 : Int)) = decide ((0 : Int) < (cntF ends p.1 : Int) - (cntF ends p.2 : Int)) := rfl
        unfold maxT
        rw [e]
        by_cases w : (0 : Int) < (cntF ends p.1 : Int) - (cntF ends p.2 : Int)
        · rw [if_pos (by simpa using w)]; omega
        · rw [if_neg (by simpa using w)]; omega
      · simp; omega
      · omega
      · rw [rep_flat, List.length_map, List.length_replicate]; omega
      · rw [← e3, rep_flat]
        show D.lst (_ ++ _) = D.lst (_ ++ (if p.1 = p.2 then _ else _ : List Str).map _)
        rw [if_neg z', List.map_replicate]
  refine ab_ret (pu_var 2 rfl) ?_
  rw [List.length_map]
  show D.lst (((so.take so.length).flatMap g).map _) = _
  rw [List.take_length]; rfl
end
end R87
namespace R87
open PySem PySem.Spec PyProof.Rows L2
open PySem.W (Tup T4 T3 DatumOrd Datum)
section
variable {P : Program} {w : World} {K : PySem.W.Frag} {mg : Str → Option Value} {base : Heap}
theorem perm_map_sort {js : List Jn} {g : Jn → Jn} : (sortT (js.map g)).Perm (js.map g) := sortT_perm _
def r_lboth (ds : List D) (d : D) : Prop := ∃ (c1 c2 : List Str) (l1 l2 : Lgs) (j1 j2 : List Jn), ds = [dnD c1 l1 j1, dnD c2 l2 j2] ∧ (c1 ++ c2).length ≤ 6 ∧ (l1 ++ l2).length ≤ 6 ∧ j1.length ≤ 18 ∧ j2.length ≤ 18 ∧
  (∀ j ∈ j1, j.a < c1.length + l1.length ∧ j.c < c1.length + l1.length) ∧ (∀ j ∈ j2, j.a < c2.length + l2.length ∧ j.c < c2.length + l2.length) ∧ d = dnD (c1 ++ c2) (besL l1 l2) (besJ c1 l1 j1 c2 l2 j2)
theorem ok_law_both (B : Bf mg) {f : Addr} {fd : FuncData} (F : Fun K "_law_both" "_law_both" s_law_both f fd) : FnOk P w K mg base CX0 1 f fd ["_law_one_here", "_law_two"] (spP r_lboth) := by
  have hN : (["_law_one_here", "_law_two", "_law_corners", "_law_legs", "_law_joins", "_law_drawn", "_law_base", "_law_places", "_law_place", "_law_sort", "_law_far", "_law_partner", "_law_pair", "_law_k", "_law_leg"] : List Str).Nodup := by decide
  refine fun_pu F (N := ["_law_one_here", "_law_two", "_law_corners", "_law_legs", "_law_joins", "_law_drawn", "_law_base", "_law_places", "_law_place", "_law_sort", "_law_far", "_law_partner", "_law_pair", "_law_k", "_law_leg"]) (C8.fnScope_by (by decide +kernel)) (fun ds d ⟨_, _, _, _, _, _, e, _⟩ => by rw [e]; rfl) fun cdv A outer s H E ds d hr ⟨d1, d2, l1, l2, j1, j2, e, n6, m6, q1, q2, hp1, hp2, ed⟩ => ?_
  subst e ed
  have ll : (l1 ++ l2).length = l1.length + l2.length := List.length_append ..
  have cl : (d1 ++ d2).length = d1.length + d2.length := List.length_append ..
  refine ab_set 2 (d := csD (d1 ++ d2)) ((nu_cat (pu_ixT (k := 0) (pu_var 0 rfl) pu_int rfl) (pu_ixT (k := 0) (pu_var 1 rfl) pu_int rfl) (by rw [List.length_map, List.length_map]; omega)).pu.is (congrArg D.lst (List.map_append (l₁ := d1) (l₂ := d2)).symm)) ?_ hN
  refine ab_set 3 (nu_sorted (xs := l1 ++ l2) hr B.sorted ((nu_cat (pu_ixT (k := 1) (pu_var 0 rfl) pu_int rfl) (pu_ixT (k := 1) (pu_var 1 rfl) pu_int rfl) (by rw [List.length_map, List.length_map]; omega)).pu.is (congrArg D.lst (List.map_append (l₁ := l1) (l₂ := l2)).symm))).pu ?_ hN
  refine ab_setO 4 (nu_lst pas_nil) ?_ hN
  let L := besL l1 l2
  let tot := (d1 ++ d2).length
  let g1 (j : Jn) : Jn := joinedF ((besP 0 d1.length tot l1 L).getD j.a 0, j.b) ((besP 0 d1.length tot l1 L).getD j.c 0, j.d)
  let g2 (j : Jn) : Jn := joinedF ((besP d1.length d2.length tot l2 L).getD j.a 0, j.b) ((besP d1.length d2.length tot l2 L).getD j.c 0, j.d)
  let mj (i : Nat) : List Jn := if i = 0 then j1.map g1 else j2.map g2
  let acc (i : Nat) : List Jn := (List.range i).flatMap mj
  have memL : ∀ l, l ∈ L ↔ l ∈ l1 ++ l2 := fun l => (sortT_perm _).mem_iff
  have turn : ∀ (i : Nat) (cs : List Str) (ls : Lgs) (js : List Jn) (bs : Nat), cs.length ≤ 6 → ls.length ≤ 6 → js.length ≤ 18 → bs ≤ 6 → (∀ l ∈ ls, l ∈ L) → (∀ j ∈ js, j.a < cs.length + ls.length ∧ j.c < cs.length + ls.length) → mj i = js.map (fun j => joinedF ((besP bs cs.length tot ls L).getD j.a 0, j.b) ((besP bs cs.length tot ls L).getD j.c 0, j.d)) → (acc i).length ≤ 100 →
      AB (cxOf CX0 P w K mg base ["_law_one_here", "_law_two", "_law_corners", "_law_legs", "_law_joins", "_law_drawn", "_law_base", "_law_places", "_law_place", "_law_sort", "_law_far", "_law_partner", "_law_pair", "_law_k", "_law_leg"] "_law_both" (defScope s_law_both) f cdv A outer s H E).nox m0
        ((defBody s_law_both).getD 3 (.Pass ⟨0, 0, 0, 0⟩) |> fun | .For _ _ b _ _ => b | _ => [])
        [.sh (dnD d1 l1 j1), .sh (dnD d2 l2 j2), .sh (csD (d1 ++ d2)), .sh (lgD L), .ow ((acc i).map En.e), .sh (dnD cs ls js), .sh (.int (bs : Int)), .no, .no, .no, .no, .no, .no, .no, .no]
        { nx := fun t => Le [.sh (dnD d1 l1 j1), .sh (dnD d2 l2 j2), .sh (csD (d1 ++ d2)), .sh (lgD L), .ow ((acc (i + 1)).map En.e), .no, .no, .no, .no, .no, .no, .no, .no, .no, .no] t,
          ct := fun t => Le [.sh (dnD d1 l1 j1), .sh (dnD d2 l2 j2), .sh (csD (d1 ++ d2)), .sh (lgD L), .ow ((acc (i + 1)).map En.e), .no, .no, .no, .no, .no, .no, .no, .no, .no, .no] t,
          bk := fun t => AB (cxOf CX0 P w K mg base ["_law_one_here", "_law_two", "_law_corners", "_law_legs", "_law_joins", "_law_drawn", "_law_base", "_law_places", "_law_place", "_law_sort", "_law_far", "_law_partner", "_law_pair", "_law_k", "_law_leg"] "_law_both" (defScope s_law_both) f cdv A outer s H E).nox m0 ((defBody s_law_both).drop 4) t { nx := fun _ => dnD (d1 ++ d2) (besL l1 l2) (besJ d1 l1 j1 d2 l2 j2) = .non, rt := fun e _ => e = dnD (d1 ++ d2) (besL l1 l2) (besJ d1 l1 j1 d2 l2 j2) },
          rt := fun e _ => e = dnD (d1 ++ d2) (besL l1 l2) (besJ d1 l1 j1 d2 l2 j2) } := by
    intro i cs ls js bs h1 h2 h3 h4 h5 h6 h7 h8
    let g (j : Jn) : Jn := joinedF ((besP bs cs.length tot ls L).getD j.a 0, j.b) ((besP bs cs.length tot ls L).getD j.c 0, j.d)
    have h7 : mj i = js.map g := h7
    refine ab_set 7 (d := .lst ((besP bs cs.length tot ls L).map (En.e (α := Nat)))) ((nu_cat (nu_mapN [("_law_k", 13)] 13 (List.range cs.length) En.e (fun k => En.e (bs + k)) (pi_rng (n := cs.length) B.range ((pu_lenL B.len (pu_ixT (k := 0) (d := csD cs) (pu_var 5 rfl) pu_int rfl)).is (by rw [List.length_map])) (by omega)) (fun k hk s H C cl fp => (pu_add (pu_var 6 rfl) (pu_var 13 rfl)).is (congrArg D.int (Int.natCast_add bs k).symm)) (hl := by rw [List.length_range]; omega) (hN := hN)).pu (nu_mapN [("_law_leg", 14)] 14 ls En.e (fun l => En.e (tot + ixOf L l)) (pi_lst (pu_ixT (k := 1) (d := lgD ls) (pu_var 5 rfl) pu_int rfl)) (fun l hl s H C cl fp => (pu_add (pu_lenL B.len (pu_var 2 rfl)) (pu_index (x := l) (xs := L) hr (pu_var 3 rfl) (pu_var 14 rfl) (h5 l hl))).is (by rw [List.length_map]; exact congrArg D.int (Int.natCast_add tot (ixOf L l)).symm)) (hl := by omega) (hN := hN)).pu ?_).pu.is ?_) ?_ hN
    · rw [List.length_map, List.length_map, List.length_range]; omega
    · unfold besP; rw [List.map_append, List.map_map, range'_add, List.map_map]; rfl
    refine ab_for (ds := js.map En.e) (fun k => [.sh (dnD d1 l1 j1), .sh (dnD d2 l2 j2), .sh (csD (d1 ++ d2)), .sh (lgD L), .ow ((acc i ++ (js.take k).map g).map En.e), .no, .no, .sh (.lst ((besP bs cs.length tot ls L).map (En.e (α := Nat)))), .no, .no, .no, .no, .no, .no, .no]) PassesOwn.never (pi_lst (pu_ixT (k := 2) (d := jsD js) (pu_var 5 rfl) pu_int rfl)) ?_ (fun k d hd => ?_) ?_
    · rw [List.take_zero, List.map_nil, List.append_nil]
      exact .eq (.eq (.eq (.eq (.eq (.no (.no (.eq (.no (.no (.no (.no (.no (.no (.no .nil))))))))))))))
    · rw [List.getElem?_map] at hd
      obtain ⟨j, hk, rfl⟩ := Option.map_eq_some_iff.1 hd
      obtain ⟨b1, b2⟩ := h6 j (List.mem_of_getElem? hk)
      refine ⟨_, _, tg_tup (tgs_cons (tg_name 8 hN) (tgs_cons (tg_name 9 hN) (tgs_cons (tg_name 10 hN) (tgs_cons (tg_name 11 hN) tgs_nil)))), ?_⟩
      refine ab_set 12 (nu_lst (pas_cons ((pu_tup (pas_cons (pu_ixL (k := j.a) (pu_var 7 rfl) (pu_var 8 rfl) (by rw [List.getElem?_map, getD_some (d := 0) (by rw [besP_len]; exact b1)]; rfl)) (pas_cons (pu_var 9 rfl) pas_nil))).is (d' := En.e (((besP bs cs.length tot ls L).getD j.a 0, j.b) : En2)) rfl) (pas_cons ((pu_tup (pas_cons (pu_ixL (k := j.c) (pu_var 7 rfl) (pu_var 10 rfl) (by rw [List.getElem?_map, getD_some (d := 0) (by rw [besP_len]; exact b2)]; rfl)) (pas_cons (pu_var 11 rfl) pas_nil))).is (d' := En.e (((besP bs cs.length tot ls L).getD j.c 0, j.d) : En2)) rfl) pas_nil)) (show 2 ≤ 1000 by decide)).pu ?_ hN
      refine ab_append 4 rfl (pu_jl (x := ((besP bs cs.length tot ls L).getD j.a 0, j.b)) (y := ((besP bs cs.length tot ls L).getD j.c 0, j.d)) hr B (pu_var 12 rfl) (pu_var 12 rfl)) (ab_nil ?_) ?_
      · have e3 : (acc i ++ (js.take k).map g).map En.e ++ [En.e (g j)] = (acc i ++ (js.take (k + 1)).map g).map En.e := by rw [take_mapS g hk, ← List.append_assoc]; exact (List.map_append (l₁ := acc i ++ (js.take k).map g) (l₂ := [g j])).symm
        show Le [_, _, _, _, _, _, _, _, _, _, _, _, _, _, _] [_, _, _, _, Sl.ow ((acc i ++ (js.take k).map g).map En.e ++ [En.e (g j)]), _, _, _, _, _, _, _, _, _, _]
        rw [e3]
        exact .eq (.eq (.eq (.eq (.eq (.no (.no (.eq (.no (.no (.no (.no (.no (.no (.no .nil))))))))))))))
      · rw [List.length_map, List.length_append, List.length_map, List.length_take]; omega
    · refine ab_nil ?_
      have e3 : (acc i ++ (js.take (js.map (En.e (α := Jn))).length).map g) = acc (i + 1) := by
        show _ = (List.range (i + 1)).flatMap mj
        rw [List.length_map, List.take_length, List.range_succ, List.flatMap_append, ← h7]; simp [acc]
      rw [e3]
      exact .eq (.eq (.eq (.eq (.eq (.no (.no (.no (.no (.no (.no (.no (.no (.no (.no .nil))))))))))))))
  refine ab_for (ds := [.tup [dnD d1 l1 j1, .int 0], .tup [dnD d2 l2 j2, .int (d1.length : Int)]]) (fun i => [.sh (dnD d1 l1 j1), .sh (dnD d2 l2 j2), .sh (csD (d1 ++ d2)), .sh (lgD L), .ow ((acc i).map En.e), .no, .no, .no, .no, .no, .no, .no, .no, .no, .no]) PassesOwn.never
    (pi_lst (nu_lst (pas_cons (pu_tup (pas_cons (pu_var 0 rfl) (pas_cons pu_int pas_nil))) (pas_cons (pu_tup (pas_cons (pu_var 1 rfl) (pas_cons ((pu_lenL B.len (pu_ixT (k := 0) (d := csD d1) (pu_var 0 rfl) pu_int rfl)).is (by rw [List.length_map])) pas_nil))) pas_nil))).pu) (Le.refl _) (fun i d hd => ?_) ?_
  · match i, hd with
    | 0, hd =>
      cases (Option.some.inj hd)
      exact ⟨_, _, tg_tup (tgs_cons (tg_name 5 hN) (tgs_cons (tg_name 6 hN) tgs_nil)), turn 0 d1 l1 j1 0 (by omega) (by omega) q1 (by omega) (fun l h => (memL l).2 (List.mem_append_left _ h)) hp1 rfl (Nat.zero_le _)⟩
    | 1, hd =>
      cases (Option.some.inj hd)
      refine ⟨_, _, tg_tup (tgs_cons (tg_name 5 hN) (tgs_cons (tg_name 6 hN) tgs_nil)), turn 1 d2 l2 j2 d1.length (by omega) (by omega) q2 (by omega) (fun l h => (memL l).2 (List.mem_append_right _ h)) hp2 rfl ?_⟩
      have : (acc 1).length = j1.length := by simp [acc, mj, List.range_succ]
      omega
  · have e9 : acc 2 = j1.map g1 ++ j2.map g2 := by simp [acc, mj, List.range_succ]
    refine ab_share 4 rfl (ab_ret (pu_tup (pas_cons (pu_var 2 rfl) (pas_cons (pu_var 3 rfl) (pas_cons (nu_sorted (xs := acc 2) hr B.sorted (pu_var 4 rfl)).pu pas_nil)))) ?_)
    show D.tup [_, _, D.lst _] = D.tup [_, _, D.lst _]
    rw [e9, show sortT (j1.map g1 ++ j2.map g2) = besJ d1 l1 j1 d2 l2 j2 from sortT_uniq (List.Perm.append perm_map_sort.symm perm_map_sort.symm)]
end
end R87
namespace R87
open PySem PySem.Spec PyProof.Rows L2
open PySem.W (Tup T4 T3 DatumOrd Datum)
section
variable {P : Program} {w : World} {K : PySem.W.Frag} {mg : Str → Option Value} {base : Heap}
def movC (cs : List Str) (ns : List Nat) : List Str := (List.range cs.length).map fun k => cs.getD (ns.idxOf k) (⟨#[]⟩ : Str)
abbrev movP (n m : Nat) (ns : List Nat) : Nat → Nat := fun i => (ns ++ List.range' n m).getD i 0
def r_lmoved (ds : List D) (d : D) : Prop := ∃ (cs : List Str) (ls : Lgs) (js : List Jn) (ns : List Nat), ds = [csD cs, lgD ls, jsD js, .tupF (ns.map En.e)] ∧ cs.length ≤ 6 ∧ ls.length ≤ 6 ∧ js.length ≤ 18 ∧ ns.length = cs.length ∧ (∀ k, k < cs.length → k ∈ ns) ∧ (∀ j ∈ js, j.a < cs.length + ls.length ∧ j.c < cs.length + ls.length) ∧
  d = .tup [csD (movC cs ns), jsD (movedF js (movP cs.length ls.length ns))]
theorem ok_law_moved (B : Bf mg) {f : Addr} {fd : FuncData} (F : Fun K "_law_moved" "_law_moved" s_law_moved f fd) : FnOk P w K mg base CX0 1 f fd ["_law_corners", "_law_legs", "_law_joins", "_law_order"] (spP r_lmoved) := by
  have hN : (["_law_corners", "_law_legs", "_law_joins", "_law_order", "_law_kinds_there", "_law_places", "_law_found", "_law_place", "_law_sort", "_law_far", "_law_partner", "_law_pair", "_law_k"] : List Str).Nodup := by decide
  refine fun_pu F (N := ["_law_corners", "_law_legs", "_law_joins", "_law_order", "_law_kinds_there", "_law_places", "_law_found", "_law_place", "_law_sort", "_law_far", "_law_partner", "_law_pair", "_law_k"]) (C8.fnScope_by (by decide +kernel)) (fun ds d ⟨_, _, _, _, e, _⟩ => by rw [e]; rfl) fun cdv A outer s H E ds d hr ⟨cs, ls, js, ns, e, n6, m6, q1, ln, hm, hp, ed⟩ => ?_
  subst e ed
  let pl := ns ++ List.range' cs.length ls.length
  have ple : pl.length = cs.length + ls.length := by show (ns ++ _).length = _; rw [List.length_append, List.length_range', ln]
  let g (j : Jn) : Jn := joinedF (pl.getD j.a 0, j.b) (pl.getD j.c 0, j.d)
  refine ab_setC 4 (lc_mapN [("_law_k", 12)] 12 (List.range cs.length) En.e (fun k => En.e (cs.getD (ns.idxOf k) (⟨#[]⟩ : Str))) (pi_rng (n := cs.length) B.range ((pu_lenL B.len (pu_var 0 rfl)).is (by rw [List.length_map])) (by omega)) (fun k hk s H C cl fp => ?_) (hl := by rw [List.length_range]; omega)) ?_
  · have h1 := hm k (List.mem_range.1 hk)
    have h2 : ns.idxOf k < cs.length := by rw [← ln]; exact List.idxOf_lt_length_iff.2 h1
    exact pu_ixL (k := ns.idxOf k) (pu_var 0 rfl) (pu_indexF (x := k) (xs := ns) hr (pu_var 3 rfl) (pu_var 12 rfl) h1) (by rw [List.getElem?_map, getD_some (d := (⟨#[]⟩ : Str)) h2]; rfl)
  refine ab_share 4 rfl ?_
  refine ab_set 5 (d := .lst (pl.map (En.e (α := Nat)))) ((nu_cat (nu_listTF B.list (pu_var 3 rfl)).pu (nu_mapN [("_law_k", 12)] 12 (List.range ls.length) En.e (fun k => En.e (cs.length + k)) (pi_rng (n := ls.length) B.range ((pu_lenL B.len (pu_var 1 rfl)).is (by rw [List.length_map])) (by omega)) (fun k hk s H C cl fp => (pu_add (pu_lenL B.len (pu_var 0 rfl)) (pu_var 12 rfl)).is (by rw [List.length_map]; exact congrArg D.int (Int.natCast_add cs.length k).symm)) (hl := by rw [List.length_range]; omega) (hN := hN)).pu ?_).pu.is ?_) ?_ hN
  · rw [List.length_map, List.length_map, List.length_range]; omega
  · show D.lst _ = D.lst ((ns ++ _).map _); rw [List.map_append, range'_add, List.map_map]; rfl
  refine ab_setO 6 (nu_lst pas_nil) ?_ hN
  refine ab_for (ds := js.map En.e) (fun k => [.sh (csD cs), .sh (lgD ls), .sh (jsD js), .sh (.tupF (ns.map En.e)), .sh (.lst ((List.range cs.length).map fun k => En.e (cs.getD (ns.idxOf k) (⟨#[]⟩ : Str)))), .sh (.lst (pl.map (En.e (α := Nat)))), .ow (((js.take k).map g).map En.e), .no, .no, .no, .no, .no, .no]) PassesOwn.never (pi_lst (pu_var 2 rfl)) (Le.refl _) (fun k d hd => ?_) ?_
  · rw [List.getElem?_map] at hd
    obtain ⟨j, hk, rfl⟩ := Option.map_eq_some_iff.1 hd
    obtain ⟨b1, b2⟩ := hp j (List.mem_of_getElem? hk)
    refine ⟨_, _, tg_tup (tgs_cons (tg_name 7 hN) (tgs_cons (tg_name 8 hN) (tgs_cons (tg_name 9 hN) (tgs_cons (tg_name 10 hN) tgs_nil)))), ?_⟩
    refine ab_set 11 (nu_lst (pas_cons ((pu_tup (pas_cons (pu_ixL (k := j.a) (pu_var 5 rfl) (pu_var 7 rfl) (by rw [List.getElem?_map, getD_some (d := 0) (by rw [ple]; exact b1)]; rfl)) (pas_cons (pu_var 8 rfl) pas_nil))).is (d' := En.e ((pl.getD j.a 0, j.b) : En2)) rfl) (pas_cons ((pu_tup (pas_cons (pu_ixL (k := j.c) (pu_var 5 rfl) (pu_var 9 rfl) (by rw [List.getElem?_map, getD_some (d := 0) (by rw [ple]; exact b2)]; rfl)) (pas_cons (pu_var 10 rfl) pas_nil))).is (d' := En.e ((pl.getD j.c 0, j.d) : En2)) rfl) pas_nil)) (show 2 ≤ 1000 by decide)).pu ?_ hN
    refine ab_append 6 rfl (pu_jl (x := (pl.getD j.a 0, j.b)) (y := (pl.getD j.c 0, j.d)) hr B (pu_var 11 rfl) (pu_var 11 rfl)) (ab_nil ?_) ?_
    · have e3 : ((js.take k).map g).map En.e ++ [En.e (g j)] = ((js.take (k + 1)).map g).map En.e := by rw [take_mapS g hk]; exact (List.map_append (l₁ := (js.take k).map g) (l₂ := [g j])).symm
      show Le [_, _, _, _, _, _, _, _, _, _, _, _, _] [_, _, _, _, _, _, Sl.ow (((js.take k).map g).map En.e ++ [En.e (g j)]), _, _, _, _, _, _]
      rw [e3]
      exact .eq (.eq (.eq (.eq (.eq (.eq (.eq (.no (.no (.no (.no (.no (.no .nil))))))))))))
    · rw [List.length_map, List.length_map, List.length_take]; omega
  rw [List.length_map, List.take_length]
  refine ab_share 6 rfl (ab_ret (pu_tup (pas_cons (pu_var 4 rfl) (pas_cons (nu_sorted (xs := js.map g) hr B.sorted (pu_var 6 rfl)).pu pas_nil))) ?_)
  show D.tup [D.lst _, _] = D.tup [D.lst _, _]
  unfold movC
  rw [List.map_map]; rfl
end
end R87
namespace R87
open PySem PySem.Spec PyProof.Rows L2
open PySem.W (Tup T4 T3 DatumOrd Datum)
def stepR (x : Nat) (row : List Nat) (j : Jn) : List Nat := if x ∈ [j.a, j.c] then row ++ [j.a, j.c].filter (fun p => decide (p ∉ row)) else row
def rowN (js : List Jn) (x : Nat) (row : List Nat) : List Nat := js.foldl (stepR x) row
def bfs (js : List Jn) : Nat → List Nat → Nat → List Nat
  | 0, row, _ => row
  | n + 1, row, at_ => if at_ < row.length then bfs js n (rowN js (row.getD at_ 0) row) (at_ + 1) else row
def grps (js : List Jn) (many : Nat) : Nat → List Nat → List (List Nat)
  | 0, _ => []
  | _ + 1, [] => []
  | n + 1, x :: l => sset (bfs js (many + 1) [x] 0) :: grps js many n ((x :: l).filter fun p => decide (p ∉ bfs js (many + 1) [x] 0))
def groupsF (many : Nat) (js : List Jn) : List (List Nat) := grps js many many (List.range many)
structure RowOk (many : Nat) (row : List Nat) : Prop where
  nd : row.Nodup
  lt : ∀ p ∈ row, p < many
theorem nodup_bound {many : Nat} {row : List Nat} (h : RowOk many row) : row.length ≤ many := by
  have := nodup_subset_len (ys := List.range many) h.nd fun p hp => List.mem_range.2 (h.lt p hp)
  rwa [List.length_range] at this
theorem stepR_ok {many x : Nat} {row : List Nat} {j : Jn} (h : RowOk many row) (hx : x ∈ row) (ha : j.a < many) (hc : j.c < many) : RowOk many (stepR x row j) := by
  unfold stepR
  split
  · rename_i hm
    refine ⟨?_, fun p hp => ?_⟩
    · rw [List.nodup_append]
      refine ⟨h.nd, ?_, fun a ha b hb e => ?_⟩
      · by_cases e : j.a = j.c
        · have : j.a ∈ row := by
            rcases List.mem_cons.1 hm with z | z
            · rw [← z]; exact hx
            · rw [List.mem_singleton.1 z] at hx; rw [e]; exact hx
          have : j.c ∈ row := e ▸ this
          simp [*]
        · exact List.Pairwise.filter _ (by simp [e])
      · have := (List.mem_filter.1 hb).2
        rw [← e] at this
        exact (of_decide_eq_true this) ha
    · rcases List.mem_append.1 hp with z | z
      · exact h.lt p z
      · rcases List.mem_cons.1 (List.mem_filter.1 z).1 with w | w
        · rw [w]; exact ha
        · rw [List.mem_singleton.1 w]; exact hc
  · exact h
theorem stepR_pre (x : Nat) (row : List Nat) (j : Jn) : ∃ t, stepR x row j = row ++ t := by
  unfold stepR
  split
  · exact ⟨_, rfl⟩
  · exact ⟨[], by simp⟩
theorem fold_pre (x : Nat) : ∀ (js : List Jn) (row : List Nat), ∃ t, js.foldl (stepR x) row = row ++ t
  | [], row => ⟨[], by simp⟩
  | j :: js, row => by
    obtain ⟨t, e⟩ := stepR_pre x row j
    obtain ⟨u, e2⟩ := fold_pre x js (stepR x row j)
    exact ⟨t ++ u, by rw [List.foldl_cons, e2, e, List.append_assoc]⟩
theorem fold_ok {many x : Nat} : ∀ {js : List Jn} {row : List Nat}, RowOk many row → x ∈ row → (∀ j ∈ js, j.a < many ∧ j.c < many) → RowOk many (js.foldl (stepR x) row)
  | [], _, h, _, _ => h
  | j :: js, row, h, hx, hj => by
    obtain ⟨t, e⟩ := stepR_pre x row j
    rw [List.foldl_cons]
    exact fold_ok (stepR_ok h hx (hj j (.head _)).1 (hj j (.head _)).2) (by rw [e]; exact List.mem_append_left _ hx) fun k hk => hj k (.tail _ hk)
theorem bfs_ok {many : Nat} {js : List Jn} (hj : ∀ j ∈ js, j.a < many ∧ j.c < many) : ∀ (n : Nat) {row : List Nat} {at_ : Nat}, RowOk many row → RowOk many (bfs js n row at_) ∧ ∀ x ∈ row, x ∈ bfs js n row at_
  | 0, _, _, h => ⟨h, fun _ h => h⟩
  | n + 1, row, at_, h => by
    unfold bfs
    split
    · rename_i hl
      have hx : row.getD at_ 0 ∈ row := List.mem_of_getElem? (getD_some (d := 0) hl)
      obtain ⟨a, b⟩ := bfs_ok hj n (at_ := at_ + 1) (fold_ok h hx hj : RowOk many (rowN js (row.getD at_ 0) row))
      obtain ⟨t, e⟩ := fold_pre (row.getD at_ 0) js row
      exact ⟨a, fun x hx => b x (by show x ∈ js.foldl (stepR (row.getD at_ 0)) row; rw [e]; exact List.mem_append_left _ hx)⟩
    · exact ⟨h, fun _ h => h⟩
section
variable {P : Program} {w : World} {K : PySem.W.Frag} {mg : Str → Option Value} {base : Heap}
def r_groups (ds : List D) (d : D) : Prop := ∃ (many : Nat) (js : List Jn), ds = [.int (many : Int), jsD js] ∧ many ≤ 12 ∧ (∀ j ∈ js, j.a < many ∧ j.c < many) ∧ d = .lst ((groupsF many js).map En.e)
theorem grps_len (js : List Jn) (many : Nat) : ∀ (n : Nat) (l : List Nat), (grps js many n l).length ≤ n
  | 0, _ => Nat.le_refl _
  | _ + 1, [] => Nat.zero_le _
  | n + 1, x :: l => by
    show (_ :: grps js many n _).length ≤ n + 1
    rw [List.length_cons]
    exact Nat.succ_le_succ (grps_len js many n _)
theorem ok_law_groups (B : Bf mg) {f : Addr} {fd : FuncData} (F : Fun K "_law_groups" "_law_groups" s_law_groups f fd) : FnOk P w K mg base CX0 1 f fd ["_law_many", "_law_joins"] (spP r_groups) := by
  have hN : (["_law_many", "_law_joins", "_law_found", "_law_left", "_law_row", "_law_at", "_law_join", "_law_ends_here", "_law_place"] : List Str).Nodup := by decide
  refine fun_pu F (N := ["_law_many", "_law_joins", "_law_found", "_law_left", "_law_row", "_law_at", "_law_join", "_law_ends_here", "_law_place"]) (C8.fnScope_by (by decide +kernel)) (fun ds d ⟨_, _, e, _⟩ => by rw [e]; rfl) fun cdv A outer s H E ds d hr ⟨many, js, e, hm, hj, ed⟩ => ?_
  subst e ed
  refine ab_setO 2 (nu_lst pas_nil) ?_ hN
  refine ab_set 3 (nu_listRange1 (k := many) B.range B.list (pu_var 0 rfl) (by omega)).pu ?_ hN
  refine ab_while (fun n t => ∃ (found : List (List Nat)) (left : List Nat), t = [.sh (.int (many : Int)), .sh (jsD js), .ow (found.map En.e), .sh (.lst (left.map En.e)), .no, .no, .no, .no, .no] ∧ left.length ≤ n ∧ (∀ p ∈ left, p < many) ∧ left.length ≤ many ∧ found ++ grps js many n left = groupsF many js ∧ found.length + n ≤ many) PassesOwn.never (n0 := many) ⟨[], List.range many, rfl, by rw [List.length_range]; exact Nat.le_refl _, fun p h => List.mem_range.1 h, by rw [List.length_range]; exact Nat.le_refl _, rfl, by simp⟩ ?_
  rintro n t ⟨found, left, rfl, hl, hlt, hlm, hg, hfn⟩
  refine ⟨decide (left ≠ []), pt_neT left [] hr (pu_var 3 rfl) (nu_lst pas_nil).pu, fun hne => ?_, fun he => ?_⟩
  · have hne' : left ≠ [] := of_decide_eq_true hne
    match left, hne', hl, hlt, hlm, hg with
    | x :: l, _, hl, hlt, hlm, hg =>
      match n, hl, hg, hfn with
      | 0, hl, _, _ => simp at hl
      | n + 1, hl, hg, hfn =>
        let R := bfs js (many + 1) [x] 0
        have r0 : RowOk many [x] := ⟨by simp, fun p hp => by rw [List.mem_singleton.1 hp]; exact hlt x (.head _)⟩
        obtain ⟨rR, mR⟩ := bfs_ok hj (many + 1) (at_ := 0) r0
        refine ab_setO 4 (nu_lst (pas_cons (pu_ixL (k := 0) (pu_var 3 rfl) pu_int rfl) pas_nil)) ?_ hN
        refine ab_set 5 pu_int ?_ hN
        refine ab_while (fun k t => ∃ (row : List Nat) (at_ : Nat), t = [.sh (.int (many : Int)), .sh (jsD js), .ow (found.map En.e), .sh (.lst ((x :: l).map En.e)), .ow (row.map En.e), .sh (.int (at_ : Int)), .no, .no, .no] ∧ RowOk many row ∧ k + at_ = many ∧ bfs js (k + 1) row at_ = R) PassesOwn.never (n0 := many) ⟨[x], 0, rfl, r0, rfl, rfl⟩ ?_
        rintro k t ⟨row, at_, rfl, ro, hk, hb⟩
        have rl := nodup_bound ro
        refine ⟨decide (at_ < row.length), (Pt.own (i := 4) rfl (pt_lt (pu_var 5 rfl) (pu_lenL B.len (pu_var 4 rfl)))).is ?_, fun z => ?_, fun z => ?_⟩
        · rw [List.length_map]; exact decide_eq_decide.2 (by omega)
        · have hat : at_ < row.length := of_decide_eq_true z
          have hx : row.getD at_ 0 ∈ row := List.mem_of_getElem? (getD_some (d := 0) hat)
          let y := row.getD at_ 0
          let rw_ (i : Nat) : List Nat := (js.take i).foldl (stepR y) row
          have hmem : ∀ i, ∀ j ∈ js.take i, j.a < many ∧ j.c < many := fun i j h => hj j (List.mem_of_mem_take h)
          have rok : ∀ i, RowOk many (rw_ i) := fun i => fold_ok ro hx (hmem i)
          refine ab_for (ds := js.map En.e) (fun i => [.sh (.int (many : Int)), .sh (jsD js), .ow (found.map En.e), .sh (.lst ((x :: l).map En.e)), .ow ((rw_ i).map En.e), .sh (.int (at_ : Int)), .no, .no, .no]) PassesOwn.never (pi_lst (pu_var 1 rfl)) (Le.refl _) (fun i d hd => ?_) ?_
          · rw [List.getElem?_map] at hd
            obtain ⟨j, hk, rfl⟩ := Option.map_eq_some_iff.1 hd
            refine ⟨_, _, tg_name 6 hN, ?_⟩
            refine ab_set 7 (d := .lst ([j.a, j.c].map (En.e (α := Nat)))) (nu_lst (pas_cons (pu_ixT (k := 0) (pu_var 6 rfl) pu_int rfl) (pas_cons (pu_ixT (k := 2) (pu_var 6 rfl) pu_int rfl) pas_nil))).pu ?_ hN
            have e4 : rw_ (i + 1) = stepR y (rw_ i) j := by
              show (js.take (i + 1)).foldl _ _ = _
              rw [List.take_add_one, hk, List.foldl_append]; rfl
            have gat : (rw_ i)[at_]? = some y := by
              obtain ⟨t, e⟩ := fold_pre y (js.take i) row
              show ((js.take i).foldl (stepR y) row)[at_]? = _
              rw [e, List.getElem?_append_left hat, getD_some (d := 0) hat]
            refine ab_if (t := decide (y ∈ [j.a, j.c])) (Pt.own (i := 4) rfl (pt_inT y [j.a, j.c] hr (pu_ixL (k := at_) (pu_var 4 rfl) (pu_var 5 rfl) (by rw [List.getElem?_map, gat]; rfl)) (pu_var 7 rfl))) (fun z => ?_) (fun z => ?_)
            · refine ab_extend 4 rfl (Nu.ownI (i := 4) (ks := [j.a, j.c].filter fun p => decide (p ∉ rw_ i)) rfl (nu_filN [("_law_place", 8)] 8 [j.a, j.c] En.e (fun p => decide (p ∉ rw_ i)) En.e (pi_lst (pu_var 7 rfl)) (fun p hp s H C cl fp => pt_niT p (rw_ i) hr (pu_var 8 rfl) (pu_var 4 rfl)) (fun p hp hf s H C cl fp => pu_var 8 rfl) (hl := show 2 ≤ 1000 by decide) (hN := hN))) (ab_nil (ab_nil ?_)) ?_
              · have e3 : (rw_ i).map En.e ++ ([j.a, j.c].filter fun p => decide (p ∉ rw_ i)).map En.e = (rw_ (i + 1)).map (En.e (α := Nat)) := by
                  rw [e4]; unfold stepR; rw [if_pos (of_decide_eq_true z)]; exact (List.map_append (l₁ := rw_ i)).symm
                show Le [_, _, _, _, _, _, _, _, _] [_, _, _, _, Sl.ow ((rw_ i).map En.e ++ ([j.a, j.c].filter fun p => decide (p ∉ rw_ i)).map En.e), _, _, _, _]
                rw [e3]
                exact .eq (.eq (.eq (.eq (.eq (.eq (.no (.no (.eq .nil))))))))
              · rw [List.length_map, List.length_map]
                have h1 := nodup_bound (rok i)
                have h2 := List.length_filter_le (fun p => decide (p ∉ rw_ i)) [j.a, j.c]
                simp only [List.length_cons, List.length_nil] at h2
                omega
            · refine ab_nil (ab_nil ?_)
              have e3 : rw_ i = rw_ (i + 1) := by rw [e4]; unfold stepR; rw [if_neg (of_decide_eq_false z)]
              show Le [_, _, _, _, _, _, _, _, _] [_, _, _, _, Sl.ow ((rw_ i).map En.e), _, _, _, _]
              rw [e3]
              exact .eq (.eq (.eq (.eq (.eq (.eq (.no (.no (.eq .nil))))))))
          · have e5 : rw_ (js.map (En.e (α := Jn))).length = rowN js y row := by
              rw [List.length_map]; show (js.take js.length).foldl _ _ = _; rw [List.take_length]; rfl
            rw [e5]
            refine ab_set 5 ((pu_add (pu_var 5 rfl) pu_int).is (d' := .int ((at_ + 1 : Nat) : Int)) (congrArg D.int (by omega))) (ab_nil ?_) hN
            refine ⟨k - 1, _, by omega, ⟨rowN js y row, at_ + 1, rfl, fold_ok ro hx hj, by omega, ?_⟩, Le.refl _⟩
            rw [← hb]
            show bfs js (k - 1 + 1) _ _ = (if at_ < row.length then bfs js k _ _ else row)
            rw [if_pos hat, show k - 1 + 1 = k by omega]
        · have hat : ¬ at_ < row.length := of_decide_eq_false z
          have eR : row = R := by
            rw [← hb]
            show row = (if at_ < row.length then _ else row)
            rw [if_neg hat]
          subst eR
          refine ab_append 2 rfl (Nu.ownI (i := 4) (ks := sset R) rfl (nu_sortedSet (ns := R) B.sorted B.set (pu_var 4 rfl) (by omega))).pu ?_ ?_
          · refine ab_setC 3 (lc_filN [("_law_place", 8)] 8 (x :: l) En.e (fun p => decide (p ∉ R)) En.e (pi_lst (pu_var 3 rfl)) (fun p hp s H C cl fp => Pt.own (i := 4) rfl (pt_niT p R hr (pu_var 8 rfl) (pu_var 4 rfl))) (fun p hp hf s H C cl fp => pu_var 8 rfl) (hl := by omega)) ?_
            refine ab_share 3 rfl (ab_nil ?_)
            have e3 : found.map En.e ++ [D.lst ((sset R).map En.e)] = (found ++ [sset R]).map (En.e (α := List Nat)) := (List.map_append (l₁ := found) (l₂ := [sset R])).symm
            refine ⟨n, _, Nat.lt_succ_self _, ⟨found ++ [sset R], (x :: l).filter fun p => decide (p ∉ R), rfl, ?_, fun p hp => hlt p (List.mem_filter.1 hp).1, ?_, ?_, ?_⟩, ?_⟩
            · have hx : x ∈ R := mR x (.head _)
              have h1 : ((x :: l).filter fun p => decide (p ∉ R)) = l.filter fun p => decide (p ∉ R) := by rw [List.filter_cons, if_neg (by simp [hx])]
              rw [h1]
              have := List.length_filter_le (fun p => decide (p ∉ R)) l
              rw [List.length_cons] at hl
              omega
            · exact Nat.le_trans (List.length_filter_le ..) hlm
            · rw [← hg, List.append_assoc]; rfl
            · rw [List.length_append, List.length_singleton]; omega
            · show Le [_, _, _, _, _, _, _, _, _] [_, _, Sl.ow (found.map En.e ++ [D.lst ((sset R).map En.e)]), _, _, _, _, _, _]
              rw [e3]
              exact .eq (.eq (.eq (.eq (.no (.no (.no (.no (.eq .nil))))))))
          · rw [List.length_map]; omega
  · have he' : left = [] := by
      have := of_decide_eq_false he
      simpa using this
    subst he'
    have e : found = groupsF many js := by
      rw [← hg]
      cases n <;> simp [grps]
    rw [e]
    exact ab_share 2 rfl (ab_ret (pu_var 2 rfl) rfl)
end
end R87
namespace R87
open PySem PySem.Spec PyProof.Rows L2
open PySem.W (Tup T4 T3 DatumOrd Datum)
def nGrp (many : Nat) (js : List Jn) : Nat := (groupsF many js).length
def lcutsF (n m : Nat) (js : List Jn) : List Jn := (innF n js).filter fun j => decide (nGrp (n + m) js < nGrp (n + m) (lessF js j))
def lpiecesF (n m : Nat) (js : List Jn) : List (List Nat) := groupsF n ((innF n js).filter fun j => decide (j ∉ lcutsF n m js))
theorem groups_len (many : Nat) (js : List Jn) : (groupsF many js).length ≤ many := grps_len js many many _
section
variable {P : Program} {w : World} {K : PySem.W.Frag} {mg : Str → Option Value} {base : Heap}
def r_linner (ds : List D) (d : D) : Prop := ∃ (cs : List Str) (ls : Lgs) (js : List Jn), ds = [dnD cs ls js] ∧ js.length ≤ 18 ∧ d = jsD (innF cs.length js)
theorem ok_law_inner (B : Bf mg) {f : Addr} {fd : FuncData} (F : Fun K "_law_inner" "_law_inner" s_law_inner f fd) : FnOk P w K mg base CX0 1 f fd ["_law_drawn"] (spP r_linner) := by
  refine fun_pu F (N := ["_law_drawn", "_law_join"]) (C8.fnScope_by (by decide +kernel)) (fun ds d ⟨_, _, _, e, _⟩ => by rw [e]; rfl) fun cdv A outer s H E ds d hr ⟨cs, ls, js, e, hl, ed⟩ => ?_
  subst e ed
  have hN : (["_law_drawn", "_law_join"] : List Str).Nodup := by decide
  exact ab_ret (nu_filN [("_law_join", 1)] 1 js En.e (fun j => decide (j.c < cs.length)) En.e (pi_lst (pu_ixT (k := 2) (d := jsD js) (pu_var 0 rfl) pu_int rfl)) (fun j h s H C cl fp => (pt_lt (pu_ixT (k := 2) (pu_var 1 rfl) pu_int rfl) (pu_lenL B.len (pu_ixT (k := 0) (d := csD cs) (pu_var 0 rfl) pu_int rfl))).is (by rw [List.length_map]; simp)) (fun j h hf s H C cl fp => pu_var 1 rfl) (hl := by omega) (hN := hN)).pu rfl
theorem ok_law_less {f : Addr} {fd : FuncData} (F : Fun K "_law_less" "_law_less" s_law_less f fd) : FnOk P w K mg base CX0 1 f fd ["_law_joins", "_law_join"] (spP r_less) := by
  refine fun_pu F (N := ["_law_joins", "_law_join", "_law_at"]) (C8.fnScope_by (by decide +kernel)) (fun ds d ⟨_, _, e, _⟩ => by rw [e]; rfl) fun cdv A outer s H E ds d hr ⟨js, j, e, hl, hj, ed⟩ => ?_
  subst e ed
  have hN : (["_law_joins", "_law_join", "_law_at"] : List Str).Nodup := by decide
  refine ab_set 2 (pu_index (x := j) (xs := js) hr (pu_var 0 rfl) (pu_var 1 rfl) hj) ?_ hN
  refine ab_ret (nu_cat (nu_slice (pu_var 0 rfl) po_n (po_s (pu_var 2 rfl))).pu (nu_slice (pu_var 0 rfl) (po_s ((pu_add (pu_var 2 rfl) pu_int).is (d' := .int ((js.idxOf j + 1 : Nat) : Int)) (congrArg D.int (by omega)))) po_n).pu ?_).pu ?_
  · rw [cut_take, cut_drop, List.length_take, List.length_drop, List.length_map]; omega
  · rw [cut_take, cut_drop, ← List.eraseIdx_eq_take_drop_succ, eraseIdx_map]; rfl
def r_lcuts (ds : List D) (d : D) : Prop := ∃ (cs : List Str) (ls : Lgs) (js : List Jn), ds = [dnD cs ls js] ∧ VP cs.length ls.length js ∧ d = jsD (lcutsF cs.length ls.length js)
theorem ok_law_cuts (B : Bf mg) (c1 : CalP P w K mg base 1 "_law_groups" r_groups) (c2 : CalP P w K mg base 1 "_law_inner" r_linner) (c3 : CalP P w K mg base 1 "_law_less" r_less) {f : Addr} {fd : FuncData} (F : Fun K "_law_cuts" "_law_cuts" s_law_cuts f fd) : FnOk P w K mg base CX0 2 f fd ["_law_drawn"] (spP r_lcuts) := by
  refine fun_pu F (N := ["_law_drawn", "_law_many", "_law_whole", "_law_join"]) (C8.fnScope_by (by decide +kernel)) (fun ds d ⟨_, _, _, e, _⟩ => by rw [e]; rfl) fun cdv A outer s H E ds d hr ⟨cs, ls, js, e, vp, ed⟩ => ?_
  subst e ed
  have hN : (["_law_drawn", "_law_many", "_law_whole", "_law_join"] : List Str).Nodup := by decide
  have n6 := vp.n6
  have m6 := vp.m6
  have jl := vp.l
  have il : (innF cs.length js).length ≤ js.length := List.length_filter_le ..
  refine ab_set 1 (d := .int ((cs.length + ls.length : Nat) : Int)) ((pu_add (pu_lenL B.len (pu_ixT (k := 0) (d := csD cs) (pu_var 0 rfl) pu_int rfl)) (pu_lenL B.len (pu_ixT (k := 1) (d := lgD ls) (pu_var 0 rfl) pu_int rfl))).is (congrArg D.int len2)) ?_ hN
  refine ab_set 2 (d := .int (nGrp (cs.length + ls.length) js : Nat)) ((pu_lenL B.len (pu_call c1 hr ⟨cs.length + ls.length, js, rfl, by omega, fun j h => ⟨vp.a j h, vp.c j h⟩, rfl⟩ (pas_cons (pu_var 1 rfl) (pas_cons (pu_ixT (k := 2) (pu_var 0 rfl) pu_int rfl) pas_nil)))).is (by rw [List.length_map]; rfl)) ?_ hN
  refine ab_ret (nu_filN [("_law_join", 3)] 3 (innF cs.length js) En.e (fun j => decide (nGrp (cs.length + ls.length) js < nGrp (cs.length + ls.length) (lessF js j))) En.e (pi_lst (pu_call c2 hr ⟨cs, ls, js, rfl, jl, rfl⟩ (pas_cons (pu_var 0 rfl) pas_nil))) (fun j h s H C cl fp => (pt_gt (pu_lenL B.len (pu_call c1 hr ⟨cs.length + ls.length, lessF js j, rfl, by omega, fun x hx => ⟨vp.a x (lessF_mem hx), vp.c x (lessF_mem hx)⟩, rfl⟩ (pas_cons (pu_var 1 rfl) (pas_cons (pu_call c3 hr ⟨js, j, rfl, by omega, (List.mem_filter.1 h).1, rfl⟩ (pas_cons (pu_ixT (k := 2) (pu_var 0 rfl) pu_int rfl) (pas_cons (pu_var 3 rfl) pas_nil))) pas_nil)))) (pu_var 2 rfl)).is (by rw [List.length_map]; exact decide_eq_decide.2 (by unfold nGrp; omega))) (fun j h hf s H C cl fp => pu_var 3 rfl) (hl := by omega) (hN := hN)).pu rfl
def r_lpieces (ds : List D) (d : D) : Prop := ∃ (cs : List Str) (ls : Lgs) (js : List Jn), ds = [dnD cs ls js] ∧ VP cs.length ls.length js ∧ d = .lst ((lpiecesF cs.length ls.length js).map En.e)
theorem ok_law_pieces (B : Bf mg) (c1 : CalP P w K mg base 1 "_law_groups" r_groups) (c2 : CalP P w K mg base 1 "_law_inner" r_linner) (c3 : CalP P w K mg base 2 "_law_cuts" r_lcuts) {f : Addr} {fd : FuncData} (F : Fun K "_law_pieces" "_law_pieces" s_law_pieces f fd) : FnOk P w K mg base CX0 3 f fd ["_law_drawn"] (spP r_lpieces) := by
  refine fun_pu F (N := ["_law_drawn", "_law_gone", "_law_join"]) (C8.fnScope_by (by decide +kernel)) (fun ds d ⟨_, _, _, e, _⟩ => by rw [e]; rfl) fun cdv A outer s H E ds d hr ⟨cs, ls, js, e, vp, ed⟩ => ?_
  subst e ed
  have hN : (["_law_drawn", "_law_gone", "_law_join"] : List Str).Nodup := by decide
  have n6 := vp.n6
  have jl := vp.l
  have il : (innF cs.length js).length ≤ js.length := List.length_filter_le ..
  let ks := (innF cs.length js).filter fun j => decide (j ∉ lcutsF cs.length ls.length js)
  have hks : ∀ j ∈ ks, j.a < cs.length ∧ j.c < cs.length := fun j h => by
    have h1 := List.mem_filter.1 (List.mem_filter.1 h).1
    have h2 : j.c < cs.length := of_decide_eq_true h1.2
    exact ⟨Nat.lt_of_le_of_lt (vp.ac j h1.1) h2, h2⟩
  refine ab_set 1 (pu_call c3 hr ⟨cs, ls, js, rfl, vp, rfl⟩ (pas_cons (pu_var 0 rfl) pas_nil)) ?_ hN
  exact ab_ret (pu_call c1 hr ⟨cs.length, ks, rfl, by omega, hks, rfl⟩ (pas_cons ((pu_lenL B.len (pu_ixT (k := 0) (d := csD cs) (pu_var 0 rfl) pu_int rfl)).is (by rw [List.length_map])) (pas_cons (nu_filN [("_law_join", 2)] 2 (innF cs.length js) En.e (fun j => decide (j ∉ lcutsF cs.length ls.length js)) En.e (pi_lst (pu_call c2 hr ⟨cs, ls, js, rfl, jl, rfl⟩ (pas_cons (pu_var 0 rfl) pas_nil))) (fun j h s H C cl fp => (pt_niT j (lcutsF cs.length ls.length js) hr (pu_var 2 rfl) (pu_var 1 rfl)).is (decide_eq_decide.2 Iff.rfl)) (fun j h hf s H C cl fp => pu_var 2 rfl) (hl := by omega) (hN := hN)).pu pas_nil))) rfl
def r_lof (CD CS : Addr) (ds : List D) (d : D) : Prop := ∃ (so : Srts) (kd : Knds) (cs : List Str) (ls : Lgs) (js : List Jn), ds = [drD CD CS so kd cs ls js] ∧ d = dnD cs ls js
theorem ok_law_of {CD CS : Addr} (S : DrF K CD) {f : Addr} {fd : FuncData} (F : Fun K "_law_of" "_law_of" s_law_of f fd) : FnOk P w K mg base CX0 1 f fd ["_law_drawing_here"] (spP (r_lof CD CS)) := by
  refine fun_pu F (N := ["_law_drawing_here"]) (C8.fnScope_by (by decide +kernel)) (fun ds d ⟨_, _, _, _, _, e, _⟩ => by rw [e]; rfl) fun cdv A outer s H E ds d hr ⟨so, kd, cs, ls, js, e, ed⟩ => ?_
  subst e ed
  exact ab_ret (pu_tup (pas_cons (pu_fld S.cl S.corners (pu_var 0 rfl) rfl) (pas_cons (pu_fld S.cl S.legs (pu_var 0 rfl) rfl) (pas_cons (pu_fld S.cl S.joins (pu_var 0 rfl) rfl) pas_nil)))) rfl
def r_lmade (CD CS : Addr) (ds : List D) (d : D) : Prop := ∃ (so : Srts) (kd : Knds) (cs : List Str) (ls : Lgs) (js : List Jn), ds = [stD CS so kd, dnD cs ls js] ∧ VD so kd cs ls js ∧ d = drD CD CS so kd cs ls js
theorem ok_law_made (B : Bf mg) {CD CS : Addr} (M : MkD P w K mg base CS CD) {f : Addr} {fd : FuncData} (F : Fun K "_law_made" "_law_made" s_law_made f fd) : FnOk P w K mg base CX0 7 f fd ["_law_stock_here", "_law_drawn"] (spP (r_lmade CD CS)) := by
  refine fun_pu F (N := ["_law_stock_here", "_law_drawn"]) (C8.fnScope_by (by decide +kernel)) (fun ds d ⟨_, _, _, _, _, e, _⟩ => by rw [e]; rfl) fun cdv A outer s H E ds d hr ⟨so, kd, cs, ls, js, e, V, ed⟩ => ?_
  subst e ed
  exact ab_ret (pu_drawing M hr V (pu_var 0 rfl) (nu_listL B.list (pu_ixT (k := 0) (d := csD cs) (pu_var 1 rfl) pu_int rfl)).pu (nu_listL B.list (pu_ixT (k := 1) (d := lgD ls) (pu_var 1 rfl) pu_int rfl)).pu (nu_listL B.list (pu_ixT (k := 2) (d := jsD js) (pu_var 1 rfl) pu_int rfl)).pu) rfl
def endAtF (n : Nat) (ls : Lgs) (js : List Jn) (name : Str) : Option PE2 := (namedF n ls js).findSome? fun p => if p.1.1 = .nm name then some p.2 else if p.2.1 = .nm name then some p.1 else none
def r_lend (ds : List D) (d : D) : Prop := ∃ (cs : List Str) (ls : Lgs) (js : List Jn) (name : Str), ds = [dnD cs ls js, .str name] ∧ cs.length ≤ 6 ∧ ls.length ≤ 6 ∧ (∀ j ∈ js, j.a < cs.length + ls.length ∧ j.c < cs.length + ls.length) ∧ d = optD (endAtF cs.length ls js name)
theorem ok_law_end_at (B : Bf mg) {f : Addr} {fd : FuncData} (F : Fun K "_law_end_at" "_law_end_at" s_law_end_at f fd) : FnOk P w K mg base CX0 1 f fd ["_law_drawn", "_law_name"] (spP r_lend) := by
  have hN : (["_law_drawn", "_law_name", "_law_corners", "_law_legs", "_law_joins", "_law_names_here", "_law_place", "_law_sort", "_law_far", "_law_partner", "_law_leg"] : List Str).Nodup := by decide
  refine fun_pu F (N := ["_law_drawn", "_law_name", "_law_corners", "_law_legs", "_law_joins", "_law_names_here", "_law_place", "_law_sort", "_law_far", "_law_partner", "_law_leg"]) (C8.fnScope_by (by decide +kernel)) (fun ds d ⟨_, _, _, _, e, _⟩ => by rw [e]; rfl) fun cdv A outer s H E ds d hr ⟨cs, ls, js, name, e, n6, m6, hj, ed⟩ => ?_
  subst e ed
  let nm : List Pl := (List.range cs.length).map Pl.num ++ ls.map fun q => Pl.nm q.1
  refine ab_unpack (pu_var 0 rfl) (tg_tup (tgs_cons (tg_name 2 hN) (tgs_cons (tg_name 3 hN) (tgs_cons (tg_name 4 hN) tgs_nil)))) ?_
  refine ab_set 5 (d := .lst (nm.map En.e)) ((nu_cat (nu_listRange1 (k := cs.length) B.range B.list ((pu_lenL B.len (pu_var 2 rfl)).is (by rw [List.length_map])) (by omega)).pu (nu_mapN [("_law_leg", 10)] 10 ls En.e (fun q => .str q.1) (pi_lst (pu_var 3 rfl)) (fun q hq s H C cl fp => pu_ixT (k := 0) (ds := [.str q.1, .str q.2]) (pu_var 10 rfl) pu_int rfl) (hl := by omega) (hN := hN)).pu ?_).pu.is ?_) ?_ hN
  · rw [List.length_map, List.length_map, List.length_range]; omega
  · rw [range_num, legs_nm, ← List.map_append]
  let S0 : List Sl := [.sh (dnD cs ls js), .sh (.str name), .sh (csD cs), .sh (lgD ls), .sh (jsD js), .sh (.lst (nm.map En.e)), .no, .no, .no, .no, .no]
  let hit : Jn → Option PE2 := fun j => if spotF cs.length ls j.a = .nm name then some (spotF cs.length ls j.c, j.d) else if spotF cs.length ls j.c = .nm name then some (spotF cs.length ls j.a, j.b) else none
  have eF : ∀ l : List Jn, endAtF cs.length ls l name = l.findSome? hit := fun l => by
    unfold endAtF namedF
    rw [List.findSome?_map]
    rfl
  refine abe_for (Rn := fun ds t => ds = js.map En.e ∧ t = S0) (fun ds i t => ds = js.map En.e ∧ t = S0 ∧ (js.take i).findSome? hit = none) PassesOwn.never (ei_pi (pi_lst (pu_var 4 rfl)) ⟨rfl, rfl⟩) (fun ds t ⟨h1, h2⟩ => ⟨h1, h2, rfl⟩) (fun ds i d t ⟨h1, h2, h3⟩ hd => ?_) (fun ds t ⟨h1, h2, h3⟩ => ?_)
  · subst h1 h2
    rw [List.getElem?_map] at hd
    obtain ⟨j, hk, rfl⟩ := Option.map_eq_some_iff.1 hd
    obtain ⟨b1, b2⟩ := hj j (List.mem_of_getElem? hk)
    have hjs : js = js.take i ++ j :: js.drop (i + 1) := by
      obtain ⟨hi, e⟩ := List.getElem?_eq_some_iff.1 hk
      rw [← e, List.getElem_cons_drop, List.take_append_drop]
    have hret : ∀ x, hit j = some x → endAtF cs.length ls js name = some x := fun x h => by
      rw [eF, hjs, List.findSome?_append, h3, List.findSome?_cons, h]; rfl
    have hnx : hit j = none → (js.take (i + 1)).findSome? hit = none := fun h => by
      rw [List.take_add_one, hk, List.findSome?_append, h3]
      show (List.findSome? hit [j]) = none
      rw [List.findSome?_cons, h]; rfl
    refine ⟨_, _, tg_tup (tgs_cons (tg_name 6 hN) (tgs_cons (tg_name 7 hN) (tgs_cons (tg_name 8 hN) (tgs_cons (tg_name 9 hN) tgs_nil)))), ?_⟩
    refine ab_if (t := decide (spotF cs.length ls j.a = .nm name)) (pt_eqT (spotF cs.length ls j.a) (.nm name) hr (pu_ixL (k := j.a) (pu_var 5 rfl) (pu_var 6 rfl) (by rw [List.getElem?_map, spot_at b1]; rfl)) (pu_var 1 rfl)) (fun z => ?_) (fun z => ?_)
    · refine ab_ret (pu_tup (pas_cons (pu_ixL (k := j.c) (pu_var 5 rfl) (pu_var 8 rfl) (by rw [List.getElem?_map, spot_at b2]; rfl)) (pas_cons (pu_var 9 rfl) pas_nil))) ?_
      show _ = optD (endAtF cs.length ls js name)
      rw [hret _ (if_pos (of_decide_eq_true z))]; rfl
    refine ab_nil ?_
    refine ab_if (t := decide (spotF cs.length ls j.c = .nm name)) (pt_eqT (spotF cs.length ls j.c) (.nm name) hr (pu_ixL (k := j.c) (pu_var 5 rfl) (pu_var 8 rfl) (by rw [List.getElem?_map, spot_at b2]; rfl)) (pu_var 1 rfl)) (fun y => ?_) (fun y => ?_)
    · refine ab_ret (pu_tup (pas_cons (pu_ixL (k := j.a) (pu_var 5 rfl) (pu_var 6 rfl) (by rw [List.getElem?_map, spot_at b1]; rfl)) (pas_cons (pu_var 7 rfl) pas_nil))) ?_
      show _ = optD (endAtF cs.length ls js name)
      rw [hret _ ((if_neg (of_decide_eq_false z)).trans (if_pos (of_decide_eq_true y)))]; rfl
    refine ab_nil (ab_nil ⟨S0, ⟨rfl, rfl, hnx ((if_neg (of_decide_eq_false z)).trans (if_neg (of_decide_eq_false y)))⟩, .eq (.eq (.eq (.eq (.eq (.eq (.no (.no (.no (.no (.no .nil))))))))))⟩)
  · subst h1 h2
    rw [List.length_map, List.take_length] at h3
    refine ab_ret pu_non ?_
    show _ = optD (endAtF cs.length ls js name)
    rw [eF, h3]; rfl
end
end R87
namespace R87
open PySem PySem.Spec PyProof.Rows L2
open PySem.W (Tup T4 T3 DatumOrd Datum)
theorem take_filt {α β : Type} {xs : List α} {i : Nat} {x : α} (f : α → Bool) (g : α → β) (h : xs[i]? = some x) : ((xs.take (i + 1)).filter f).map g = ((xs.take i).filter f).map g ++ (if f x = true then [g x] else []) := by
  rw [List.take_add_one, h, List.filter_append, List.map_append]
  show _ ++ (List.filter f [x]).map g = _
  by_cases z : f x = true
  · rw [List.filter_cons_of_pos z, if_pos z]; rfl
  · rw [List.filter_cons_of_neg z, if_neg z]; rfl
section
variable {P : Program} {w : World} {K : PySem.W.Frag} {mg : Str → Option Value} {base : Heap}
def lprtD (cs : List Str) (ls : Lgs) (js : List Jn) (r : List Nat) : D := dnD (prtC cs r) (prtL cs ls r) (prtJ js r)
def r_lparts (ds : List D) (d : D) : Prop := ∃ (cs : List Str) (ls : Lgs) (js : List Jn), ds = [dnD cs ls js] ∧ VP cs.length ls.length js ∧ (∀ r ∈ groupsF (cs.length + ls.length) js, r.length ≤ 12 ∧ (∀ p ∈ r, p < cs.length + ls.length) ∧ ∀ j ∈ js, j.a ∈ r → j.c ∈ r) ∧
  d = .lst ((groupsF (cs.length + ls.length) js).map (lprtD cs ls js))
theorem ok_law_parts (B : Bf mg) (c1 : CalP P w K mg base 1 "_law_groups" r_groups) {f : Addr} {fd : FuncData} (F : Fun K "_law_parts" "_law_parts" s_law_parts f fd) : FnOk P w K mg base CX0 2 f fd ["_law_drawn"] (spP r_lparts) := by
  have hN : (["_law_drawn", "_law_corners", "_law_legs", "_law_joins", "_law_found", "_law_row", "_law_place", "_law_mine", "_law_its", "_law_links", "_law_sort", "_law_far", "_law_partner", "_law_pair"] : List Str).Nodup := by decide
  refine fun_pu F (N := ["_law_drawn", "_law_corners", "_law_legs", "_law_joins", "_law_found", "_law_row", "_law_place", "_law_mine", "_law_its", "_law_links", "_law_sort", "_law_far", "_law_partner", "_law_pair"]) (C8.fnScope_by (by decide +kernel)) (fun ds d ⟨_, _, _, e, _⟩ => by rw [e]; rfl) fun cdv A outer s H E ds d hr ⟨cs, ls, js, e, vp, hg, ed⟩ => ?_
  subst e ed
  have n6 := vp.n6
  have m6 := vp.m6
  have jl := vp.l
  let gs := groupsF (cs.length + ls.length) js
  have gl : gs.length ≤ 12 := Nat.le_trans (groups_len _ _) (by omega)
  refine ab_unpack (pu_var 0 rfl) (tg_tup (tgs_cons (tg_name 1 hN) (tgs_cons (tg_name 2 hN) (tgs_cons (tg_name 3 hN) tgs_nil)))) ?_
  refine ab_setO 4 (nu_lst pas_nil) ?_ hN
  refine ab_for (ds := gs.map En.e) (fun i => [.sh (dnD cs ls js), .sh (csD cs), .sh (lgD ls), .sh (jsD js), .ow ((gs.take i).map (lprtD cs ls js)), .no, .no, .no, .no, .no, .no, .no, .no, .no]) PassesOwn.never
    (pi_lst ((pu_call c1 hr ⟨cs.length + ls.length, js, rfl, by omega, fun j h => ⟨vp.a j h, vp.c j h⟩, rfl⟩ (pas_cons ((pu_add (pu_lenL B.len (pu_var 1 rfl)) (pu_lenL B.len (pu_var 2 rfl))).is (congrArg D.int len2)) (pas_cons (pu_var 3 rfl) pas_nil))))) (Le.refl _) (fun i d hd => ?_) ?_
  · rw [List.getElem?_map] at hd
    obtain ⟨r, hk, rfl⟩ := Option.map_eq_some_iff.1 hd
    obtain ⟨r12, rb, rc⟩ := hg r (List.mem_of_getElem? hk)
    refine ⟨_, _, tg_name 5 hN, ?_⟩
    refine ab_setC 7 (lc_filN [("_law_place", 6)] 6 r En.e (fun p => decide (p < cs.length)) En.e (pi_lst (pu_var 5 rfl)) (fun p h s H C cl fp => (pt_lt (pu_var 6 rfl) (pu_lenL B.len (pu_var 1 rfl))).is (by rw [List.length_map]; simp)) (fun p h hf s H C cl fp => pu_var 6 rfl) (hl := by omega)) ?_
    refine ab_setC 8 (lc_filN [("_law_place", 6)] 6 r En.e (fun p => decide (cs.length ≤ p)) (fun p => En.e (ls.getD (p - cs.length) ((⟨#[]⟩ : Str), (⟨#[]⟩ : Str)))) (pi_lst (pu_var 5 rfl)) (fun p h s H C cl fp => (pt_ge (pu_var 6 rfl) (pu_lenL B.len (pu_var 1 rfl))).is (by rw [List.length_map]; simp)) (fun p h hf s H C cl fp => ?_) (hl := by omega)) ?_
    · have h1 := rb p h
      have h2 : cs.length ≤ p := of_decide_eq_true hf
      exact pu_ixL (k := p - cs.length) (pu_var 2 rfl) ((pu_sub (pu_var 6 rfl) (pu_lenL B.len (pu_var 1 rfl))).is (congrArg D.int (by rw [List.length_map]; omega))) (by rw [List.getElem?_map, getD_some (d := ((⟨#[]⟩ : Str), (⟨#[]⟩ : Str))) (by omega)]; rfl)
    refine ab_setO 9 (nu_lst pas_nil) ?_ hN
    let g (j : Jn) : Jn := joinedF (r.idxOf j.a, j.b) (r.idxOf j.c, j.d)
    let fl (j : Jn) : Bool := decide (j.a ∈ r)
    refine ab_share 7 rfl (ab_share 8 rfl ?_)
    refine ab_for (ds := js.map En.e) (fun k => [.sh (dnD cs ls js), .sh (csD cs), .sh (lgD ls), .sh (jsD js), .ow ((gs.take i).map (lprtD cs ls js)), .sh (.lst (r.map En.e)), .no, .sh (.lst ((r.filter fun p => decide (p < cs.length)).map En.e)), .sh (lgD (prtL cs ls r)), .ow ((((js.take k).filter fl).map g).map En.e), .no, .no, .no, .no]) PassesOwn.never (pi_lst (pu_var 3 rfl)) ?_ (fun k d hd => ?_) ?_
    · have e8 : lgD (prtL cs ls r) = .lst ((r.filter fun p => decide (cs.length ≤ p)).map fun p => En.e (ls.getD (p - cs.length) ((⟨#[]⟩ : Str), (⟨#[]⟩ : Str)))) := by unfold lgD prtL; rw [List.map_map]; rfl
      rw [e8]
      exact .eq (.eq (.eq (.eq (.eq (.eq (.no (.eq (.eq (.eq (.no (.no (.no (.no .nil)))))))))))))
    · rw [List.getElem?_map] at hd
      obtain ⟨j, hk2, rfl⟩ := Option.map_eq_some_iff.1 hd
      have jm := List.mem_of_getElem? hk2
      have al : (((js.take k).filter fl).map g).length ≤ 18 := by
        rw [List.length_map]
        exact Nat.le_trans (List.length_filter_le ..) (by rw [List.length_take]; omega)
      refine ⟨_, _, tg_tup (tgs_cons (tg_name 6 hN) (tgs_cons (tg_name 10 hN) (tgs_cons (tg_name 11 hN) (tgs_cons (tg_name 12 hN) tgs_nil)))), ?_⟩
      refine ab_if (t := decide (j.a ∈ r)) (pt_inT j.a r hr (pu_var 6 rfl) (pu_var 5 rfl)) (fun z => ?_) (fun z => ?_)
      · have za : j.a ∈ r := of_decide_eq_true z
        refine ab_set 13 (nu_lst (pas_cons ((pu_tup (pas_cons (pu_index (x := j.a) (xs := r) hr (pu_var 5 rfl) (pu_var 6 rfl) za) (pas_cons (pu_var 10 rfl) pas_nil))).is (d' := En.e ((r.idxOf j.a, j.b) : En2)) rfl) (pas_cons ((pu_tup (pas_cons (pu_index (x := j.c) (xs := r) hr (pu_var 5 rfl) (pu_var 11 rfl) (rc j jm za)) (pas_cons (pu_var 12 rfl) pas_nil))).is (d' := En.e ((r.idxOf j.c, j.d) : En2)) rfl) pas_nil)) (show 2 ≤ 1000 by decide)).pu ?_ hN
        refine ab_append 9 rfl (pu_jl (x := (r.idxOf j.a, j.b)) (y := (r.idxOf j.c, j.d)) hr B (pu_var 13 rfl) (pu_var 13 rfl)) (ab_nil (ab_nil ?_)) ?_
        · have e3 : (((js.take k).filter fl).map g).map En.e ++ [En.e (g j)] = (((js.take (k + 1)).filter fl).map g).map En.e := by rw [take_filt fl g hk2, if_pos z]; exact (List.map_append (l₁ := ((js.take k).filter fl).map g) (l₂ := [g j])).symm
          show Le [_, _, _, _, _, _, _, _, _, _, _, _, _, _] [_, _, _, _, _, _, _, _, _, Sl.ow ((((js.take k).filter fl).map g).map En.e ++ [En.e (g j)]), _, _, _, _]
          rw [e3]
          exact .eq (.eq (.eq (.eq (.eq (.eq (.no (.eq (.eq (.eq (.no (.no (.no (.no .nil)))))))))))))
        · rw [List.length_map]; omega
      · refine ab_nil (ab_nil ?_)
        have e3 : ((js.take (k + 1)).filter fl).map g = ((js.take k).filter fl).map g := by rw [take_filt fl g hk2, if_neg (by show ¬ (decide _ = true); rw [z]; decide), List.append_nil]
        rw [e3]
        exact .eq (.eq (.eq (.eq (.eq (.eq (.no (.eq (.eq (.eq (.no (.no (.no (.no .nil)))))))))))))
    rw [List.length_map, List.take_length]
    refine ab_share 9 rfl ?_
    refine ab_append 4 rfl ((pu_tup (pas_cons (nu_mapN [("_law_place", 6)] 6 (r.filter fun p => decide (p < cs.length)) En.e (fun p => En.e (cs.getD p (⟨#[]⟩ : Str))) (pi_lst (pu_var 7 rfl)) (fun p h s H C cl fp => pu_ixL (k := p) (pu_var 1 rfl) (pu_var 6 rfl) (by rw [List.getElem?_map, getD_some (d := (⟨#[]⟩ : Str)) (of_decide_eq_true (List.mem_filter.1 h).2)]; rfl)) (hl := Nat.le_trans (List.length_filter_le ..) (by omega)) (hN := hN)).pu (pas_cons (pu_var 8 rfl) (pas_cons (nu_sorted (xs := (js.filter fl).map g) hr B.sorted (pu_var 9 rfl)).pu pas_nil)))).is (d' := lprtD cs ls js r) ?_) (ab_nil ?_) ?_
    · show D.tup [D.lst _, _, _] = D.tup [D.lst _, _, _]
      unfold prtC
      rw [List.map_map]; rfl
    · have e3 : (gs.take i).map (lprtD cs ls js) ++ [lprtD cs ls js r] = (gs.take (i + 1)).map (lprtD cs ls js) := (take_mapS (lprtD cs ls js) hk).symm
      show Le [_, _, _, _, _, _, _, _, _, _, _, _, _, _] [_, _, _, _, Sl.ow ((gs.take i).map (lprtD cs ls js) ++ [lprtD cs ls js r]), _, _, _, _, _, _, _, _, _]
      rw [e3]
      exact .eq (.eq (.eq (.eq (.eq (.no (.no (.no (.no (.no (.no (.no (.no (.no .nil)))))))))))))
    · rw [List.length_map, List.length_take]; omega
  rw [List.length_map, List.take_length]
  exact ab_share 4 rfl (ab_ret (pu_var 4 rfl) rfl)
end
end R87
namespace R87
open PySem PySem.Spec PyProof.Rows L2
open PySem.W (Tup T4 T3 DatumOrd Datum)
section
variable {P : Program} {w : World} {K : PySem.W.Frag} {mg : Str → Option Value} {base : Heap}
def lcutP (n : Nat) (ls L : Lgs) : List Nat := List.range n ++ ls.map fun l => n + ixOf L l
def lcutX (n : Nat) (L : Lgs) (j : Jn) (a b : Str) : List Jn := [⟨j.a, j.b, n + ixOf L (a, j.d), j.d⟩, ⟨j.c, j.d, n + ixOf L (b, j.b), j.b⟩]
def lcutJ (n : Nat) (ls : Lgs) (js : List Jn) (j : Jn) (a b : Str) : List Jn :=
  sortT (((lessF js j).map fun x => joinedF ((lcutP n ls (cutL ls j a b)).getD x.a 0, x.b) ((lcutP n ls (cutL ls j a b)).getD x.c 0, x.d)) ++ lcutX n (cutL ls j a b) j a b)
def r_lcut (ds : List D) (d : D) : Prop := ∃ (so : Srts) (cs : List Str) (ls : Lgs) (js : List Jn) (j : Jn) (a b : Str), ds = [sosD so, dnD cs ls js, En.e j, En.e (a, b)] ∧ cs.length ≤ 6 ∧ ls.length ≤ 6 ∧ js.length ≤ 18 ∧ (∀ x ∈ js, x.a < cs.length + ls.length ∧ x.c < cs.length + ls.length) ∧ j ∈ js ∧ (so.map (·.1)).Nodup ∧ (j.b, j.d) ∈ so ∧ (j.d, j.b) ∈ so ∧
  d = dnD cs (cutL ls j a b) (lcutJ cs.length ls js j a b)
theorem ok_law_cut_of (B : Bf mg) (c3 : CalP P w K mg base 1 "_law_less" r_less) {f : Addr} {fd : FuncData} (F : Fun K "_law_cut_of" "_law_cut_of" s_law_cut_of f fd) : FnOk P w K mg base CX0 2 f fd ["_law_sorts", "_law_drawn", "_law_join", "_law_names_here"] (spP r_lcut) := by
  have hN : (["_law_sorts", "_law_drawn", "_law_join", "_law_names_here", "_law_corners", "_law_legs", "_law_joins", "_law_kinds_of_ends", "_law_come", "_law_after", "_law_leg", "_law_places", "_law_links", "_law_place", "_law_sort", "_law_far", "_law_partner", "_law_pair", "_law_end"] : List Str).Nodup := by decide
  refine fun_pu F (N := ["_law_sorts", "_law_drawn", "_law_join", "_law_names_here", "_law_corners", "_law_legs", "_law_joins", "_law_kinds_of_ends", "_law_come", "_law_after", "_law_leg", "_law_places", "_law_links", "_law_place", "_law_sort", "_law_far", "_law_partner", "_law_pair", "_law_end"]) (C8.fnScope_by (by decide +kernel)) (fun ds d ⟨_, _, _, _, _, _, _, e, _⟩ => by rw [e]; rfl) fun cdv A outer s H E ds d hr ⟨so, cs, ls, js, j, a, b, e, n6, m6, jl, hj, jm, nd, p1, p2, ed⟩ => ?_
  subst e ed
  let L := cutL ls j a b
  let n := cs.length
  let lx : Lgs := [(a, j.d), (b, j.b)]
  let pl := lcutP n ls L
  have pll : pl.length = cs.length + ls.length := by unfold pl lcutP; rw [List.length_append, List.length_range, List.length_map]
  let g (x : Jn) : Jn := joinedF (pl.getD x.a 0, x.b) (pl.getD x.c 0, x.d)
  have ll := lessF_len js j
  have memL : ∀ l, l ∈ L ↔ l ∈ ls ++ lx := fun l => (sortT_perm _).mem_iff
  refine ab_unpack (pu_var 1 rfl) (tg_tup (tgs_cons (tg_name 4 hN) (tgs_cons (tg_name 5 hN) (tgs_cons (tg_name 6 hN) tgs_nil)))) ?_
  refine ab_set 7 (pu_dictL (kvs := sKv so) B.dict ((pu_var 0 rfl).is (congrArg D.lst (sKv_pairs so)))) ?_ hN
  refine ab_set 8 ((nu_lst (pas_cons ((pu_tup (pas_cons (pu_ixT (k := 0) (ds := [.str a, .str b]) (pu_var 3 rfl) pu_int rfl) (pas_cons (pu_dget (k := .inr j.b) hr (pu_var 7 rfl) (pu_ixT (k := 1) (ds := [.int (j.a : Int), .str j.b, .int (j.c : Int), .str j.d]) (pu_var 2 rfl) pu_int rfl) (sKv_some nd p1)) pas_nil)))) (pas_cons ((pu_tup (pas_cons (pu_ixT (k := 1) (ds := [.str a, .str b]) (pu_var 3 rfl) pu_int rfl) (pas_cons (pu_dget (k := .inr j.d) hr (pu_var 7 rfl) (pu_ixT (k := 3) (ds := [.int (j.a : Int), .str j.b, .int (j.c : Int), .str j.d]) (pu_var 2 rfl) pu_int rfl) (sKv_some nd p2)) pas_nil)))) pas_nil)) (show 2 ≤ 1000 by decide)).pu.is (d' := .lst (lx.map En.e)) rfl) ?_ hN
  refine ab_set 9 (nu_sorted (xs := ls ++ lx) hr B.sorted ((nu_cat (pu_var 5 rfl) (pu_var 8 rfl) (by rw [List.length_map, List.length_map]; show ls.length + 2 ≤ _; omega)).pu.is (congrArg D.lst (List.map_append (l₁ := ls) (l₂ := lx)).symm))).pu ?_ hN
  refine ab_set 11 (d := .lst (pl.map (En.e (α := Nat)))) ((nu_cat (nu_listRange1 (k := cs.length) B.range B.list ((pu_lenL B.len (pu_var 4 rfl)).is (by rw [List.length_map])) (by omega)).pu (nu_mapN [("_law_leg", 10)] 10 ls En.e (fun l => En.e (n + ixOf L l)) (pi_lst (pu_var 5 rfl)) (fun l hl s H C cl fp => (pu_add (pu_lenL B.len (pu_var 4 rfl)) (pu_index (x := l) (xs := L) hr (pu_var 9 rfl) (pu_var 10 rfl) ((memL l).2 (List.mem_append_left _ hl)))).is (by rw [List.length_map]; exact congrArg D.int (Int.natCast_add n (ixOf L l)).symm)) (hl := by omega) (hN := hN)).pu ?_).pu.is ?_) ?_ hN
  · rw [List.length_map, List.length_map, List.length_range]; omega
  · show D.lst _ = D.lst ((List.range n ++ _).map _)
    rw [List.map_append, List.map_map]; rfl
  refine ab_setO 12 (nu_lst pas_nil) ?_ hN
  refine ab_for (ds := (lessF js j).map En.e) (fun k => [.sh (sosD so), .sh (dnD cs ls js), .sh (En.e j), .sh (En.e (a, b)), .sh (csD cs), .sh (lgD ls), .sh (jsD js), .no, .sh (.lst (lx.map En.e)), .sh (lgD L), .no, .sh (.lst (pl.map (En.e (α := Nat)))), .ow ((((lessF js j).take k).map g).map En.e), .no, .no, .no, .no, .no, .no]) PassesOwn.never (pi_lst (pu_call c3 hr ⟨js, j, rfl, by omega, jm, rfl⟩ (pas_cons (pu_var 6 rfl) (pas_cons (pu_var 2 rfl) pas_nil)))) ?_ (fun k d hd => ?_) ?_
  · exact .eq (.eq (.eq (.eq (.eq (.eq (.eq (.no (.eq (.eq (.no (.eq (.eq (.no (.no (.no (.no (.no (.no .nil))))))))))))))))))
  · rw [List.getElem?_map] at hd
    obtain ⟨x, hk, rfl⟩ := Option.map_eq_some_iff.1 hd
    obtain ⟨b1, b2⟩ := hj x (lessF_mem (List.mem_of_getElem? hk))
    refine ⟨_, _, tg_tup (tgs_cons (tg_name 13 hN) (tgs_cons (tg_name 14 hN) (tgs_cons (tg_name 15 hN) (tgs_cons (tg_name 16 hN) tgs_nil)))), ?_⟩
    refine ab_set 17 (nu_lst (pas_cons ((pu_tup (pas_cons (pu_ixL (k := x.a) (pu_var 11 rfl) (pu_var 13 rfl) (by rw [List.getElem?_map, getD_some (d := 0) (by rw [pll]; exact b1)]; rfl)) (pas_cons (pu_var 14 rfl) pas_nil))).is (d' := En.e ((pl.getD x.a 0, x.b) : En2)) rfl) (pas_cons ((pu_tup (pas_cons (pu_ixL (k := x.c) (pu_var 11 rfl) (pu_var 15 rfl) (by rw [List.getElem?_map, getD_some (d := 0) (by rw [pll]; exact b2)]; rfl)) (pas_cons (pu_var 16 rfl) pas_nil))).is (d' := En.e ((pl.getD x.c 0, x.d) : En2)) rfl) pas_nil)) (show 2 ≤ 1000 by decide)).pu ?_ hN
    refine ab_append 12 rfl (pu_jl (x := (pl.getD x.a 0, x.b)) (y := (pl.getD x.c 0, x.d)) hr B (pu_var 17 rfl) (pu_var 17 rfl)) (ab_nil ?_) ?_
    · have e3 : (((lessF js j).take k).map g).map En.e ++ [En.e (g x)] = (((lessF js j).take (k + 1)).map g).map En.e := by rw [take_mapS g hk]; exact (List.map_append (l₁ := ((lessF js j).take k).map g) (l₂ := [g x])).symm
      show Le [_, _, _, _, _, _, _, _, _, _, _, _, _, _, _, _, _, _, _] [_, _, _, _, _, _, _, _, _, _, _, _, Sl.ow ((((lessF js j).take k).map g).map En.e ++ [En.e (g x)]), _, _, _, _, _, _]
      rw [e3]
      exact .eq (.eq (.eq (.eq (.eq (.eq (.eq (.eq (.eq (.eq (.eq (.eq (.eq (.no (.no (.no (.no (.no (.no .nil))))))))))))))))))
    · rw [List.length_map, List.length_map, List.length_take]; omega
  rw [List.length_map, List.take_length]
  let l0 : List Jn := (lessF js j).map g
  have l0l : l0.length ≤ 18 := by show (List.map _ _).length ≤ 18; rw [List.length_map]; omega
  let jx : List Jn := lcutX n L j a b
  have z0 : (((lessF js j).map g).map En.e : List D) = (l0 ++ jx.take 0).map En.e := by rw [List.take_zero, List.append_nil]
  rw [z0]
  have turn : ∀ (i : Nat) (lg : Str × Str) (en : En2), lg ∈ L → jx[i]? = some ⟨en.1, en.2, n + ixOf L lg, lg.2⟩ →
      AB (cxOf CX0 P w K mg base ["_law_sorts", "_law_drawn", "_law_join", "_law_names_here", "_law_corners", "_law_legs", "_law_joins", "_law_kinds_of_ends", "_law_come", "_law_after", "_law_leg", "_law_places", "_law_links", "_law_place", "_law_sort", "_law_far", "_law_partner", "_law_pair", "_law_end"] "_law_cut_of" (defScope s_law_cut_of) f cdv A outer s H E).nox m0
        ((defBody s_law_cut_of).getD 7 (.Pass ⟨0, 0, 0, 0⟩) |> fun | .For _ _ b _ _ => b | _ => [])
        [.sh (sosD so), .sh (dnD cs ls js), .sh (En.e j), .sh (En.e (a, b)), .sh (csD cs), .sh (lgD ls), .sh (jsD js), .no, .sh (.lst (lx.map En.e)), .sh (lgD L), .sh (En.e lg), .sh (.lst (pl.map (En.e (α := Nat)))), .ow ((l0 ++ jx.take i).map En.e), .no, .no, .no, .no, .no, .sh (En.e en)]
        { nx := fun t => Le [.sh (sosD so), .sh (dnD cs ls js), .sh (En.e j), .sh (En.e (a, b)), .sh (csD cs), .sh (lgD ls), .sh (jsD js), .no, .sh (.lst (lx.map En.e)), .sh (lgD L), .no, .sh (.lst (pl.map (En.e (α := Nat)))), .ow ((l0 ++ jx.take (i + 1)).map En.e), .no, .no, .no, .no, .no, .no] t,
          ct := fun t => Le [.sh (sosD so), .sh (dnD cs ls js), .sh (En.e j), .sh (En.e (a, b)), .sh (csD cs), .sh (lgD ls), .sh (jsD js), .no, .sh (.lst (lx.map En.e)), .sh (lgD L), .no, .sh (.lst (pl.map (En.e (α := Nat)))), .ow ((l0 ++ jx.take (i + 1)).map En.e), .no, .no, .no, .no, .no, .no] t,
          bk := fun t => AB (cxOf CX0 P w K mg base ["_law_sorts", "_law_drawn", "_law_join", "_law_names_here", "_law_corners", "_law_legs", "_law_joins", "_law_kinds_of_ends", "_law_come", "_law_after", "_law_leg", "_law_places", "_law_links", "_law_place", "_law_sort", "_law_far", "_law_partner", "_law_pair", "_law_end"] "_law_cut_of" (defScope s_law_cut_of) f cdv A outer s H E).nox m0 ((defBody s_law_cut_of).drop 8) t { nx := fun _ => dnD cs (cutL ls j a b) (lcutJ cs.length ls js j a b) = .non, rt := fun e _ => e = dnD cs (cutL ls j a b) (lcutJ cs.length ls js j a b) },
          rt := fun e _ => e = dnD cs (cutL ls j a b) (lcutJ cs.length ls js j a b) } := by
    intro i lg en hL hx
    refine ab_append 12 rfl ((pu_catT (ds := [.int (en.1 : Int), .str en.2]) (es := [.int ((n + ixOf L lg : Nat) : Int), .str lg.2]) (pu_var 18 rfl) (pu_tup (pas_cons ((pu_add (pu_lenL B.len (pu_var 4 rfl)) (pu_index (x := lg) (xs := L) hr (pu_var 9 rfl) (pu_var 10 rfl) hL)).is (by rw [List.length_map]; exact congrArg D.int (Int.natCast_add n (ixOf L lg)).symm)) (pas_cons (pu_ixT (k := 1) (ds := [.str lg.1, .str lg.2]) (pu_var 10 rfl) pu_int rfl) pas_nil)))).is (d' := En.e (⟨en.1, en.2, n + ixOf L lg, lg.2⟩ : Jn)) rfl) (ab_nil ?_) ?_
    · have t1 : jx.take (i + 1) = jx.take i ++ [⟨en.1, en.2, n + ixOf L lg, lg.2⟩] := by rw [List.take_add_one, hx]; rfl
      have e3 : (l0 ++ jx.take i).map En.e ++ [En.e (⟨en.1, en.2, n + ixOf L lg, lg.2⟩ : Jn)] = (l0 ++ jx.take (i + 1)).map En.e := by rw [t1, ← List.append_assoc]; exact (List.map_append (l₁ := l0 ++ jx.take i) (l₂ := [(⟨en.1, en.2, n + ixOf L lg, lg.2⟩ : Jn)])).symm
      show Le [_, _, _, _, _, _, _, _, _, _, _, _, _, _, _, _, _, _, _] [_, _, _, _, _, _, _, _, _, _, _, _, Sl.ow ((l0 ++ jx.take i).map En.e ++ [En.e (⟨en.1, en.2, n + ixOf L lg, lg.2⟩ : Jn)]), _, _, _, _, _, _]
      rw [e3]
      exact .eq (.eq (.eq (.eq (.eq (.eq (.eq (.eq (.eq (.eq (.no (.eq (.eq (.eq (.eq (.eq (.eq (.eq (.no .nil))))))))))))))))))
    · rw [List.length_map, List.length_append, List.length_take]
      have : min i jx.length ≤ 2 := Nat.min_le_right _ _
      omega
  refine ab_for (ds := zipD (lx.map En.e) [En.e (lo j), En.e (hi j)]) (fun i => [.sh (sosD so), .sh (dnD cs ls js), .sh (En.e j), .sh (En.e (a, b)), .sh (csD cs), .sh (lgD ls), .sh (jsD js), .no, .sh (.lst (lx.map En.e)), .sh (lgD L), .no, .sh (.lst (pl.map (En.e (α := Nat)))), .ow ((l0 ++ jx.take i).map En.e), .no, .no, .no, .no, .no, .no]) PassesOwn.never
    (pi_zipL B.zip (pu_var 8 rfl) (nu_lst (pas_cons ((pu_sliceT (pu_var 2 rfl) po_n (po_s pu_int)).is (d' := En.e (lo j)) (by rfl)) (pas_cons ((pu_sliceT (pu_var 2 rfl) (po_s pu_int) po_n).is (d' := En.e (hi j)) (by rfl)) pas_nil)) (show 2 ≤ 1000 by decide)).pu) (Le.refl _) (fun i d hd => ?_) ?_
  · match i, hd with
    | 0, hd =>
      cases (Option.some.inj hd)
      exact ⟨_, _, tg_tup (tgs_cons (tg_name 10 hN) (tgs_cons (tg_name 18 hN) tgs_nil)), turn 0 (a, j.d) (lo j) ((memL _).2 (List.mem_append_right _ (List.mem_cons_self ..))) rfl⟩
    | 1, hd =>
      cases (Option.some.inj hd)
      exact ⟨_, _, tg_tup (tgs_cons (tg_name 10 hN) (tgs_cons (tg_name 18 hN) tgs_nil)), turn 1 (b, j.b) (hi j) ((memL _).2 (List.mem_append_right _ (List.mem_cons_of_mem _ (List.mem_cons_self ..)))) rfl⟩
  · exact ab_share 12 rfl (ab_ret (pu_tup (pas_cons (pu_var 4 rfl) (pas_cons (pu_var 9 rfl) (pas_cons (nu_sorted (xs := l0 ++ jx) hr B.sorted (pu_var 12 rfl)).pu pas_nil)))) rfl)
end
end R87
namespace R87
open PySem PySem.Spec PyProof.Rows L2
open PySem.W (Tup T4 T3 DatumOrd Datum)
section
variable {P : Program} {w : World} {K : PySem.W.Frag} {mg : Str → Option Value} {base : Heap}
def spotsF (n : Nat) (ls : Lgs) : List Pl := (List.range n).map Pl.num ++ ls.map fun q => Pl.nm q.1
theorem spots_len (n : Nat) (ls : Lgs) : (spotsF n ls).length = n + ls.length := by unfold spotsF; rw [List.length_append, List.length_map, List.length_map, List.length_range]
def lsewJ (n : Nat) (L : Lgs) (nj : List NJ) : List Jn := sortT (nj.map fun p => joinedF ((spotsF n L).idxOf p.1.1, p.1.2) ((spotsF n L).idxOf p.2.1, p.2.2))
def r_lsewn (ds : List D) (d : D) : Prop := ∃ (cs : List Str) (ls : Lgs) (js : List Jn) (a b : Str) (e1 e2 : PE2), ds = [dnD cs ls js, .str a, .str b] ∧ cs.length ≤ 6 ∧ ls.length ≤ 6 ∧ js.length ≤ 18 ∧ (∀ x ∈ js, x.a < cs.length + ls.length ∧ x.c < cs.length + ls.length) ∧
  endAtF cs.length ls js a = some e1 ∧ endAtF cs.length ls js b = some e2 ∧ (∀ p ∈ sewNJ cs.length ls js a b e1 e2, p.1.1 ∈ spotsF cs.length (sewL ls a b) ∧ p.2.1 ∈ spotsF cs.length (sewL ls a b)) ∧ d = dnD cs (sewL ls a b) (lsewJ cs.length (sewL ls a b) (sewNJ cs.length ls js a b e1 e2))
theorem ok_law_sewn (B : Bf mg) (c1 : CalP P w K mg base 1 "_law_end_at" r_lend) {f : Addr} {fd : FuncData} (F : Fun K "_law_sewn" "_law_sewn" s_law_sewn f fd) : FnOk P w K mg base CX0 2 f fd ["_law_drawn", "_law_one_here", "_law_two"] (spP r_lsewn) := by
  have hN : (["_law_drawn", "_law_one_here", "_law_two", "_law_corners", "_law_legs", "_law_joins", "_law_names_here", "_law_after", "_law_spots", "_law_rows", "_law_links", "_law_near", "_law_far", "_law_pair", "_law_leg", "_law_join", "_law_row"] : List Str).Nodup := by decide
  refine fun_pu F (N := ["_law_drawn", "_law_one_here", "_law_two", "_law_corners", "_law_legs", "_law_joins", "_law_names_here", "_law_after", "_law_spots", "_law_rows", "_law_links", "_law_near", "_law_far", "_law_pair", "_law_leg", "_law_join", "_law_row"]) (C8.fnScope_by (by decide +kernel)) (fun ds d ⟨_, _, _, _, _, _, _, e, _⟩ => by rw [e]; rfl) fun cdv A outer s H E ds d hr ⟨cs, ls, js, a, b, e1, e2, e, n6, m6, jl, hj, f1, f2, hs, ed⟩ => ?_
  subst e ed
  let L := sewL ls a b
  let nm : List Pl := spotsF cs.length ls
  let sp : List Pl := spotsF cs.length L
  have Ll : L.length ≤ ls.length := List.length_filter_le ..
  let nj := sewNJ cs.length ls js a b e1 e2
  have nl : (namedF cs.length ls js).length ≤ 18 := by unfold namedF; rw [List.length_map]; omega
  have ff := List.length_filter_le (fun p : NJ => decide (p.1.1 ∉ [Pl.nm a, Pl.nm b]) && decide (p.2.1 ∉ [Pl.nm a, Pl.nm b])) (namedF cs.length ls js)
  have njl : nj.length ≤ 19 := by
    show (sewNJ cs.length ls js a b e1 e2).length ≤ 19
    unfold sewNJ
    rw [List.length_append]
    simp only [List.length_singleton]; omega
  let g (p : NJ) : Jn := joinedF (sp.idxOf p.1.1, p.1.2) (sp.idxOf p.2.1, p.2.2)
  refine ab_unpack (pu_var 0 rfl) (tg_tup (tgs_cons (tg_name 3 hN) (tgs_cons (tg_name 4 hN) (tgs_cons (tg_name 5 hN) tgs_nil)))) ?_
  refine ab_set 6 (d := .lst (nm.map En.e)) ((nu_cat (nu_listRange1 (k := cs.length) B.range B.list ((pu_lenL B.len (pu_var 3 rfl)).is (by rw [List.length_map])) (by omega)).pu (nu_mapN [("_law_leg", 14)] 14 ls En.e (fun q => .str q.1) (pi_lst (pu_var 4 rfl)) (fun q hq s H C cl fp => pu_ixT (k := 0) (ds := [.str q.1, .str q.2]) (pu_var 14 rfl) pu_int rfl) (hl := by omega) (hN := hN)).pu ?_).pu.is ?_) ?_ hN
  · rw [List.length_map, List.length_map, List.length_range]; omega
  · rw [range_num, legs_nm, ← List.map_append]; rfl
  refine ab_setC 7 (lc_filN [("_law_leg", 14)] 14 ls En.e (fun l => decide (l.1 ∉ [a, b])) En.e (pi_lst (pu_var 4 rfl)) (fun l hl s H C cl fp => (pt_niT l.1 [a, b] hr (pu_ixT (k := 0) (ds := [.str l.1, .str l.2]) (pu_var 14 rfl) pu_int rfl) (nu_lst (pas_cons (pu_var 1 rfl) (pas_cons (pu_var 2 rfl) pas_nil)) (show 2 ≤ 1000 by decide)).pu).is (decide_eq_decide.2 Iff.rfl)) (fun l hl hf s H C cl fp => pu_var 14 rfl) (hl := by omega)) ?_
  refine ab_share 7 rfl ?_
  refine ab_set 8 (d := .lst (sp.map En.e)) ((nu_cat (nu_listRange1 (k := cs.length) B.range B.list ((pu_lenL B.len (pu_var 3 rfl)).is (by rw [List.length_map])) (by omega)).pu (nu_mapN [("_law_leg", 14)] 14 L En.e (fun q => .str q.1) (pi_lst (pu_var 7 rfl)) (fun q hq s H C cl fp => pu_ixT (k := 0) (ds := [.str q.1, .str q.2]) (pu_var 14 rfl) pu_int rfl) (hl := by omega) (hN := hN)).pu ?_).pu.is ?_) ?_ hN
  · rw [List.length_map, List.length_map, List.length_range]; omega
  · rw [range_num, legs_nm, ← List.map_append]; rfl
  refine ab_setC 9 (lc_mapN [("_law_join", 15)] 15 js En.e (fun j => En.e (((spotF cs.length ls j.a, j.b), (spotF cs.length ls j.c, j.d)) : NJ)) (pi_lst (pu_var 5 rfl)) (fun j h s H C cl fp => ?_) (hl := by omega)) ?_
  · obtain ⟨b1, b2⟩ := hj j h
    exact pu_tup (pas_cons (pu_tup (pas_cons (pu_ixL (k := j.a) (pu_var 6 rfl) (pu_ixT (k := 0) (ds := [.int (j.a : Int), .str j.b, .int (j.c : Int), .str j.d]) (pu_var 15 rfl) pu_int rfl) (by rw [List.getElem?_map, show nm[j.a]? = _ from spot_at b1]; rfl)) (pas_cons (pu_ixT (k := 1) (ds := [.int (j.a : Int), .str j.b, .int (j.c : Int), .str j.d]) (pu_var 15 rfl) pu_int rfl) pas_nil))) (pas_cons (pu_tup (pas_cons (pu_ixL (k := j.c) (pu_var 6 rfl) (pu_ixT (k := 2) (ds := [.int (j.a : Int), .str j.b, .int (j.c : Int), .str j.d]) (pu_var 15 rfl) pu_int rfl) (by rw [List.getElem?_map, show nm[j.c]? = _ from spot_at b2]; rfl)) (pas_cons (pu_ixT (k := 3) (ds := [.int (j.a : Int), .str j.b, .int (j.c : Int), .str j.d]) (pu_var 15 rfl) pu_int rfl) pas_nil))) pas_nil))
  have z1 : (js.map fun j => En.e (((spotF cs.length ls j.a, j.b), (spotF cs.length ls j.c, j.d)) : NJ)) = (namedF cs.length ls js).map En.e := by unfold namedF; rw [List.map_map]; rfl
  rw [z1]
  refine ab_share 9 rfl ?_
  refine ab_setC 9 (lc_filN [("_law_row", 16)] 16 (namedF cs.length ls js) En.e (fun p => decide (p.1.1 ∉ [Pl.nm a, Pl.nm b]) && decide (p.2.1 ∉ [Pl.nm a, Pl.nm b])) En.e (pi_lst (pu_var 9 rfl)) (fun p hp s H C cl fp => (pw_and' (pt_niT p.1.1 [.nm a, .nm b] hr (pu_ixT (k := 0) (ds := [En.e p.1.1, .str p.1.2]) (pu_ixT (k := 0) (ds := [En.e p.1, En.e p.2]) (pu_var 16 rfl) pu_int rfl) pu_int rfl) (nu_lst (pas_cons (pu_var 1 rfl) (pas_cons (pu_var 2 rfl) pas_nil)) (show 2 ≤ 1000 by decide)).pu) fun _ => pw_and1' (pt_niT p.2.1 [.nm a, .nm b] hr (pu_ixT (k := 0) (ds := [En.e p.2.1, .str p.2.2]) (pu_ixT (k := 1) (ds := [En.e p.1, En.e p.2]) (pu_var 16 rfl) pu_int rfl) pu_int rfl) (nu_lst (pas_cons (pu_var 1 rfl) (pas_cons (pu_var 2 rfl) pas_nil)) (show 2 ≤ 1000 by decide)).pu)).pt) (fun p hp hf s H C cl fp => pu_var 16 rfl) (hl := by omega)) ?_
  refine ab_share 9 rfl ?_
  refine ab_setO 10 (nu_lst pas_nil) ?_ hN
  refine ab_for (ds := nj.map En.e) (fun k => [.no, .no, .no, .sh (csD cs), .no, .no, .no, .sh (lgD L), .sh (.lst (sp.map En.e)), .no, .ow (((nj.take k).map g).map En.e), .no, .no, .no, .no, .no, .no]) PassesOwn.never (pi_lst ((nu_cat (pu_var 9 rfl) (nu_lst (pas_cons (pu_tup (pas_cons (pu_call c1 hr ⟨cs, ls, js, a, rfl, n6, m6, hj, rfl⟩ (pas_cons (pu_var 0 rfl) (pas_cons (pu_var 1 rfl) pas_nil))) (pas_cons (pu_call c1 hr ⟨cs, ls, js, b, rfl, n6, m6, hj, rfl⟩ (pas_cons (pu_var 0 rfl) (pas_cons (pu_var 2 rfl) pas_nil))) pas_nil))) pas_nil)).pu ?_).pu.is ?_)) ?_ (fun k d hd => ?_) ?_
  · rw [List.length_map]; simp only [List.length_singleton]; omega
  · show D.lst _ = D.lst ((sewNJ cs.length ls js a b e1 e2).map _)
    unfold sewNJ
    rw [List.map_append, f1, f2]; rfl
  · rw [List.take_zero, List.map_nil, List.map_nil]
    exact .no (.no (.no (.eq (.no (.no (.no (.eq (.eq (.no (.eq (.no (.no (.no (.no (.no (.no .nil))))))))))))))))
  · rw [List.getElem?_map] at hd
    obtain ⟨p, hk, rfl⟩ := Option.map_eq_some_iff.1 hd
    obtain ⟨b1, b2⟩ := hs p (List.mem_of_getElem? hk)
    refine ⟨_, _, tg_tup (tgs_cons (tg_name 11 hN) (tgs_cons (tg_name 12 hN) tgs_nil)), ?_⟩
    refine ab_set 13 (nu_lst (pas_cons ((pu_tup (pas_cons (pu_index (x := p.1.1) (xs := sp) hr (pu_var 8 rfl) (pu_ixT (k := 0) (ds := [En.e p.1.1, .str p.1.2]) (pu_var 11 rfl) pu_int rfl) b1) (pas_cons (pu_ixT (k := 1) (ds := [En.e p.1.1, .str p.1.2]) (pu_var 11 rfl) pu_int rfl) pas_nil))).is (d' := En.e ((sp.idxOf p.1.1, p.1.2) : En2)) rfl) (pas_cons ((pu_tup (pas_cons (pu_index (x := p.2.1) (xs := sp) hr (pu_var 8 rfl) (pu_ixT (k := 0) (ds := [En.e p.2.1, .str p.2.2]) (pu_var 12 rfl) pu_int rfl) b2) (pas_cons (pu_ixT (k := 1) (ds := [En.e p.2.1, .str p.2.2]) (pu_var 12 rfl) pu_int rfl) pas_nil))).is (d' := En.e ((sp.idxOf p.2.1, p.2.2) : En2)) rfl) pas_nil)) (show 2 ≤ 1000 by decide)).pu ?_ hN
    refine ab_append 10 rfl (pu_jl (x := (sp.idxOf p.1.1, p.1.2)) (y := (sp.idxOf p.2.1, p.2.2)) hr B (pu_var 13 rfl) (pu_var 13 rfl)) (ab_nil ?_) ?_
    · have e3 : ((nj.take k).map g).map En.e ++ [En.e (g p)] = ((nj.take (k + 1)).map g).map En.e := by rw [take_mapS g hk]; exact (List.map_append (l₁ := (nj.take k).map g) (l₂ := [g p])).symm
      show Le [_, _, _, _, _, _, _, _, _, _, _, _, _, _, _, _, _] [_, _, _, _, _, _, _, _, _, _, Sl.ow (((nj.take k).map g).map En.e ++ [En.e (g p)]), _, _, _, _, _, _]
      rw [e3]
      exact .eq (.eq (.eq (.eq (.eq (.eq (.eq (.eq (.eq (.eq (.eq (.no (.no (.no (.eq (.eq (.eq .nil))))))))))))))))
    · rw [List.length_map, List.length_map, List.length_take]; omega
  rw [List.length_map, List.take_length]
  exact ab_share 10 rfl (ab_ret (pu_tup (pas_cons (pu_var 3 rfl) (pas_cons (pu_var 7 rfl) (pas_cons (nu_sorted (xs := nj.map g) hr B.sorted (pu_var 10 rfl)).pu pas_nil)))) rfl)
end
end R87
namespace R87
open PySem PySem.Spec PyProof.Rows L2
open PySem.W (Tup T4 T3 DatumOrd Datum)
section
variable {P : Program} {w : World} {K : PySem.W.Frag} {mg : Str → Option Value} {base : Heap}
def freshL : List Str := ["y", "ya", "yb", "za", "zb", "zc", "yc", "yd"]
def freshF (ls : Lgs) : List Str := (freshL.filter fun s => decide (s ∉ ls.map (·.1))).take 2
def r_lfresh (ds : List D) (d : D) : Prop := ∃ (cs : List Str) (ls : Lgs) (js : List Jn), ds = [dnD cs ls js] ∧ ls.length ≤ 6 ∧ d = .tup ((freshF ls).map En.e)
theorem ok_law_fresh (B : Bf mg) {f : Addr} {fd : FuncData} (F : Fun K "_law_fresh" "_law_fresh" s_law_fresh f fd) : FnOk P w K mg base CX0 1 f fd ["_law_drawn"] (spP r_lfresh) := by
  have hN : (["_law_drawn", "_law_used", "_law_name", "_law_sort"] : List Str).Nodup := by decide
  refine fun_pu F (N := ["_law_drawn", "_law_used", "_law_name", "_law_sort"]) (C8.fnScope_by (by decide +kernel)) (fun ds d ⟨_, _, _, e, _⟩ => by rw [e]; rfl) fun cdv A outer s H E ds d hr ⟨cs, ls, js, e, m6, ed⟩ => ?_
  subst e ed
  refine ab_set 1 (d := .lst ((ls.map (·.1)).map (En.e (α := Str)))) ((nu_map2 [("_law_name", 2), ("_law_sort", 3)] 2 3 ls (fun q => .str q.1) (fun q => .str q.2) (fun q => .str q.1) (pi_lst (pu_ixT (k := 1) (d := lgD ls) (pu_var 0 rfl) pu_int rfl)) (fun q hq s H C cl fp => pu_var 2 rfl) (hl := by omega) (hN := hN)).pu.is (by rw [List.map_map]; rfl)) ?_ hN
  refine ab_ret (pu_tupleL B.tuple (nu_slice (nu_filN [("_law_name", 2)] 2 freshL En.e (fun s => decide (s ∉ ls.map (·.1))) En.e (pi_lst ((nu_lst (pas_cons pu_str (pas_cons pu_str (pas_cons pu_str (pas_cons pu_str (pas_cons pu_str (pas_cons pu_str (pas_cons pu_str (pas_cons pu_str pas_nil)))))))) (show 8 ≤ 1000 by decide)).pu.is rfl)) (fun x hx s H C cl fp => (pt_niT x (ls.map (·.1)) hr (pu_var 2 rfl) (pu_var 1 rfl)).is (decide_eq_decide.2 Iff.rfl)) (fun x hx hf s H C cl fp => pu_var 2 rfl) (hl := by decide) (hN := hN)).pu po_n (po_s pu_int)).pu) ?_
  show D.tup _ = D.tup _
  rw [show (2 : Int) = ((2 : Nat) : Int) from rfl, cut_take, ← List.map_take]; rfl
def r_lson (ds : List D) (d : D) : Prop := ∃ (so : Srts) (cs : List Str) (ls : Lgs) (js : List Jn) (a b : Str) (e1 e2 : PE2), ds = [sosD so, dnD cs ls js, .str a, .str b] ∧ cs.length ≤ 6 ∧ ls.length ≤ 6 ∧ js.length ≤ 18 ∧ (∀ x ∈ js, x.a < cs.length + ls.length ∧ x.c < cs.length + ls.length) ∧
  endAtF cs.length ls js a = some e1 ∧ endAtF cs.length ls js b = some e2 ∧
  ((e1.1 ≠ .nm b ∧ (e1.2, e2.2) ∈ so ∧ (∀ p ∈ sewNJ cs.length ls js a b e1 e2, p.1.1 ∈ spotsF cs.length (sewL ls a b) ∧ p.2.1 ∈ spotsF cs.length (sewL ls a b)) ∧ d = dnD cs (sewL ls a b) (lsewJ cs.length (sewL ls a b) (sewNJ cs.length ls js a b e1 e2))) ∨ (¬ (e1.1 ≠ .nm b ∧ (e1.2, e2.2) ∈ so) ∧ d = .non))
theorem ok_law_sewn_or_not (B : Bf mg) (c1 : CalP P w K mg base 1 "_law_end_at" r_lend) (c2 : CalP P w K mg base 2 "_law_sewn" r_lsewn) {f : Addr} {fd : FuncData} (F : Fun K "_law_sewn_or_not" "_law_sewn_or_not" s_law_sewn_or_not f fd) : FnOk P w K mg base CX0 3 f fd ["_law_sorts", "_law_drawn", "_law_one_here", "_law_two"] (spP r_lson) := by
  have hN : (["_law_sorts", "_law_drawn", "_law_one_here", "_law_two", "_law_ends_here"] : List Str).Nodup := by decide
  refine fun_pu F (N := ["_law_sorts", "_law_drawn", "_law_one_here", "_law_two", "_law_ends_here"]) (C8.fnScope_by (by decide +kernel)) (fun ds d ⟨_, _, _, _, _, _, _, _, e, _⟩ => by rw [e]; rfl) fun cdv A outer s H E ds d hr ⟨so, cs, ls, js, a, b, e1, e2, e, n6, m6, jl, hj, f1, f2, hd⟩ => ?_
  subst e
  refine ab_set 4 (d := .lst [En.e e1, En.e e2]) ((nu_lst (pas_cons ((pu_call c1 hr ⟨cs, ls, js, a, rfl, n6, m6, hj, rfl⟩ (pas_cons (pu_var 1 rfl) (pas_cons (pu_var 2 rfl) pas_nil))).is (d' := En.e e1) (by rw [f1]; rfl)) (pas_cons ((pu_call c1 hr ⟨cs, ls, js, b, rfl, n6, m6, hj, rfl⟩ (pas_cons (pu_var 1 rfl) (pas_cons (pu_var 3 rfl) pas_nil))).is (d' := En.e e2) (by rw [f2]; rfl)) pas_nil)) (show 2 ≤ 1000 by decide)).pu) ?_ hN
  refine ab_if (pw_or' (pt_eqT e1.1 (.nm b) hr (pu_ixT (k := 0) (ds := [En.e e1.1, .str e1.2]) (pu_ixL (k := 0) (pu_var 4 rfl) pu_int rfl) pu_int rfl) (pu_var 3 rfl)) fun _ => pw_or1' (pt_niT (e1.2, e2.2) so hr (pu_tup (pas_cons (pu_ixT (k := 1) (ds := [En.e e1.1, .str e1.2]) (pu_ixL (k := 0) (pu_var 4 rfl) pu_int rfl) pu_int rfl) (pas_cons (pu_ixT (k := 1) (ds := [En.e e2.1, .str e2.2]) (pu_ixL (k := 1) (pu_var 4 rfl) pu_int rfl) pu_int rfl) pas_nil))) (pu_var 0 rfl))).pt (fun z => ?_) (fun z => ?_)
  · rcases hd with ⟨h1, h2, _⟩ | ⟨_, ed⟩
    · exfalso
      rw [dec_false h1, dec_false (fun w => w h2)] at z
      cases z
    · exact ab_ret pu_non ed.symm
  · refine ab_nil ?_
    rcases hd with ⟨h1, h2, h3, ed⟩ | ⟨h1, _⟩
    · exact ab_ret (pu_call c2 hr ⟨cs, ls, js, a, b, e1, e2, rfl, n6, m6, jl, hj, f1, f2, h3, rfl⟩ (pas_cons (pu_var 1 rfl) (pas_cons (pu_var 2 rfl) (pas_cons (pu_var 3 rfl) pas_nil)))) ed.symm
    · exfalso
      rw [Bool.or_eq_false_iff, decide_eq_false_iff_not, decide_eq_false_iff_not] at z
      exact h1 ⟨z.1, Decidable.not_not.1 z.2⟩
def r_lright (CD CS : Addr) (ds : List D) (d : D) : Prop := ∃ (so : Srts) (kd : Knds) (cs : List Str) (ls : Lgs) (js : List Jn), ds = [drD CD CS so kd cs ls js, dnD cs ls js] ∧ VD so kd cs ls js ∧ VP cs.length ls.length js ∧
  (∀ ps ∈ clss (marksF (cs.length + ls.length) js), (∀ j ∈ js, j.a ∈ ps → j.c ∈ ps) ∧ VD so kd (prtC cs ps) (prtL cs ls ps) (prtJ js ps)) ∧
  (∀ r ∈ groupsF (cs.length + ls.length) js, r.length ≤ 12 ∧ (∀ p ∈ r, p < cs.length + ls.length) ∧ ∀ j ∈ js, j.a ∈ r → j.c ∈ r) ∧
  cutsF cs.length ls.length js = lcutsF cs.length ls.length js ∧ piecesF cs.length ls.length js = lpiecesF cs.length ls.length js ∧ nComp (cs.length + ls.length) js = nGrp (cs.length + ls.length) js ∧
  (clss (marksF (cs.length + ls.length) js)).length = nComp (cs.length + ls.length) js ∧ d = .bl true
theorem ok_law_right (B : Bf mg) {CD CS : Addr} (c1 : CalP P w K mg base 1 "_law_of" (r_lof CD CS)) (c2 : CalP P w K mg base 3 "cuts" (r_cuts CD CS)) (c3 : CalP P w K mg base 2 "_law_cuts" r_lcuts) (c4 : CalP P w K mg base 4 "pieces" (r_pieces CD CS)) (c5 : CalP P w K mg base 3 "_law_pieces" r_lpieces)
    (c6 : CalP P w K mg base 2 "_law_parts" r_lparts) (c7 : CalP P w K mg base 8 "parts" (r_parts CD CS)) (c8 : CalP P w K mg base 3 "is_whole_parts" (r_whole_d CD CS)) (c9 : CalP P w K mg base 4 "is_free" (r_free CD CS))
    {f : Addr} {fd : FuncData} (F : Fun K "_law_right" "_law_right" s_law_right f fd) : FnOk P w K mg base CX0 9 f fd ["_law_drawing_here", "_law_drawn"] (spP (r_lright CD CS)) := by
  have hN : (["_law_drawing_here", "_law_drawn", "_law_some", "_law_free"] : List Str).Nodup := by decide
  refine fun_pu F (N := ["_law_drawing_here", "_law_drawn", "_law_some", "_law_free"]) (C8.fnScope_by (by decide +kernel)) (fun ds d ⟨_, _, _, _, _, e, _⟩ => by rw [e]; rfl) fun cdv A outer s H E ds d hr ⟨so, kd, cs, ls, js, e, V, vp, hps, hgs, q1, q2, q3, q4, ed⟩ => ?_
  subst e ed
  let T : T3 (List Str) Lgs (List Jn) := ⟨cs, ls, js⟩
  refine ab_ifF ((pw_or' (pt_neT T T hr ((pu_call c1 hr ⟨so, kd, cs, ls, js, rfl, rfl⟩ (pas_cons (pu_var 0 rfl) pas_nil)).is (d' := En.e T) rfl) (pu_var 1 rfl)) fun _ => pw_or' (pt_neT (cutsF cs.length ls.length js) (lcutsF cs.length ls.length js) hr (pu_call c2 hr ⟨so, kd, cs, ls, js, rfl, vp, rfl⟩ (pas_cons (pu_var 0 rfl) pas_nil)) (pu_call c3 hr ⟨cs, ls, js, rfl, vp, rfl⟩ (pas_cons (pu_var 1 rfl) pas_nil))) fun _ =>
    pw_or1' (pt_neT (piecesF cs.length ls.length js) (lpiecesF cs.length ls.length js) hr (pu_call c4 hr ⟨so, kd, cs, ls, js, rfl, vp, rfl⟩ (pas_cons (pu_var 0 rfl) pas_nil)) (pu_call c5 hr ⟨cs, ls, js, rfl, vp, rfl⟩ (pas_cons (pu_var 1 rfl) pas_nil)))).pt.is ?_) ?_
  · rw [dec_false (fun z => z rfl), dec_false (fun z => z q1), dec_false (fun z => z q2)]; rfl
  refine ab_set 2 (pu_call c6 hr ⟨cs, ls, js, rfl, vp, hgs, rfl⟩ (pas_cons (pu_var 1 rfl) pas_nil)) ?_ hN
  let G := nGrp (cs.length + ls.length) js
  have gl : ((groupsF (cs.length + ls.length) js).map (lprtD cs ls js)).length = G := List.length_map ..
  let fr : Bool := decide ((G : Int) = 1) && (decide (cs ≠ []) && decide (lcutsF cs.length ls.length js = []))
  refine ab_set 3 (d := .bl fr) (pu_and (pu_eqI hr ((pu_lenL B.len (pu_var 2 rfl)).is (congrArg (fun n : Nat => D.int (n : Int)) gl)) pu_int) fun _ => pu_and (pu_neT cs [] hr (pu_ixT (k := 0) (d := csD cs) (pu_var 1 rfl) pu_int rfl) (nu_lst pas_nil).pu) fun _ => pu_one (pu_eqT (lcutsF cs.length ls.length js) [] hr (pu_call c3 hr ⟨cs, ls, js, rfl, vp, rfl⟩ (pas_cons (pu_var 1 rfl) pas_nil)) (nu_lst pas_nil).pu)) ?_ hN
  refine ab_ret (pu_and (pu_eqI hr (pu_lenL B.len (pu_call c7 hr ⟨so, kd, cs, ls, js, rfl, V, vp, hps, rfl⟩ (pas_cons (pu_var 0 rfl) pas_nil))) (pu_lenL B.len (pu_var 2 rfl))) fun _ => pu_and (pu_eqT (decide (nComp (cs.length + ls.length) js = 1)) (decide ((G : Int) = 1)) hr (pu_call c8 hr ⟨so, kd, cs, ls, js, rfl, vp, rfl⟩ (pas_cons (pu_var 0 rfl) pas_nil)) ((pu_eqI hr ((pu_lenL B.len (pu_var 2 rfl)).is (congrArg (fun n : Nat => D.int (n : Int)) gl)) pu_int))) fun _ => pu_one (pu_eqT (decide (nComp (cs.length + ls.length) js = 1) && (decide (cs ≠ []) && decide (cutsF cs.length ls.length js = []))) fr hr (pu_call c9 hr ⟨so, kd, cs, ls, js, rfl, vp, rfl⟩ (pas_cons (pu_var 0 rfl) pas_nil)) (pu_var 3 rfl))) ?_
  have e1 : decide (nComp (cs.length + ls.length) js = 1) = decide ((G : Int) = 1) := decide_eq_decide.2 (by rw [q3]; show G = 1 ↔ _; omega)
  rw [List.length_map, gl, q4, q3, dec_true (show ((nGrp (cs.length + ls.length) js : Nat) : Int) = (G : Int) from rfl), dec_true (show decide (nGrp (cs.length + ls.length) js = 1) = decide ((G : Int) = 1) by rw [← q3]; exact e1), dec_true (show (decide (nGrp (cs.length + ls.length) js = 1) && (decide (cs ≠ []) && decide (cutsF cs.length ls.length js = []))) = fr by rw [← q3, e1, q1])]
  rfl
end
end R87
namespace R87
open PySem PySem.Spec PyProof.Rows L2
open PySem.W (Tup T4 T3 DatumOrd Datum)
section
variable {P : Program} {w : World} {K : PySem.W.Frag} {mg : Str → Option Value} {base : Heap}
def p_next (ds : List D) : Prop := ∃ many : Nat, ds = [.int (many : Int)] ∧ 1 ≤ many ∧ many ≤ 1000
def r_next (ds : List D) (d : D) : Prop := ∃ many r : Nat, ds = [.int (many : Int)] ∧ r < many ∧ d = .int (r : Int)
abbrev sp_next : Sp := spZ 1 p_next r_next
def p_one (ds : List D) : Prop := ∃ es : List D, ds = [.lst es] ∧ 1 ≤ es.length ∧ es.length ≤ 1000
def r_one (ds : List D) (d : D) : Prop := ∃ (es : List D) (i : Nat), ds = [.lst es] ∧ es[i]? = some d
theorem ok_law_one (B : Bf mg) (c1 : Cal P w K mg base CX0 1 "_law_next" sp_next) {f : Addr} {fd : FuncData} (F : Fun K "_law_one" "_law_one" s_law_one f fd) : FnOk P w K mg base CX0 2 f fd ["_law_source", "_law_some"] (spZ 1 p_one r_one) := by
  refine fun_draw F (N := ["_law_source", "_law_some"]) (C8.fnScope_by (by decide +kernel)) (fun ds ⟨_, e, _⟩ => by rw [e]; rfl) fun cdv A outer s H E a k0 ds hr ⟨es, e, h1, h2⟩ hl => ?_
  subst e
  refine abe_ret (ef_ixL (ef_pu (pu_var 1 rfl) (ef_draw 0 c1 hr ⟨_, _, rfl⟩ (ea_pa (pas_cons (pu_lenL B.len (pu_var 1 rfl)) pas_nil) ⟨⟨es.length, rfl, h1, h2⟩, a, k0, rfl, rfl, hl, fun d hR => ?_⟩))))
  obtain ⟨many, r, e1, hr1, ed⟩ := hR
  have e2 : es.length = many := by
    have : D.int (es.length : Int) = D.int (many : Int) := (List.cons.inj e1).1
    injection this with this
    omega
  subst ed
  exact ⟨es, r, es[r]'(by omega), rfl, rfl, List.getElem?_eq_getElem _, ⟨es, r, rfl, List.getElem?_eq_getElem _⟩, k0 + 1, rfl, Nat.le_refl _⟩
section
variable {α : Type} [DecidableEq α] [Datum α] [En α]
def p_mix (α : Type) [DecidableEq α] [Datum α] [En α] (ds : List D) : Prop := ∃ xs : List α, ds = [.lst (xs.map En.e)] ∧ xs.length ≤ 100
def r_mix (ds : List D) (d : D) : Prop := ∃ fs gs : List D, ds = [.lst fs] ∧ gs.Perm fs ∧ d = .lst gs
theorem perm_map_ex {β γ : Type} (f : β → γ) {gs hs : List γ} (h : gs.Perm hs) : ∀ {xs : List β}, hs = xs.map f → ∃ ys : List β, gs = ys.map f ∧ ys.Perm xs := by
  induction h with
  | nil => intro xs e; exact ⟨xs, e, .refl _⟩
  | cons x h ih =>
    intro xs e
    cases xs with
    | nil => cases e
    | cons y xs =>
      rw [List.map_cons] at e
      injection e with e1 e2
      obtain ⟨ys, h1, h2⟩ := ih e2
      exact ⟨y :: ys, by rw [e1, h1]; rfl, .cons y h2⟩
  | swap x y l =>
    intro xs e
    match xs, e with
    | u :: v :: xs, e =>
      rw [List.map_cons, List.map_cons] at e
      injection e with e1 e2
      injection e2 with e2 e3
      exact ⟨v :: u :: xs, by rw [e1, e2, e3]; rfl, .swap u v xs⟩
  | trans h1 h2 i1 i2 =>
    intro xs e
    obtain ⟨ys, e1, p1⟩ := i2 e
    obtain ⟨zs, e2, p2⟩ := i1 e1
    exact ⟨zs, e2, p2.trans p1⟩
theorem cons_erase {β : Type} : ∀ {ls : List β} {r : Nat} (h : r < ls.length), (ls[r] :: ls.eraseIdx r).Perm ls
  | x :: ls, 0, _ => .refl _
  | x :: ls, r + 1, h => (List.Perm.swap x _ _).trans (.cons x (cons_erase (Nat.lt_of_succ_lt_succ h)))
theorem perm_erase {xs fs ls : List α} {r : Nat} (h : (fs ++ ls).Perm xs) {x : α} (hx : ls[r]? = some x) : ((fs ++ [x]) ++ ls.eraseIdx r).Perm xs := by
  refine .trans ?_ h
  rw [List.append_assoc]
  refine .append_left _ ?_
  obtain ⟨hi, e⟩ := List.getElem?_eq_some_iff.1 hx
  rw [← e]
  show (ls[r] :: ls.eraseIdx r).Perm ls
  exact cons_erase hi
theorem ok_law_mixed (hd : Datum.depth (List α) ≤ 60) (B : Bf mg) (c1 : Cal P w K mg base CX0 1 "_law_next" sp_next) {f : Addr} {fd : FuncData} (F : Fun K "_law_mixed" "_law_mixed" s_law_mixed f fd) : FnOk P w K mg base CX0 2 f fd ["_law_source", "_law_some"] (spZ 100 (p_mix α) r_mix) := by
  have hN : (["_law_source", "_law_some", "_law_left", "_law_found"] : List Str).Nodup := by decide
  refine fun_draw F (N := ["_law_source", "_law_some", "_law_left", "_law_found"]) (C8.fnScope_by (by decide +kernel)) (fun ds ⟨_, e, _⟩ => by rw [e]; rfl) fun cdv A outer s H E a k0 ds hr ⟨xs, e, h1⟩ hl => ?_
  subst e
  refine ab_setO 2 (nu_listL B.list (pu_var 1 rfl)) ?_ hN
  refine ab_setO 3 (nu_lst pas_nil) ?_ hN
  refine ab_while (fun n t => ∃ (k : Nat) (ls fs : List α), n = ls.length ∧ (fs ++ ls).Perm xs ∧ k + ls.length ≤ k0 + 100 ∧ t = [.sr a k, .sh (.lst (xs.map En.e)), .ow (ls.map En.e), .ow (fs.map En.e)]) PassesOwn.never (n0 := xs.length) ⟨k0, xs, [], rfl, .refl _, by omega, rfl⟩ ?_
  rintro n t ⟨k, ls, fs, rfl, hp, hk, rfl⟩
  have hpl := hp.length_eq
  rw [List.length_append] at hpl
  refine ⟨decide (ls ≠ []), Pt.own (i := 2) rfl (pt_neT ls [] hr (pu_var 2 rfl) (nu_lst pas_nil).pu hd), fun z => ?_, fun z => ?_⟩
  · have hne : ls ≠ [] := of_decide_eq_true z
    have hpos := List.length_pos_iff.2 hne
    refine abe_append 3 ⟨_, rfl⟩ (ef_pop 2 ⟨_, rfl⟩ (ef_draw 0 c1 hr ⟨_, _, rfl⟩ (ea_pa (pas_cons (Pu.ownI (i := 2) (n := ls.length) rfl ((pu_lenL B.len (pu_var 2 rfl)).is (by rw [List.length_map]))) pas_nil) ⟨⟨ls.length, rfl, hpos, by omega⟩, a, k, rfl, rfl, by omega, fun d hR => ?_⟩)))
    obtain ⟨many, r, e1, hr1, ed⟩ := hR
    have e2 : ls.length = many := by
      have : D.int (ls.length : Int) = D.int (many : Int) := (List.cons.inj e1).1
      injection this with this
      omega
    subst ed
    have hx : ls[r]? = some (ls[r]'(by omega)) := List.getElem?_eq_getElem _
    refine ⟨ls.map En.e, r, En.e (ls[r]'(by omega)), rfl, by rw [List.length_map]; omega, rfl, by rw [List.getElem?_map, hx]; rfl, fs.map En.e, rfl, by rw [List.length_map]; omega, ab_nil ⟨(ls.eraseIdx r).length, [.sr a (k + 1), .sh (.lst (xs.map En.e)), .ow ((ls.eraseIdx r).map En.e), .ow ((fs ++ [ls[r]'(by omega)]).map En.e)], by rw [List.length_eraseIdx_of_lt (by omega)]; omega, ⟨k + 1, ls.eraseIdx r, fs ++ [ls[r]'(by omega)], rfl, perm_erase hp hx, by rw [List.length_eraseIdx_of_lt (by omega)]; omega, rfl⟩, ?_⟩⟩
    show Le [_, _, _, _] [_, _, Sl.ow ((ls.map En.e).eraseIdx r), Sl.ow (fs.map En.e ++ [En.e (ls[r]'(by omega))])]
    rw [eraseIdx_map, List.map_append]
    exact Le.refl _
  · have hnil : ls = [] := Decidable.not_not.1 (of_decide_eq_false z)
    subst hnil
    rw [List.append_nil] at hp
    exact ab_share 3 rfl (ab_ret (pu_var 3 rfl) ⟨⟨_, _, rfl, hp.map _, rfl⟩, k, rfl, by omega⟩)
end
end
end R87
namespace R87
open PySem PySem.Spec PyProof.Rows L2
section
variable {X : Cx} {m : Addr → Prop} {τ : List Sl} {N : AE} {rest : List Stmt} {a b e : Expr} {pos p p2 : Pos} {n : Str} {R : D → List Sl → Prop}
theorem ef_srX (i : Nat) (j : Nat) {a0 : Addr} {k : Nat} (h0 : τ[i]? = some (Sl.sr a0 k)) (hb : Pu X b τ (.int (j : Int))) (hj : j < 3) (q : ∀ v : Int, 0 ≤ v → (j = 1 → v < 2147483648) → (j = 2 → v ≤ k) → R (.int v) τ)
    (hN : X.N[i]? = some n := by rfl) (hv : Vis X.env.scope n := by first | exact Or.inl rfl | exact Or.inr (Or.inl rfl) | exact Or.inr (Or.inr rfl)) (hd : (n == ("__debug__" : Str)) = false := by decide) (hcd : (n == ("__classdict__" : Str)) = false := by decide) (hs : PlainIx b := by exact fun _ _ => rfl) :
    Ef X m (.Subscript (.Name n p) b p2) τ R := fun G0 H0 G H σ g ok Q h' => by
  obtain ⟨b1, _, _⟩ := ok.sr i a0 k h0
  refine We.of (pe_ix ix_list (pe_var hN hv hd hcd) pe_we hs) ⟨_, b1, hb H0 G H σ ok _ fun u G2 H2 g2 r2 => ?_⟩
  cases r2
  have ok2 := ok.gr g2
  obtain ⟨_, _, x, y, z, e1, l1, l2, l3, l4, l5⟩ := ok2.sr i a0 k h0
  have go : ∀ v : Int, [V.int x, V.int y, V.int z][j]? = some (.int v) → R (.int v) τ → rIxL X.K (V.ref a0) (V.int (j : Int)) H2 Q := fun v hv hR =>
    ⟨_, _, _, V.int v, rfl, rfl, SqL.of e1, atI_nat hv, h' _ _ _ _ _ (g.trans g2.any) g2.gg ok2 (.int v) hR⟩
  match j, hj with
  | 0, _ => exact go x rfl (q x l1 (fun z => by cases z) (fun z => by cases z))
  | 1, _ => exact go y rfl (q y l2 (fun _ => l3) (fun z => by cases z))
  | 2, _ => exact go z rfl (q z l4 (fun z => by cases z) (fun _ => l5))
theorem abe_srPut (i : Nat) (j : Nat) {ie : Expr} (h : Ef X m e τ fun d t => ∃ (v : Int) (a0 : Addr) (k k' : Nat), d = .int v ∧ 0 ≤ v ∧ t[i]? = some (Sl.sr a0 k) ∧ m a0 ∧ k ≤ k' ∧ (j = 2 → v ≤ k') ∧ Pu X ie t (.int (j : Int)) ∧ AB X m rest (t.set i (.sr a0 k')) N) (hj : j = 0 ∨ j = 2)
    (hN : X.N[i]? = some n := by rfl) (hv : Vis X.env.scope n := by first | exact Or.inl rfl | exact Or.inr (Or.inl rfl) | exact Or.inr (Or.inr rfl)) (hd : (n == ("__debug__" : Str)) = false := by decide) (hcd : (n == ("__classdict__" : Str)) = false := by decide)
    (hw : PS X (.Assign [.Subscript (.Name n p) ie p2] e pos) (tAsg (We X e) (gSub (tVar i) (We X ie) rSetL)) := by exact ps_asg pe_we (pg_sub (pe_var rfl (by first | exact Or.inl rfl | exact Or.inr (Or.inl rfl) | exact Or.inr (Or.inr rfl))) pe_we set_list)) :
    AB X m (.Assign [.Subscript (.Name n p) ie p2] e pos :: rest) τ N := fun G0 H0 G H σ g ok => by
  refine Wb.of (pss_cons hw pss_wb) (h G0 H0 G H σ g ok _ fun w d t G1 H1 g1 e1 ok1 r1 ⟨v, a0, k, k', ed, hv0, h0, hm, hk, h2, hie, hrest⟩ => ?_)
  subst ed
  cases r1
  obtain ⟨b1, _, _⟩ := ok1.sr i a0 k h0
  refine ⟨_, b1, hie H0 G1 H1 σ ok1 _ fun u G2 H2 g2 r2 => ?_⟩
  cases r2
  have ok2 := ok1.gr g2
  obtain ⟨_, n2, x, y, z, q1, l1, l2, l3, l4, l5⟩ := ok2.sr i a0 k h0
  have fin : ∀ x' z' : Int, [V.int x, V.int y, V.int z].set j (.int v) = [V.int x', V.int y, V.int z'] → 0 ≤ x' → 0 ≤ z' → z' ≤ k' → Wb X rest (Cn m G0 H0 N) σ (upd H2 a0 (.lst ([V.int x, V.int y, V.int z].set j (.int v)))) := fun x' z' he hx hz hzk => by
    rw [he]
    have gr : Gr (fun b => b = a0) G2 H2 G2 (upd H2 a0 (.lst [V.int x', V.int y, V.int z'])) :=
      ⟨.refl _, fun b o nb hb => by rw [upd_ne nb]; exact hb, fun b o hb => by rw [upd_ne (fun w => by rw [w, n2] at hb; cases hb)]; exact ok2.ex b o hb, fun b hb _ => hb, fun b hb => by
        by_cases w : b = a0
        · rw [w, upd_same]; exact fun w => by cases w
        · rw [upd_ne w]; exact hb⟩
    obtain ⟨g3, ok3⟩ := Ok.draw (g1.trans g2.any) ok2 h0 (.inl hm) gr ⟨x', y, z', upd_same, hx, l2, l3, hz, hzk⟩
    exact hrest G0 H0 G2 _ σ g3 ok3
  refine ⟨a0, _, (j : Int), j, rfl, rfl, q1, ?_, ?_⟩
  · rcases hj with hj | hj <;> subst hj <;> rfl
  · rcases hj with hj | hj <;> subst hj
    · exact fin v z rfl hv0 l4 (by omega)
    · exact fin x v rfl l1 hv0 (h2 rfl)
end
end R87
namespace R87
open PySem PySem.Spec PyProof.Rows L2
section
variable {P : Program} {w : World} {K : PySem.W.Frag} {mg : Str → Option Value} {base : Heap}
def primes : List Int := [2147483647, 2147483629, 2147483587, 2147483579, 2147483563, 2147483549, 2147483543]
theorem primes_at (k : Nat) (h : k < 7) : ∃ p : Int, primes[k]? = some p ∧ 0 < p ∧ p < 2147483648 := by
  match k, h with
  | 0, _ => exact ⟨_, rfl, by decide, by decide⟩
  | 1, _ => exact ⟨_, rfl, by decide, by decide⟩
  | 2, _ => exact ⟨_, rfl, by decide, by decide⟩
  | 3, _ => exact ⟨_, rfl, by decide, by decide⟩
  | 4, _ => exact ⟨_, rfl, by decide, by decide⟩
  | 5, _ => exact ⟨_, rfl, by decide, by decide⟩
  | 6, _ => exact ⟨_, rfl, by decide, by decide⟩
theorem ok_law_next {f : Addr} {fd : FuncData} (F : Fun K "_law_next" "_law_next" s_law_next f fd) : FnOk P w K mg base CX0 1 f fd ["_law_source", "_law_many"] sp_next := by
  have hN : (["_law_source", "_law_many", "_law_found", "_law_prime", "_law_figure"] : List Str).Nodup := by decide
  refine fun_draw F (N := ["_law_source", "_law_many", "_law_found", "_law_prime", "_law_figure"]) (C8.fnScope_by (by decide +kernel)) (fun ds ⟨_, e, _⟩ => by rw [e]; rfl) fun cdv A outer s H E a k0 ds hr ⟨many, e, h1, h2⟩ hl => ?_
  subst e
  have hm : (0 : Int) < (many : Int) := by omega
  have out : ∀ v : Int, ∃ r : Nat, r < many ∧ D.int (v % (many : Int)) = .int (r : Int) := fun v => by
    have a1 := Int.emod_nonneg v (b := (many : Int)) (by omega)
    have a2 := Int.emod_lt_of_pos v hm
    exact ⟨(v % (many : Int)).toNat, by omega, congrArg D.int (by omega)⟩
  have kB : (k0 : Int) < 1000000 := by
    have : k0 + 1 ≤ 1000000 := hl
    omega
  refine abe_if (et_cmp op_gt (ef_srX 0 0 rfl pu_int (by decide) fun v hv _ _ => ef_pu pu_int ⟨_, d_B0, fun _ => ?_, fun _ => ?_⟩))
  · refine abe_set 2 (ef_op op_mod (ef_srX 0 0 rfl pu_int (by decide) fun v hv _ _ => ef_pu (pu_var 1 rfl) ⟨_, d_I (C := fun _ j => 0 < j) hm, ?_⟩))
    obtain ⟨r, hrl, he⟩ := out v
    rw [he]
    refine abe_srPut 0 0 (ef_op op_fdiv (ef_srX 0 0 rfl pu_int (by decide) fun v hv _ _ => ef_pu (pu_var 1 rfl) ⟨_, d_I (C := CDiv) ⟨hm, by omega⟩, v / (many : Int), a, k0, k0, rfl, Int.ediv_nonneg hv (by omega), rfl, rfl, Nat.le_refl _, (fun z => by cases z), pu_int, ?_⟩)) (.inl rfl)
    exact ab_ret (pu_var 2 rfl) ⟨⟨many, r, rfl, hrl, rfl⟩, k0, rfl, by omega⟩
  · refine ab_nil ?_
    refine abe_srPut 0 2 (ef_op op_add (ef_srX 0 2 rfl pu_int (by decide) fun v hv _ hk => ef_pu pu_int ⟨_, d_I0, v + 1, a, k0, k0 + 1, rfl, by omega, rfl, rfl, by omega, (fun _ => by have := hk rfl; omega), pu_int, ?_⟩)) (.inr rfl)
    refine abe_set 3 (ef_ixL (ef_pu ((nu_lst (pas_cons pu_int (pas_cons pu_int (pas_cons pu_int (pas_cons pu_int (pas_cons pu_int (pas_cons pu_int (pas_cons pu_int pas_nil)))))))).pu.is (d' := .lst (primes.map En.e)) rfl) (ef_op op_mod (ef_srX 0 2 rfl pu_int (by decide) fun v hv _ hk => ef_pu pu_int ⟨_, d_I (C := fun _ j => 0 < j) (show (0 : Int) < 7 by decide), ?_⟩))))
    have a1 := Int.emod_nonneg v (b := 7) (by decide)
    have a2 := Int.emod_lt_of_pos v (b := 7) (by decide)
    obtain ⟨p, hp, p0, p1⟩ := primes_at (v % 7).toNat (by omega)
    refine ⟨_, (v % 7).toNat, .int p, rfl, congrArg D.int (by omega), by rw [List.getElem?_map, hp]; rfl, ?_⟩
    have md : ∀ v : Int, 0 ≤ v % p ∧ v % p < 2147483648 := fun v => by
      have a1 := Int.emod_nonneg v (b := p) (by omega)
      have a2 := Int.emod_lt_of_pos v p0
      exact ⟨a1, by omega⟩
    refine abe_set 4 (ef_op op_mod (ef_op op_pow (ef_op op_add (ef_op op_add (ef_srX 0 1 rfl pu_int (by decide) fun y hy hy2 _ => ef_op op_mul (ef_pu pu_int (ef_srX 0 2 rfl pu_int (by decide) fun z hz _ hz2 => ⟨_, d_I (C := CMul) (.inl ⟨by decide, by decide⟩), ⟨_, d_I0, ef_pu pu_int ⟨_, d_I0, ef_pu pu_int ⟨_, d_I (C := CPow) ⟨by decide, by decide, ?_⟩, ef_pu (pu_var 3 rfl) ⟨_, d_I (C := fun _ j => 0 < j) p0, ?_⟩⟩⟩⟩⟩)))))))
    · have z1 := hy2 rfl
      have z2 := hz2 rfl
      have e64 : (2 : Nat) ^ 64 = 18446744073709551616 := by decide
      rw [e64]
      omega
    generalize hf : (y + 7919 * z + 1) ^ (Int.toNat 5) = w1
    obtain ⟨f0, f1⟩ := md w1
    generalize w1 % p = f at f0 f1
    refine abe_set 4 (ef_op op_mod (ef_op op_mul (ef_op op_add (ef_pu (pu_var 4 rfl) (ef_srX 0 2 rfl pu_int (by decide) fun u hu _ hu2 => ⟨_, d_I0, ef_op op_add (ef_op op_fdiv (ef_pu (pu_var 4 rfl) (ef_pu pu_int ⟨_, d_I (C := CDiv) ⟨by decide, by decide⟩, ef_pu pu_int ⟨_, d_I0, ⟨_, d_I (C := CMul) (.inl ⟨?_, ?_⟩), ef_pu (pu_var 3 rfl) ⟨_, d_I (C := fun _ j => 0 < j) p0, ?_⟩⟩⟩⟩)))⟩)))))
    · have e64 : (2 : Int) ^ 64 = 18446744073709551616 := by decide
      rw [e64]; omega
    · have e64 : (2 : Int) ^ 64 = 18446744073709551616 := by decide
      have := hu2 rfl
      rw [e64]; omega
    generalize ((f + u) * (f / 1009 + 69621)) % p = f2
    obtain ⟨r, hrl, he⟩ := out (f2 / 7)
    refine ab_ret ((pu_op op_mod (d_I (C := fun _ j => 0 < j) hm) (pu_op op_fdiv (d_I (C := CDiv) ⟨by decide, by decide⟩) (pu_var 4 rfl) pu_int) (pu_var 1 rfl)).is he) ⟨⟨many, r, rfl, hrl, rfl⟩, k0 + 1, rfl, Nat.le_refl _⟩
end
end R87
namespace R87
open PySem PySem.Spec PyProof.Rows L2
section
variable {P : Program} {w : World} {K : PySem.W.Frag} {mg : Str → Option Value} {base : Heap}
/-- three ints that a source begins with -/
def r_src (ds es : List D) : Prop := ∃ (i x y : Int), ds = [.int i] ∧ 0 ≤ x ∧ 0 ≤ y ∧ y < 2147483648 ∧ x = i * (if decide (1000000000000000000 ≤ i) = true then 1 else 0) ∧ y = i % 2147483647 ∧ es = [.int x, .int y, .int 0]
theorem src_bounds (i : Int) : 0 ≤ i * (if decide (1000000000000000000 ≤ i) = true then 1 else 0) ∧ 0 ≤ i % 2147483647 ∧ i % 2147483647 < 2147483648 := by
  have a1 := Int.emod_nonneg i (b := 2147483647) (by decide)
  have a2 := Int.emod_lt_of_pos i (b := 2147483647) (by decide)
  refine ⟨?_, a1, by omega⟩
  by_cases h : 1000000000000000000 ≤ i
  · rw [if_pos (decide_eq_true h)]; omega
  · rw [if_neg (by rw [decide_eq_false h]; decide), Int.mul_zero]; exact Int.le_refl _
theorem ok_law_source_of (B : Bf mg) {f : Addr} {fd : FuncData} (F : Fun K "_law_source_of" "_law_source_of" s_law_source_of f fd) : FnOk P w K mg base CX0 1 f fd ["_law_cell"] (spNu r_src) := by
  refine fun_nu F (N := ["_law_cell"]) (C8.fnScope_by (by decide +kernel)) (fun ds d ⟨_, _, _, e, _⟩ => by rw [e]; rfl) fun cdv A outer s H E ds es G σ Dn hr ⟨i, x, y, e, x0, y0, y1, ex, ey, ees⟩ ok fin => ?_
  subst e ex ey ees
  have hp : (10 : Int) ^ (Int.toNat 18) = 1000000000000000000 := by decide
  refine Wb.of (pss_cons (ps_ret pe_we) pss_wb) ((nu_lst (ds := [.int (i * (if decide (1000000000000000000 ≤ i) = true then 1 else 0)), .int (i % 2147483647), .int 0]) (pas_cons (pu_mul (pu_var 0 rfl) (pu_callTy call_int1 (d := .int (if decide (1000000000000000000 ≤ i) = true then 1 else 0)) (fun vs G H ex r Q q => ?_) B.int (pas_cons ((pu_cmp op_ge d_B0 (pu_var 0 rfl) (pu_op op_pow (d_I (C := CPow) ⟨by decide, by decide, by decide⟩) pu_int pu_int)).is (d' := .bl (decide (1000000000000000000 ≤ i))) (by rw [hp])) pas_nil)) (.inr ?_)) (pas_cons (pu_op op_mod (d_I (C := fun _ j => 0 < j) (by decide)) (pu_var 0 rfl) pu_int) (pas_cons pu_int pas_nil))) (show 3 ≤ 1000 by decide)) H G H σ ok _ fun p us G2 H2 g2 q1 q2 q3 r => fin p us G2 H2 g2 q1 q2 q3 r)
  · cases r with
    | cons r r' =>
      cases r'
      cases r
      refine .inr ⟨_, rfl, ?_⟩
      exact q _ G H (.refl ex) (.int _)
  · have e64 : (2 : Int) ^ 64 = 18446744073709551616 := by decide
    rw [e64]
    split <;> constructor <;> decide
end
theorem Ok.setSr {H0 G H : Hp} {τ : List Sl} {σ : L2.St} {i n : Nat} {p : Addr} (k : Ok H0 G H τ σ) (hg : G p = none) (hs : Sk p n H)
    (hf : ∀ (j : Nat) (es : List D), j ≠ i → τ[j]? = some (Sl.ow es) → σ[j]? ≠ some (some (V.ref p))) (hno : ∀ (j : Nat) (a : Addr) (k : Nat), j ≠ i → τ[j]? ≠ some (Sl.sr a k)) : Ok H0 G H (τ.set i (.sr p n)) (σ.set i (some (.ref p))) := by
  refine ⟨k.ex, by rw [List.length_set, List.length_set]; exact k.len, fun j e he => ?_, fun j es he => ?_, fun j l es fs q n h1 h2 h3 => ?_, fun j a n he => ?_, fun j l es a n h1 h2 => ?_, fun j l a b c d h1 h2 => ?_⟩
  · rcases set_at he with ⟨z, e1, hl⟩ | ⟨z, he⟩
    · cases e1
    · rw [List.getElem?_set_ne z]
      exact k.sh j e he
  · rcases set_at he with ⟨z, e1, hl⟩ | ⟨z, he⟩
    · cases e1
    · rw [List.getElem?_set_ne z]
      exact k.ow j es he
  · rcases set_at h1 with ⟨z1, e1, hl⟩ | ⟨z1, h1⟩
    · cases e1
    · rcases set_at h2 with ⟨z2, e2, hl⟩ | ⟨z2, h2⟩
      · cases e2
      · rw [List.getElem?_set_ne z2]
        rw [List.getElem?_set_ne z1] at h3
        exact k.ap j l es fs q n h1 h2 h3
  · rcases set_at he with ⟨z, e1, hl⟩ | ⟨z, he⟩
    · cases e1
      subst z
      exact ⟨List.getElem?_set_self (by rw [← k.len]; exact hl), hg, hs⟩
    · exact absurd he (hno j a n (Ne.symm z))
  · rcases set_at h2 with ⟨z2, e2, hl⟩ | ⟨z2, h2⟩
    · cases e2
      rcases set_at h1 with ⟨z, e1, _⟩ | ⟨z, h1⟩
      · cases e1
      · rw [List.getElem?_set_ne z]
        exact hf j es (Ne.symm z) h1
    · exact absurd h2 (hno l a n (Ne.symm z2))
  · rcases set_at h1 with ⟨z1, e1, _⟩ | ⟨z1, h1⟩
    · rcases set_at h2 with ⟨z2, e2, _⟩ | ⟨z2, h2⟩
      · rw [← z1, ← z2]
      · exact absurd h2 (hno l b d (Ne.symm z2))
    · exact absurd h1 (hno j a c (Ne.symm z1))
section
variable {X : Cx} {τ : List Sl} {N : AE} {rest : List Stmt} {e : Expr} {pos p : Pos} {n : Str}
abbrev mT : Addr → Prop := fun _ => True
/-- a source anew, in a slot -/
theorem ab_setSr (i : Nat) {x y : Int} (h : Nu X e τ [.int x, .int y, .int 0]) (hx : 0 ≤ x) (hy : 0 ≤ y) (hy2 : y < 2147483648) (h2 : ∀ a, AB X mT rest (τ.set i (.sr a 0)) N) (hno : ∀ j a k, j ≠ i → τ[j]? ≠ some (Sl.sr a k)) (hN : X.N.Nodup := by assumption) (hi : X.N[i]? = some n := by rfl) (hx1 : Loc X.env.scope n := by first | exact Or.inl rfl | exact Or.inr rfl) (hs : swapsWith e (some (.Name n p)) pos.line X.env = pure false := by rfl)
    (hf : X.fn n = true ∨ X.env.scope.names.lookup n = some .local := by first | exact .inl rfl | exact .inr rfl) : AB X mT (.Assign [.Name n p] e pos :: rest) τ N := fun G0 H0 G H σ g k =>
  Wb.of (pss_cons (ps_set hN hi hx1 pe_we hs hf) pss_wb) (h H0 G H σ k _ fun q vs G1 H1 g1 h1 h3 h4 r1 => by
    have h0 : H0 q = none := by
      cases z : H0 q with
      | none => rfl
      | some u => exact absurd h3 (g.th q (by rw [z]; exact fun z => by cases z))
    have hs3 : Sk q 0 H1 := by
      cases r1 with
      | cons a1 r1 => cases r1 with
        | cons a2 r2 => cases r2 with
          | cons a3 r3 =>
            cases r3
            cases a1; cases a2; cases a3
            exact ⟨x, y, 0, h4, hx, hy, hy2, Int.le_refl _, Int.le_refl _⟩
    refine h2 q G0 H0 G1 H1 _ (g.trans g1.any) ((k.gr g1).setSr h1 hs3 (fun j es hj he hq => ?_) hno)
    obtain ⟨u, us, a1, a2, a3, a4, a5⟩ := k.ow j es he
    rw [a1] at hq
    cases hq
    rw [h3] at a2
    cases a2)
end
end R87
namespace R87
open PySem PySem.Spec PyProof.Rows L2
open PySem.W (Tup T4 T3 DatumOrd Datum)
abbrev Pr := En2 × En2
def flatP (ps : List Pr) : List En2 := ps.flatMap fun p => [p.1, p.2]
/-- what a row of the sorts pairs up -/
def ctb (es : List En2) (r : Str × Str) : List En2 :=
  if r.1 = r.2 then es.filter fun e => decide (e.2 = r.1) else if DatumOrd.lt r.1 r.2 = true then (es.filter fun e => decide (e.2 = r.1)) ++ es.filter fun e => decide (e.2 = r.2) else []
theorem pair_up : ∀ (k : Nat) (ns : List En2), ns.length = 2 * k → ∃ ps : List Pr, (∀ i, i < k → ∃ a b, ns[2 * i]? = some a ∧ ns[2 * i + 1]? = some b ∧ ps[i]? = some (a, b)) ∧ ps.length = k ∧ flatP ps = ns
  | 0, ns, h => ⟨[], fun i hi => absurd hi (Nat.not_lt_zero i), rfl, by
      have : ns = [] := List.length_eq_zero_iff.1 (by omega)
      rw [this]; rfl⟩
  | k + 1, [], h => by simp at h
  | k + 1, [a], h => by simp at h; omega
  | k + 1, a :: b :: ns, h => by
    obtain ⟨ps, h1, h2, h3⟩ := pair_up k ns (by simp at h; omega)
    refine ⟨(a, b) :: ps, fun i hi => ?_, by rw [List.length_cons, h2], by show a :: b :: flatP ps = _; rw [h3]⟩
    cases i with
    | zero => exact ⟨a, b, rfl, rfl, rfl⟩
    | succ i =>
      obtain ⟨x, y, e1, e2, e3⟩ := h1 i (by omega)
      exact ⟨x, y, by rw [show 2 * (i + 1) = (2 * i + 1) + 1 by omega]; exact e1, by rw [show 2 * (i + 1) + 1 = (2 * i + 1 + 1) + 1 by omega]; exact e2, e3⟩
theorem flat_zip : ∀ (xs ys : List En2), xs.length = ys.length → (flatP (xs.zip ys)).Perm (xs ++ ys)
  | [], [], _ => .refl _
  | x :: xs, y :: ys, h => by
    have ih := flat_zip xs ys (by simpa using h)
    show (x :: y :: flatP (xs.zip ys)).Perm (x :: (xs ++ y :: ys))
    refine .cons x ?_
    exact (List.Perm.cons y ih).trans List.perm_middle.symm
end R87
namespace R87
open PySem PySem.Spec PyProof.Rows L2
open PySem.W (Tup T4 T3 DatumOrd Datum)
section
variable {P : Program} {w : World} {K : PySem.W.Frag} {mg : Str → Option Value} {base : Heap}
def p_pair (ds : List D) : Prop := ∃ (so : Srts) (es : List En2), ds = [sosD so, .lst (es.map En.e)] ∧ so.length ≤ 3 ∧ es.length ≤ 40 ∧ (∀ r ∈ so, r.1 = r.2 → ∃ k, (es.filter fun e => decide (e.2 = r.1)).length = 2 * k) ∧ (∀ r ∈ so, r.1 ≠ r.2 → (es.filter fun e => decide (e.2 = r.1)).length = (es.filter fun e => decide (e.2 = r.2)).length)
def r_pair (ds : List D) (d : D) : Prop := ∃ (so : Srts) (es : List En2) (ps : List Pr), ds = [sosD so, .lst (es.map En.e)] ∧ (flatP ps).Perm (so.flatMap (ctb es)) ∧ (∀ p ∈ ps, (p.1.2, p.2.2) ∈ so) ∧ d = jsD (sortT (ps.map fun p => joinedF p.1 p.2))
theorem ok_law_paired (B : Bf mg) (c1 : Cal P w K mg base CX0 2 "_law_mixed" (spZ 100 (p_mix En2) r_mix)) {f : Addr} {fd : FuncData} (F : Fun K "_law_paired" "_law_paired" s_law_paired f fd) : FnOk P w K mg base CX0 3 f fd ["_law_source", "_law_sorts", "_law_ends_here"] (spZ 300 p_pair r_pair) := by
  have hN : (["_law_source", "_law_sorts", "_law_ends_here", "_law_pairs", "_law_sort", "_law_partner", "_law_near", "_law_far", "_law_end", "_law_k", "_law_pair"] : List Str).Nodup := by decide
  refine fun_draw F (N := ["_law_source", "_law_sorts", "_law_ends_here", "_law_pairs", "_law_sort", "_law_partner", "_law_near", "_law_far", "_law_end", "_law_k", "_law_pair"]) (C8.fnScope_by (by decide +kernel)) (fun ds ⟨_, _, e, _⟩ => by rw [e]; rfl) fun cdv A outer s H E a k0 ds hr ⟨so, es, e, s3, e40, hev, heq⟩ hl => ?_
  subst e
  have hl' : k0 + 300 ≤ 1000000 := hl
  have ctl : ∀ r, (ctb es r).length ≤ 80 := fun r => by
    unfold ctb
    have f1 := List.length_filter_le (fun e : En2 => decide (e.2 = r.1)) es
    have f2 := List.length_filter_le (fun e : En2 => decide (e.2 = r.2)) es
    split
    · omega
    · split
      · rw [List.length_append]; omega
      · exact Nat.zero_le _
  have fl : ∀ l : Srts, (l.flatMap (ctb es)).length ≤ 80 * l.length := fun l => by
    induction l with
    | nil => exact Nat.le_refl _
    | cons r l ih =>
      rw [List.flatMap_cons, List.length_append, List.length_cons]
      have := ctl r
      omega
  have fp : ∀ l : List Pr, (flatP l).length = 2 * l.length := fun l => by
    induction l with
    | nil => rfl
    | cons r l ih =>
      show (flatP l).length + 1 + 1 = _
      rw [List.length_cons, ih]; omega
  have psl : ∀ {ps : List Pr} {i : Nat}, (flatP ps).Perm ((so.take i).flatMap (ctb es)) → ps.length ≤ 120 := fun {ps i} hp => by
    have h1 := hp.length_eq
    rw [fp] at h1
    have h2 := fl (so.take i)
    have h3 := List.length_take_le i so
    have h4 : (so.take i).length ≤ 3 := by rw [List.length_take]; exact Nat.le_trans (Nat.min_le_right _ _) s3
    omega
  have flA : ∀ a b : List Pr, flatP (a ++ b) = flatP a ++ flatP b := fun a b => List.flatMap_append
  refine ab_set 3 (nu_lst pas_nil).pu ?_ hN
  refine abe_for (Rn := fun ds t => ds = so.map En.e ∧ t = [.sr a k0, .sh (sosD so), .sh (.lst (es.map En.e)), .sh (.lst []), .no, .no, .no, .no, .no, .no, .no])
    (fun ds i t => ds = so.map En.e ∧ ∃ (k : Nat) (ps : List Pr), k ≤ k0 + 100 * i ∧ (flatP ps).Perm ((so.take i).flatMap (ctb es)) ∧ (∀ p ∈ ps, (p.1.2, p.2.2) ∈ so) ∧ t = [.sr a k, .sh (sosD so), .sh (.lst (es.map En.e)), .sh (.lst (ps.map En.e)), .no, .no, .no, .no, .no, .no, .no])
    PassesOwn.never (ei_pi (pi_lst (pu_var 1 rfl)) ⟨rfl, rfl⟩) (fun ds t ⟨h1, h2⟩ => ⟨h1, k0, [], by omega, .refl _, (fun _ h => by cases h), h2⟩) (fun ds i d t ⟨h1, k, ps, hk, hp, hs, h2⟩ hd => ?_) (fun ds t ⟨h1, k, ps, hk, hp, hs, h2⟩ => ?_)
  · subst h1 h2
    rw [List.getElem?_map] at hd
    obtain ⟨r, hk2, rfl⟩ := Option.map_eq_some_iff.1 hd
    have rm := List.mem_of_getElem? hk2
    have il := (List.getElem?_eq_some_iff.1 hk2).1
    refine ⟨_, _, tg_tup (tgs_cons (tg_name 4 hN) (tgs_cons (tg_name 5 hN) tgs_nil)), ?_⟩
    have f1 := List.length_filter_le (fun e : En2 => decide (e.2 = r.1)) es
    refine abe_set 6 (ef_draw 0 c1 hr ⟨_, _, rfl⟩ (ea_pa (pas_cons (nu_filN [("_law_end", 8)] 8 es En.e (fun e => decide (e.2 = r.1)) En.e (pi_lst (pu_var 2 rfl)) (fun e he s H C cl fp => pt_eqS hr (pu_ixT (k := 1) (ds := [.int (e.1 : Int), .str e.2]) (pu_var 8 rfl) pu_int rfl) (pu_var 4 rfl)) (fun e he hf s H C cl fp => pu_var 8 rfl) (hl := by omega) (hN := hN)).pu pas_nil) ⟨⟨_, rfl, by omega⟩, a, k, rfl, rfl, (by show _ ≤ 1000000; omega), fun d hR => ?_⟩))
    obtain ⟨fs, gs, e1, hpm, ed⟩ := hR
    have e2 : fs = (es.filter fun e => decide (e.2 = r.1)).map En.e := by
      have := (List.cons.inj e1).1
      injection this with this
      exact this.symm
    obtain ⟨ns, e3, hpn⟩ := perm_map_ex En.e hpm e2
    subst ed e3
    have nl := hpn.length_eq
    refine abe_if (et_pt (b := decide (r.1 = r.2)) (pt_eqS hr (pu_var 4 rfl) (pu_var 5 rfl)) ⟨fun z => ?_, fun z => ?_⟩)
    · have rr : r.1 = r.2 := of_decide_eq_true z
      obtain ⟨m, hm⟩ := hev r rm rr
      obtain ⟨qs, q1, q2, q3⟩ := pair_up m ns (by rw [nl, hm])
      refine ab_set 3 (d := .lst ((ps ++ qs).map En.e)) ((nu_cat (pu_var 3 rfl) (nu_mapN [("_law_k", 9)] 9 (List.range m) En.e (fun i => En.e (qs.getD i ((0, (⟨#[]⟩ : Str)), (0, (⟨#[]⟩ : Str))))) (pi_rng (n := m) B.range ((pu_op op_fdiv (d_I (C := CDiv) ⟨by decide, by decide⟩) (pu_lenL B.len (pu_var 6 rfl)) pu_int).is ?_) (by omega)) (fun i hi s H C cl fp => ?_) (hl := by rw [List.length_range]; omega) (hN := hN)).pu ?_).pu.is ?_) ?_ hN
      · refine congrArg D.int ?_
        rw [List.length_map, nl, hm]; omega
      · obtain ⟨x, y, h1, h2, h3⟩ := q1 i (List.mem_range.1 hi)
        have hq : qs.getD i ((0, (⟨#[]⟩ : Str)), (0, (⟨#[]⟩ : Str))) = (x, y) := by rw [List.getD_eq_getElem?_getD, h3]; rfl
        rw [hq]
        exact pu_tup (pas_cons (pu_ixL (k := 2 * i) (pu_var 6 rfl) ((pu_mul pu_int (pu_var 9 rfl) (.inl ⟨by decide, by decide⟩)).is (congrArg D.int (by omega))) (by rw [List.getElem?_map, h1]; rfl)) (pas_cons (pu_ixL (k := 2 * i + 1) (pu_var 6 rfl) ((pu_add (pu_mul pu_int (pu_var 9 rfl) (.inl ⟨by decide, by decide⟩)) pu_int).is (congrArg D.int (by omega))) (by rw [List.getElem?_map, h2]; rfl)) pas_nil))
      · have := psl hp
        rw [List.length_map, List.length_map, List.length_range]; omega
      · rw [List.map_append]
        refine congrArg (fun l => D.lst (ps.map En.e ++ l)) ?_
        apply List.ext_getElem?
        intro i
        rw [List.getElem?_map, List.getElem?_map]
        by_cases hi : i < m
        · obtain ⟨x, y, h1, h2, h3⟩ := q1 i hi
          rw [List.getElem?_range hi, h3]
          show some (En.e (qs.getD i _)) = _
          rw [List.getD_eq_getElem?_getD, h3]; rfl
        · rw [List.getElem?_eq_none (by rw [List.length_range]; omega), List.getElem?_eq_none (by omega)]; rfl
      · refine ab_nil (ab_nil ⟨_, ⟨rfl, k + 100, ps ++ qs, by omega, ?_, fun p hp2 => ?_, rfl⟩, .eq (.eq (.eq (.eq (.no (.no (.no (.eq (.eq (.eq (.eq .nil))))))))))⟩)
        · rw [flA, q3, take_flat (ctb es) hk2]
          refine hp.append ?_
          have : ctb es r = es.filter fun e => decide (e.2 = r.1) := if_pos rr
          rw [this]; exact hpn
        · rcases List.mem_append.1 hp2 with w | w
          · exact hs p w
          · have mm : ∀ e ∈ [p.1, p.2], e.2 = r.1 := fun e he => by
              have : e ∈ ns := by rw [← q3]; exact List.mem_flatMap.2 ⟨p, w, he⟩
              exact of_decide_eq_true (List.mem_filter.1 (hpn.mem_iff.1 this)).2
            rw [mm p.1 (.head _), mm p.2 (.tail _ (.head _))]
            have : (r.1, r.1) = r := by rw [show r = (r.1, r.2) from rfl, ← rr]
            rw [this]; exact rm
    · have rne : r.1 ≠ r.2 := of_decide_eq_false z
      have hq := heq r rm rne
      have f2 := List.length_filter_le (fun e : En2 => decide (e.2 = r.2)) es
      refine abe_if (et_pt (b := DatumOrd.lt r.1 r.2) (pt_ltT r.1 r.2 hr (pu_var 4 rfl) (pu_var 5 rfl)) ⟨fun z2 => ?_, fun z2 => ?_⟩)
      · refine ab_set 7 (nu_filN [("_law_end", 8)] 8 es En.e (fun e => decide (e.2 = r.2)) En.e (pi_lst (pu_var 2 rfl)) (fun e he s H C cl fp => pt_eqS hr (pu_ixT (k := 1) (ds := [.int (e.1 : Int), .str e.2]) (pu_var 8 rfl) pu_int rfl) (pu_var 5 rfl)) (fun e he hf s H C cl fp => pu_var 8 rfl) (hl := by omega) (hN := hN)).pu ?_ hN
        generalize hfs : (es.filter fun e => decide (e.2 = r.2)) = fs at *
        have lnf : ns.length = fs.length := by rw [nl, hq]
        refine ab_set 3 (d := .lst ((ps ++ ns.zip fs).map En.e)) ((nu_cat (pu_var 3 rfl) (nu_mapN [("_law_k", 9)] 9 (List.range ns.length) En.e (fun i => En.e (ns.getD i ((0, (⟨#[]⟩ : Str))), fs.getD i ((0, (⟨#[]⟩ : Str))))) (pi_rng (n := ns.length) B.range ((pu_lenL B.len (pu_var 6 rfl)).is (by rw [List.length_map])) (by omega)) (fun i hi s H C cl fp => ?_) (hl := by rw [List.length_range]; omega) (hN := hN)).pu ?_).pu.is ?_) ?_ hN
        · have hi := List.mem_range.1 hi
          exact pu_tup (pas_cons (pu_ixL (k := i) (pu_var 6 rfl) (pu_var 9 rfl) (by rw [List.getElem?_map, getD_some (d := ((0, (⟨#[]⟩ : Str)))) hi]; rfl)) (pas_cons (pu_ixL (k := i) (pu_var 7 rfl) (pu_var 9 rfl) (by rw [List.getElem?_map, getD_some (d := ((0, (⟨#[]⟩ : Str)))) (by omega)]; rfl)) pas_nil))
        · have := psl hp
          rw [List.length_map, List.length_map, List.length_range]; omega
        · rw [List.map_append]
          refine congrArg (fun l => D.lst (ps.map En.e ++ l)) ?_
          apply List.ext_getElem?
          intro i
          rw [List.getElem?_map, List.getElem?_map]
          by_cases hi : i < ns.length
          · rw [List.getElem?_range hi, (List.getElem?_zip_eq_some (z := (ns.getD i ((0, (⟨#[]⟩ : Str))), fs.getD i ((0, (⟨#[]⟩ : Str)))))).2 ⟨getD_some (d := ((0, (⟨#[]⟩ : Str)))) hi, getD_some (d := ((0, (⟨#[]⟩ : Str)))) (by omega)⟩]; rfl
          · rw [List.getElem?_eq_none (by rw [List.length_range]; omega), List.getElem?_eq_none (by rw [List.length_zip]; omega)]; rfl
        · refine ab_nil (ab_nil (ab_nil ⟨_, ⟨rfl, k + 100, ps ++ ns.zip fs, by omega, ?_, fun p hp2 => ?_, rfl⟩, .eq (.eq (.eq (.eq (.no (.no (.no (.no (.eq (.eq (.eq .nil))))))))))⟩))
          · rw [flA, take_flat (ctb es) hk2]
            refine hp.append ((flat_zip ns fs lnf).trans ?_)
            have : ctb es r = (es.filter fun e => decide (e.2 = r.1)) ++ es.filter fun e => decide (e.2 = r.2) := (if_neg rne).trans (if_pos z2)
            rw [this, hfs]
            exact hpn.append_right _
          · rcases List.mem_append.1 hp2 with w | w
            · exact hs p w
            · obtain ⟨w1, w2⟩ := List.of_mem_zip (a := p.1) (b := p.2) w
              have m1 := of_decide_eq_true (List.mem_filter.1 (hpn.mem_iff.1 w1)).2
              rw [← hfs] at w2
              have m2 := of_decide_eq_true (List.mem_filter.1 w2).2
              rw [m1, m2]; exact rm
      · refine ab_nil (ab_nil (ab_nil ⟨_, ⟨rfl, k + 100, ps, by omega, ?_, hs, rfl⟩, .eq (.eq (.eq (.eq (.no (.no (.no (.eq (.eq (.eq (.eq .nil))))))))))⟩))
        rw [take_flat (ctb es) hk2]
        have : ctb es r = [] := (if_neg rne).trans (if_neg (by rw [z2]; exact Bool.false_ne_true))
        rw [this, List.append_nil]; exact hp
  · subst h1 h2
    rw [List.length_map, List.take_length] at hp
    rw [List.length_map] at hk
    have pl : ps.length ≤ 1000 := by
      have := psl (i := so.length) (by rw [List.take_length]; exact hp)
      omega
    refine ab_ret (nu_sorted (xs := ps.map fun p => joinedF p.1 p.2) hr B.sorted ((nu_mapN [("_law_pair", 10)] 10 ps En.e (fun p => En.e (joinedF p.1 p.2)) (pi_lst (pu_var 3 rfl)) (fun p hp s H C cl fp => pu_catT (ds := [.int ((minT p.1 p.2).1 : Int), .str (minT p.1 p.2).2]) (es := [.int ((maxT p.1 p.2).1 : Int), .str (maxT p.1 p.2).2]) (pu_minU (x := p.1) (y := p.2) hr B.min (pu_var 10 rfl)) (pu_maxU (x := p.1) (y := p.2) hr B.max (pu_var 10 rfl))) (hl := pl) (hN := hN)).pu.is (by rw [List.map_map]; rfl))).pu ⟨⟨so, es, ps, rfl, hp, hs, rfl⟩, k, rfl, by omega⟩
end
end R87
namespace R87
open PySem PySem.Spec PyProof.Rows L2
open PySem.W (Datum DatumOrd Tup T4 Holds HoldAll)
section
variable {X : Cx} {m : Addr → Prop} {τ : List Sl} {N : AE} {rest : List Stmt} {a b c e tg : Expr} {pos p p2 q2 tpos : Pos} {ds es : List D} {d : D} {n : Str}
theorem pu_sliceS {lo hi : Option Expr} {ol oh : Option Int} {p2 : Pos} {z : Str} (ha : Pu X a τ (.str z)) (hl : Po X lo τ ol) (hh : Po X hi τ oh) (hz : z.length ≤ 1000) : Pu X (.Subscript a (.Slice lo hi none p2) pos) τ (.str (cutS z ol oh)) := fun H0 G H σ ok Q q =>
  slice_run sl_str ha hl hh ok fun v G1 H1 g1 r1 => by
    cases r1
    exact ⟨z, rfl, Nat.le_trans hz (by decide), q _ G1 H1 g1 (.str _)⟩
theorem pu_neg {i : Int} (ha : Pu X a τ (.int i)) : Pu X (.UnaryOp .USub a pos) τ (.int (-i)) := fun H0 G H σ ok Q q =>
  We.of (pe_un un_neg pe_we) (ha H0 G H σ ok _ fun v G1 H1 g1 r1 => by
    cases r1
    exact ⟨i, rfl, q _ G1 H1 g1 (.int _)⟩)
/-- y = [elt for ..], elt drawing from the source at a (slot i), at most c times a turn -/
theorem abe_setLc (o : Nat) {y : Str} {py spos : Pos} {own : List (Str × Nat)} {elt iter : Expr} {scope : Scope} {Rn : List D → List Sl → Prop} {a0 : Addr} (i c : Nat) (P : D → Prop) (hi : Ei X m tg iter τ Rn)
    (ht : ∀ ds t, Rn ds t → ∃ k tb, ds.length ≤ 1000 ∧ t[i]? = some (Sl.sr a0 k) ∧ m a0 ∧ k + ds.length * c ≤ lineB ∧ NoOw tb ∧ (∀ k', Le (tb.set i (.sr a0 k')) (wipeS (t.set i (.sr a0 k')) (own.map (·.2)))) ∧ tb.length = t.length ∧
      (∀ d ∈ ds, ∃ τ1 is, (∀ k', Bk X scope fun Y => Tg Y tg d (tb.set i (.sr a0 k')) (τ1.set i (.sr a0 k')) is) ∧ NoOw τ1 ∧ (∀ j ∈ is, j ∈ own.map (·.2)) ∧ ∀ k', k' + c ≤ lineB → Bk X scope fun Y => Ef Y (fun b => b = a0) elt (τ1.set i (.sr a0 k')) fun v t' => P v ∧ ∃ k2, t'[i]? = some (Sl.sr a0 k2) ∧ k2 ≤ k' + c) ∧
      ∀ vs : List D, vs.length = ds.length → (∀ v ∈ vs, P v) → ∀ k2, k2 ≤ k + ds.length * c → AB X m rest ((t.set i (.sr a0 k2)).set o (.sh (.lst vs))) N)
    (ok : BlkOk X.N X.env.scope scope own) (hN : X.N.Nodup := by assumption) (hc : X.calm = true := by rfl) (hs : ∀ x, foldedSetIterable iter X.env x = pure x := by intro _; rfl) (hsw : swapsWith (.ListComp elt [⟨tg, iter, [], 0⟩] scope pos) (some (.Name y py)) spos.line X.env = pure true := by exact sw_true rfl rfl rfl rfl)
    (hy : X.N[o]? = some y := by rfl) (hyl : X.env.scope.names.lookup y = some .local := by rfl) : AB X m (.Assign [.Name y py] (.ListComp elt [⟨tg, iter, [], 0⟩] scope pos) spos :: rest) τ N := fun G0 H0 G H σ g k => by
  refine Wb.of (pss_cons (ps_setLc hc hN hy hyl hsw pi_wi ok (pg_gB (tg := tg)) (pts_tB (ifs := [])) pe_eB hs) pss_wb) ?_
  show tLc (Wi X tg iter) (gB X scope tg) (tB' X scope []) (eB X scope elt) (own.map (·.2)) σ H fun x H1 => Wb X rest (Cn m G0 H0 N) (σ.set o (some x)) H1
  refine hi G0 H0 G H σ g k _ fun J ds t G1 H1 g1 e1 k1 it hr => fun Dl hD => ?_
  obtain ⟨kk, tb, hl, hsr, hma, hB, hno, hle, htl, hturn, hend⟩ := ht ds t hr
  obtain ⟨s1, s2, s3⟩ := k1.sr i a0 kk hsr
  have ha0 : Dl ≠ a0 := fun z => s3.ne (by rw [← z]; exact hD)
  refine ⟨fun j mm H' => mm = ds.length - j ∧ j ≤ ds.length ∧ ∃ G' acc vs k', Gr (fun b => b = a0) G1 H1 G' H' ∧ G' Dl = none ∧ H' Dl = some (.lst acc) ∧ RpA G' acc vs ∧ vs.length = j ∧ (∀ v ∈ vs, P v) ∧ Sk a0 k' H' ∧ k' ≤ kk + j * c,
    ⟨_, rfl, Nat.zero_le _, G1, [], [], kk, .newO k1.ex hD, k1.ex.back hD, upd_same, .nil, rfl, (fun v hv => by cases hv), s3.ex (fun o z => by rw [upd_ne (Ne.symm ha0)]; exact z), by omega⟩, ?_⟩
  rintro j mm H2 ⟨rfl, hlj, G2, acc, vs, k2, g2, d2, a2, r2, l2, p2, sk2, hk2⟩
  by_cases hlt : j < ds.length
  · obtain ⟨d, hd⟩ : ∃ d, ds[j]? = some d := ⟨_, List.getElem?_eq_getElem hlt⟩
    obtain ⟨ga, gb⟩ := it.go j d G2 H2 hd g2.gg g2.gh
    refine .inr ⟨ga, fun H' => ∃ G' acc vs k', Gr (fun b => b = a0) G1 H1 G' H' ∧ G' Dl = none ∧ H' Dl = some (.lst acc) ∧ RpA G' acc vs ∧ vs.length = j + 1 ∧ (∀ v ∈ vs, P v) ∧ Sk a0 k' H' ∧ k' ≤ kk + (j + 1) * c, fun H' w => ⟨ds.length - (j + 1), by omega, rfl, hlt, w⟩, fun x H3 hx => ?_⟩
    obtain ⟨G3, g3, r3⟩ := gb x H3 hx
    obtain ⟨τ1, is, t1, n1, t2, t4⟩ := hturn d (List.mem_of_getElem? hd)
    have hmul : (j + 1) * c ≤ ds.length * c := Nat.mul_le_mul_right c hlt
    have ej : (j + 1) * c = j * c + c := Nat.succ_mul j c
    -- the frame's slots as they stand now
    obtain ⟨_, okd⟩ := k1.draw g1 hsr (.inl hma) g2 sk2
    have ok3 : Ok H1 G3 H3 (tb.set i (.sr a0 k2)) (L2.wipe σ (own.map (·.2))) := by
      refine (((okd.gr g3).wipe (own.map (·.2))).le (hle k2)).anew fun y es z => ?_
      rcases set_at z with ⟨_, z1, _⟩ | ⟨_, z⟩
      · cases z1
      · exact hno y es z
    have g13 : Gr (fun b => b = a0) G1 H1 G3 H3 := g2.trans g3.any
    have D3 : G3 Dl = none ∧ H3 Dl = some (.lst acc) := ⟨g3.fr Dl d2 (by rw [a2]; exact fun z => by cases z), g3.ex _ _ a2⟩
    intro s' H' C cl fp
    refine t1 k2 s' H' C cl fp H1 G3 H3 _ x ok3 r3 _ fun σ4 k4 l4 f4 => ⟨wipe_same l4 f4 t2, ?_⟩
    intro s'' H'' C' cl' fp'
    refine ptl_nil H1 G3 H3 σ4 k4 _ fun G5 H5 g5 => ?_
    rw [if_pos rfl]
    intro s6 H6 C6 cl6 fp6
    have g15 := g13.trans (g5.any (m := fun b => b = a0))
    refine t4 k2 (by omega) s6 H6 C6 cl6 fp6 G5 H5 G5 H5 σ4 (.refl g5.gh) ((k4.gr g5).anew fun y es z => ?_) _ fun u v t' G7 H7 g7 e7 k7 r7 ⟨pv, k3, e3, hk3⟩ => ?_
    · rcases set_at z with ⟨_, z1, _⟩ | ⟨_, z⟩
      · cases z1
      · exact n1 y es z
    have D5 : G5 Dl = none ∧ H5 Dl = some (.lst acc) := ⟨g5.fr Dl D3.1 (by rw [D3.2]; exact fun z => by cases z), g5.ex _ _ D3.2⟩
    have D7 : G7 Dl = none ∧ H7 Dl = some (.lst acc) := ⟨g7.fr Dl D5.1 (by rw [D5.2]; exact fun z => by cases z), g7.hh _ _ ha0 D5.2⟩
    have g17 := g15.trans g7
    obtain ⟨_, _, s7⟩ := k7.sr i a0 k3 e3
    have hlen : acc.length < sizeLine := by
      rw [r2.length, l2]
      exact Nat.lt_of_lt_of_le (show j < 1000 by omega) (by decide)
    refine ⟨acc, D7.2, hlen, G7, acc ++ [u], vs ++ [v], k3, ⟨g17.gg, fun z o n h => ?_, fun z o h => ?_, g17.fr, fun z h => ?_⟩, D7.1, upd_same, (r2.ex ((g3.gg.trans g5.gg).trans g7.gg)).append (.one r7), by rw [List.length_append, l2]; rfl, fun w hw => ?_, s7.ex fun o z => by rw [upd_ne (Ne.symm ha0)]; exact z, by omega⟩
    · rw [upd_ne (fun w => by rw [w, hD] at h; cases h)]; exact g17.hh z o n h
    · rw [upd_ne (fun w => by rw [w, D7.1] at h; cases h)]; exact g17.gh z o h
    · rw [upd_ne (fun w => h (by rw [w]; exact hD))]; exact g17.th z h
    · rcases List.mem_append.mp hw with w1 | w1
      · exact p2 w w1
      · rw [List.mem_singleton.mp w1]; exact pv
  · have e : j = ds.length := by omega
    subst e
    refine .inl ⟨it.stop G2 H2 g2.gg g2.gh, ?_⟩
    have nm : H1 Dl = none := hD
    have g4 : Gr (fun b => b = a0) G1 H1 (upd G2 Dl (.lst acc)) H2 := g2.known d2 nm a2
    obtain ⟨g5, ok5⟩ := k1.draw g1 hsr (.inl hma) g4 sk2
    exact hend vs l2 p2 k2 hk2 G0 H0 _ H2 _ g5 (ok5.setSh (.lst upd_same (r2.ex (.new d2))))
theorem ef_catS {R : D → List Sl → Prop} (h : Ef X m a τ fun x t => Ef X m b t fun y t2 => ∃ s u : Str, x = .str s ∧ y = .str u ∧ s.length + u.length ≤ 1000 ∧ R (.str (s ++ u)) t2) : Ef X m (.BinOp a .Add b pos) τ R :=
  ef_op op_add_str (h.mono fun x t h => h.mono fun y t2 ⟨s, u, e1, e2, hl, hz⟩ => ⟨.str (s ++ u), fun v w G H ex r1 r2 Q q => by
    subst e1 e2
    cases r1; cases r2
    exact ⟨s, u, rfl, rfl, sl1000 hl, q _ G H (.refl ex) (.str _)⟩, hz⟩)
end
theorem nd_map {α β : Type} {f : α → β} {xs : List α} (h : (xs.map f).Nodup) : xs.Nodup := by
  rw [List.Nodup, List.pairwise_map] at h
  exact h.imp fun n e => n (by rw [e])
theorem map_nd {α β : Type} {f : α → β} (hf : ∀ a b, f a = f b → a = b) {xs : List α} (h : xs.Nodup) : (xs.map f).Nodup := by
  rw [List.Nodup, List.pairwise_map]
  exact h.imp fun n e => n (hf _ _ e)
end R87
namespace R87
open PySem PySem.Spec PyProof.Rows L2
open PySem.W (Tup T4 T3 DatumOrd Datum)
/-- a name, by a test -/
def nmB (z : Str) : Bool := decide (1 ≤ z.length) && decide (z.length ≤ 8) && z.cps.toList.all fun c => decide (c ∈ letters.cps.toList)
theorem nm_by {z : Str} (h : nmB z = true) : Nm z := by
  unfold nmB at h
  simp only [Bool.and_eq_true, decide_eq_true_eq, List.all_eq_true] at h
  exact ⟨h.1.1, h.1.2, h.2⟩
def someN : List Str := ["a", "ab", "leg", "b", "sort", "abc", "join", "zzzzzzzz", "ba", "kind"]
theorem someN_nm : ∀ z ∈ someN, Nm z := by
  have h : someN.all nmB = true := by decide +kernel
  exact fun z hz => nm_by (List.all_eq_true.1 h z hz)
theorem someN_nd : someN.Nodup := by decide +kernel
def lastL : Str := "mkxqwt"
theorem lastL_nd : lastL.cps.toList.Nodup := by decide +kernel
theorem lastL_al : ∀ c ∈ lastL.cps.toList, c ∈ letters.cps.toList := by
  have h : lastL.cps.toList.all (fun c => decide (c ∈ letters.cps.toList)) = true := by decide +kernel
  exact fun c hc => of_decide_eq_true (List.all_eq_true.1 h c hc)
/-- a word grows -/
structure Wrd (z : Str) (n : Nat) : Prop where
  l : z.length ≤ n
  al : ∀ c ∈ z.cps.toList, c ∈ letters.cps.toList
theorem cps_cat (x y : Str) : (x ++ y).cps.toList = x.cps.toList ++ y.cps.toList := by
  show (x.cps ++ y.cps).toList = _
  rw [Array.toList_append]
theorem len_cat (x y : Str) : (x ++ y).length = x.length + y.length := by
  show (x.cps ++ y.cps).size = _
  rw [Array.size_append]; rfl
theorem Wrd.nil : Wrd (⟨#[]⟩ : Str) 0 := ⟨Nat.le_refl _, fun c hc => by cases hc⟩
theorem Wrd.put {z : Str} {n c : Nat} (h : Wrd z n) (hc : c ∈ letters.cps.toList) : Wrd (z ++ ⟨#[c]⟩) (n + 1) := by
  refine ⟨?_, fun x hx => ?_⟩
  · rw [len_cat]
    show _ + 1 ≤ _
    have := h.l
    omega
  · rw [cps_cat] at hx
    rcases List.mem_append.1 hx with w | w
    · exact h.al x w
    · rw [List.mem_singleton.1 w]; exact hc
theorem Wrd.nm {z : Str} {c : Nat} (h : Wrd z 7) (hc : c ∈ letters.cps.toList) : Nm (z ++ ⟨#[c]⟩) := by
  have k := h.put hc
  refine ⟨?_, k.l, k.al⟩
  rw [len_cat]
  exact Nat.le_add_left 1 _
theorem last_cat (z : Str) (c : Nat) : (z ++ (⟨#[c]⟩ : Str)).cps.toList.getLast? = some c := by
  rw [cps_cat]
  show (_ ++ [c]).getLast? = _
  rw [List.getLast?_append]; rfl
end R87
namespace R87
open PySem PySem.Spec PyProof.Rows L2
open PySem.W (Tup T4 T3 DatumOrd Datum)
section
variable {P : Program} {w : World} {K : PySem.W.Frag} {mg : Str → Option Value} {base : Heap}
def p_names (ds : List D) : Prop := ∃ many : Nat, ds = [.int (many : Int)] ∧ many ≤ 6
def r_names' (ds : List D) (d : D) : Prop := ∃ (many : Nat) (ns : List Str), ds = [.int (many : Int)] ∧ ns.length = many ∧ ns.Nodup ∧ (∀ z ∈ ns, Nm z) ∧ d = .lst (ns.map En.e)
abbrev nN : List Str := ["_law_source", "_law_many", "_law_some", "_law_at", "_law_found", "_law_last", "_law_word", "_law_k"]
theorem ok_law_names (B : Bf mg) (c1 : Cal P w K mg base CX0 1 "_law_next" sp_next) (c2 : Cal P w K mg base CX0 2 "_law_one" (spZ 1 p_one r_one)) {f : Addr} {fd : FuncData} (F : Fun K "_law_names" "_law_names" s_law_names f fd) : FnOk P w K mg base CX0 3 f fd ["_law_source", "_law_many"] (spZ 60 p_names r_names') := by
  have hN : (nN).Nodup := by decide
  refine fun_draw F (N := nN) (C8.fnScope_by (by decide +kernel)) (fun ds ⟨_, e, _⟩ => by rw [e]; rfl) fun cdv A outer s H E a k0 ds hr ⟨many, e, m6⟩ hl => ?_
  subst e
  have hl' : k0 + 60 ≤ 1000000 := hl
  have toN : ∀ {es : List D} {k : Nat}, [D.int (es.length : Int)] = [D.int (k : Int)] → es.length = k := fun {es k} h => by
    have := (List.cons.inj h).1
    injection this with this
    omega
  have toN2 : ∀ {j k : Nat}, [D.int (j : Int)] = [D.int (k : Int)] → j = k := fun {j k} h => by
    have := (List.cons.inj h).1
    injection this with this
    omega
  refine ab_set 2 (d := .lst (someN.map En.e)) ((nu_lst (pas_cons pu_str (pas_cons pu_str (pas_cons pu_str (pas_cons pu_str (pas_cons pu_str (pas_cons pu_str (pas_cons pu_str (pas_cons pu_str (pas_cons pu_str (pas_cons pu_str pas_nil)))))))))) (show 10 ≤ 1000 by decide)).pu.is rfl) ?_ hN
  refine abe_set 3 (ef_draw 0 c1 hr ⟨_, _, rfl⟩ (ea_pa (pas_cons pu_int pas_nil) ⟨⟨10, rfl, by decide, by decide⟩, a, k0, rfl, rfl, (by show _ ≤ 1000000; omega), fun d hR => ?_⟩))
  obtain ⟨_, at_, e1, hat, rfl⟩ := hR
  obtain rfl := toN2 (j := 10) e1
  refine abe_if (et_cmp (op_eqT (α := Nat) hr) (ef_draw 0 c1 hr ⟨_, _, rfl⟩ (ea_pa (pas_cons pu_int pas_nil) ⟨⟨2, rfl, by decide, by decide⟩, a, k0 + 1, rfl, rfl, (by show _ ≤ 1000000; omega), fun d hR => ?_⟩)))
  obtain ⟨_, r2, e1, hr2, rfl⟩ := hR
  refine ef_pu pu_int ⟨_, d_eq (α := Nat) (x := r2) (y := 0), fun _ => ?_, fun _ => ?_⟩
  · refine ab_ret (d := .lst (((someN.drop at_ ++ someN.take at_).take many).map En.e)) ((nu_slice (nu_cat (nu_slice (pu_var 2 rfl) (po_s (pu_var 3 rfl)) po_n).pu (nu_slice (pu_var 2 rfl) po_n (po_s (pu_var 3 rfl))).pu ?_).pu po_n (po_s (pu_var 1 rfl))).pu.is ?_) ⟨⟨many, _, rfl, ?_, ?_, fun z hz => ?_, rfl⟩, k0 + 1 + 1, rfl, by omega⟩
    · rw [cut_drop, cut_take, List.length_drop, List.length_take, List.length_map]
      show 10 - at_ + min at_ 10 ≤ 1000
      omega
    · rw [cut_take, cut_drop, cut_take, List.map_take, List.map_append, List.map_drop, List.map_take]
    · rw [List.length_take, List.length_append, List.length_drop, List.length_take]
      show min many (10 - at_ + min at_ 10) = many
      omega
    · refine (List.Perm.nodup_iff (List.perm_append_comm.trans (List.Perm.of_eq (List.take_append_drop at_ someN)))).2 someN_nd |>.sublist (List.take_sublist _ _)
    · have h1 := (List.take_sublist _ _).subset hz
      refine someN_nm z ?_
      rcases List.mem_append.1 h1 with w | w
      · exact (List.drop_sublist _ _).subset w
      · exact (List.take_sublist _ _).subset w
  · refine ab_nil ?_
    refine ab_setO 4 (nu_lst pas_nil) ?_ hN
    let chs : List Nat := lastL.cps.toList.take many
    refine abe_for (Rn := fun ds t => ds = chs.map (fun c => D.str ⟨#[c]⟩) ∧ t = [.sr a (k0 + 1 + 1), .sh (.int (many : Int)), .sh (.lst (someN.map En.e)), .sh (.int (at_ : Int)), .ow [], .no, .no, .no])
      (fun ds i t => ds = chs.map (fun c => D.str ⟨#[c]⟩) ∧ ∃ (k : Nat) (fs : List Str), k ≤ k0 + 2 + 9 * i ∧ fs.length = i ∧ (∀ z ∈ fs, Nm z) ∧ fs.map (fun z => z.cps.toList.getLast?) = (chs.take i).map some ∧ t = [.sr a k, .sh (.int (many : Int)), .sh (.lst (someN.map En.e)), .sh (.int (at_ : Int)), .ow (fs.map En.e), .no, .no, .no])
      PassesOwn.never (ei_pi ((pi_strD (pu_sliceS (pu_str (i := lastL)) po_n (po_s (pu_var 1 rfl)) (by decide))).is ?_) ⟨rfl, rfl⟩) (fun ds t ⟨h1, h2⟩ => ⟨h1, k0 + 2, [], by omega, rfl, (fun _ h => by cases h), rfl, h2⟩) (fun ds i d t ⟨h1, k, fs, hk, hfl, hfn, hfs, h2⟩ hd => ?_) (fun ds t ⟨h1, k, fs, hk, hfl, hfn, hfs, h2⟩ => ?_)
    · have e : (cutS lastL none (some (many : Int))).cps.toList = chs := by
        show (((lastL.cps.toList.drop _).take _).toArray).toList = _
        rw [sIx_nat]
        show (lastL.cps.toList.drop 0).take (min many 6 - 0) = _
        rw [List.drop_zero, Nat.sub_zero, Nat.min_eq_left m6]
      rw [e]
    · subst h1 h2
      rw [List.getElem?_map] at hd
      obtain ⟨c, hc, rfl⟩ := Option.map_eq_some_iff.1 hd
      have il := (List.getElem?_eq_some_iff.1 hc).1
      have i6 : i < 6 := Nat.lt_of_lt_of_le il (by show (lastL.cps.toList.take many).length ≤ 6; rw [List.length_take]; exact Nat.le_trans (Nat.min_le_left _ _) m6)
      have cm : c ∈ letters.cps.toList := lastL_al c ((List.take_sublist _ _).subset (List.mem_of_getElem? hc))
      refine ⟨_, _, tg_name 5 hN, ?_⟩
      refine ab_set 6 (pu_str (i := (⟨#[]⟩ : Str))) ?_ hN
      refine abe_for (Rn := fun ds t => ∃ n k', n ≤ 7 ∧ k' ≤ k + 2 ∧ ds = (List.range n).map (fun (i : Nat) => D.int (i : Int)) ∧ t = [.sr a k', .sh (.int (many : Int)), .sh (.lst (someN.map En.e)), .sh (.int (at_ : Int)), .ow (fs.map En.e), .sh (.str ⟨#[c]⟩), .sh (.str ⟨#[]⟩), .no])
        (fun ds j t => ∃ n k', n ≤ 7 ∧ k' ≤ k + 2 + j ∧ ds = (List.range n).map (fun (i : Nat) => D.int (i : Int)) ∧ ∃ z : Str, Wrd z j ∧ t = [.sr a k', .sh (.int (many : Int)), .sh (.lst (someN.map En.e)), .sh (.int (at_ : Int)), .ow (fs.map En.e), .sh (.str ⟨#[c]⟩), .sh (.str z), .no])
        PassesOwn.never (ei_rng B.range (ef_draw 0 c2 hr ⟨_, _, rfl⟩ (ea_cons (ef_lst (ea_cons (ef_pu pu_int (ea_cons (ef_pu pu_int (ea_cons (ef_draw 0 c1 hr ⟨_, _, rfl⟩ (ea_pa (pas_cons pu_int pas_nil) ⟨⟨8, rfl, by decide, by decide⟩, a, k, rfl, rfl, (by show _ ≤ 1000000; omega), fun d hR => ?_⟩)))))))))))
        (fun ds t ⟨n, k', h1, h2, h3, h4⟩ => ⟨n, k', h1, by omega, h3, _, .nil, h4⟩) (fun ds j d t ⟨n, k', h1, h2, h3, z, hz, h4⟩ hd => ?_) (fun ds t ⟨n, k', h1, h2, h3, z, hz, h4⟩ => ?_)
      · obtain ⟨_, r8, e1, hr8, rfl⟩ := hR
        have h8 := toN2 (j := 8) e1
        refine ea_nil ⟨(show 3 ≤ 1000 by decide), ea_nil ⟨⟨_, rfl, (show 1 ≤ 3 by decide), (show 3 ≤ 1000 by decide)⟩, a, k + 1, rfl, rfl, (by show _ ≤ 1000000; omega), fun d hR => ?_⟩⟩
        obtain ⟨es, ix, e1, hix⟩ := hR
        have e1 := (List.cons.inj e1).1
        injection e1 with e1
        subst e1
        have key : ∃ n : Nat, d = .int (n : Int) ∧ n ≤ 7 := by
          match ix, hix with
          | 0, hix => cases hix; exact ⟨0, rfl, by omega⟩
          | 1, hix => cases hix; exact ⟨1, rfl, by omega⟩
          | 2, hix => cases hix; exact ⟨r8, rfl, by omega⟩
        obtain ⟨n, rfl, h7⟩ := key
        exact ⟨n, rfl, by omega, n, k + 1 + 1, h7, by omega, rfl, rfl⟩
      · subst h3 h4
        rw [List.getElem?_map] at hd
        obtain ⟨j', hj, rfl⟩ := Option.map_eq_some_iff.1 hd
        have jl := (List.getElem?_eq_some_iff.1 hj).1
        rw [List.length_range] at jl
        refine ⟨_, _, tg_name 7 hN, ?_⟩
        refine abe_set 6 (ef_catS (ef_pu (pu_var 6 rfl) (ef_ixS (ef_pu (pu_str (i := letters)) (ef_draw 0 c1 hr ⟨_, _, rfl⟩ (ea_pa (pas_cons pu_int pas_nil) ⟨⟨26, rfl, by decide, by decide⟩, a, k', rfl, rfl, (by show _ ≤ 1000000; omega), fun d hR => ?_⟩))))))
        obtain ⟨_, r, e1, hr1, rfl⟩ := hR
        obtain rfl := toN2 (j := 26) e1
        have hx : letters.cps.toList[r]? = some (letters.cps.toList[r]'hr1) := List.getElem?_eq_getElem _
        refine ⟨letters, r, _, rfl, (show 26 ≤ 1000 by decide), rfl, hx, z, _, rfl, rfl, ?_, ab_nil ⟨_, ⟨n, k' + 1, h1, by omega, rfl, _, hz.put (List.getElem_mem _), rfl⟩, .eq (.eq (.eq (.eq (.eq (.eq (.eq (.no .nil)))))))⟩⟩
        have := hz.l
        show z.length + 1 ≤ 1000
        omega
      · subst h3 h4
        rw [List.length_map, List.length_range] at hz h2
        have hz7 : Wrd z 7 := ⟨Nat.le_trans hz.l h1, hz.al⟩
        refine ab_append 4 rfl (pu_catS (pu_var 6 rfl) (pu_var 5 rfl) ?_) (ab_nil ⟨_, ⟨rfl, k', fs ++ [z ++ ⟨#[c]⟩], by omega, ?_, fun y hy => ?_, ?_, rfl⟩, ?_⟩) ?_
        · have := hz7.l
          show z.length + 1 ≤ 1000
          omega
        · rw [List.length_append, hfl]; rfl
        · rcases List.mem_append.1 hy with w | w
          · exact hfn y w
          · rw [List.mem_singleton.1 w]; exact hz7.nm cm
        · rw [List.map_append, hfs, take_mapS some hc]
          exact congrArg (fun x => (chs.take i).map some ++ [x]) (last_cat z c)
        · show Le [_, _, _, _, _, _, _, _] [_, _, _, _, Sl.ow (fs.map En.e ++ [En.e (z ++ (⟨#[c]⟩ : Str))]), _, _, _]
          rw [List.map_append]
          exact .eq (.eq (.eq (.eq (.eq (.no (.no (.no .nil)))))))
        · rw [List.length_map]; omega
    · subst h1 h2
      rw [List.length_map] at hfl hfs hk
      have cl : chs.length = many := by
        show (lastL.cps.toList.take many).length = many
        rw [List.length_take]
        show min many 6 = many
        omega
      rw [List.take_length] at hfs
      refine ab_share 4 rfl (ab_ret (pu_var 4 rfl) ⟨⟨many, fs, rfl, by rw [hfl, cl], ?_, hfn, rfl⟩, k, rfl, by omega⟩)
      have h1 : ((chs.map some)).Nodup := by
        exact map_nd (fun a b e => Option.some.inj e) (lastL_nd.sublist (List.take_sublist _ _))
      rw [← hfs] at h1
      exact nd_map h1
end
end R87
namespace R87
open PySem PySem.Spec PyProof.Rows L2
open PySem.W (Tup T4 T3 DatumOrd Datum)
def owB : Sl → Bool
  | .ow _ => false
  | _ => true
theorem noOw_by {τ : List Sl} (h : τ.all owB = true) : NoOw τ := fun i ds e => by
  have := List.all_eq_true.1 h _ (List.mem_of_getElem? e)
  cases this
theorem toN {j k : Nat} (h : [D.int (j : Int)] = [D.int (k : Int)]) : j = k := by
  have := (List.cons.inj h).1
  injection this with this
  omega
theorem toL {es fs : List D} (h : [D.lst es] = [D.lst fs]) : es = fs := by
  have := (List.cons.inj h).1
  injection this
/-- data of a kind, as a list -/
theorem strs_of {Q : Str → Prop} : ∀ {vs : List D}, (∀ v ∈ vs, ∃ s : Str, v = .str s ∧ Q s) → ∃ es : List Str, vs = es.map En.e ∧ ∀ e ∈ es, Q e
  | [], _ => ⟨[], rfl, fun _ h => by cases h⟩
  | v :: vs, h => by
    obtain ⟨s, rfl, hs⟩ := h v (.head _)
    obtain ⟨es, rfl, he⟩ := strs_of fun w hw => h w (.tail _ hw)
    refine ⟨s :: es, rfl, fun e hm => ?_⟩
    rcases List.mem_cons.1 hm with z | z
    · rw [z]; exact hs
    · exact he e z
def sortsL (x y z : Str) : List Srts := [[(x, x)], [(x, y), (y, x)], [(x, x), (y, z), (z, y)], [(x, x), (y, y)]]
theorem sortsL_ok {x y z : Str} (nd : [x, y, z].Nodup) (h : ∀ s ∈ [x, y, z], Nm s) : ∀ so ∈ sortsL x y z, VSo so := by
  have nx := h x (by simp)
  have ny := h y (by simp)
  have nz := h z (by simp)
  have d : x ≠ y ∧ x ≠ z ∧ y ≠ z := by simpa [and_assoc] using nd
  obtain ⟨d1, d2, d3⟩ := d
  intro so hso
  have hso : so = [(x, x)] ∨ so = [(x, y), (y, x)] ∨ so = [(x, x), (y, z), (z, y)] ∨ so = [(x, x), (y, y)] := by simpa [sortsL] using hso
  rcases hso with rfl | rfl | rfl | rfl
  · exact ⟨by simp, by simp, fun p hp => by rw [List.mem_singleton.1 hp]; exact ⟨nx, nx⟩, by simp, fun p hp => by rw [List.mem_singleton.1 hp]; simp⟩
  · refine ⟨by simp, by simp, fun p hp => ?_, by simpa using d1, fun p hp => ?_⟩
    · have hp : p = (x, y) ∨ p = (y, x) := by simpa using hp
      rcases hp with rfl | rfl
      · exact ⟨nx, ny⟩
      · exact ⟨ny, nx⟩
    · have hp : p = (x, y) ∨ p = (y, x) := by simpa using hp
      rcases hp with rfl | rfl <;> simp
  · refine ⟨by simp, by simp, fun p hp => ?_, by simp [d1, d2, d3], fun p hp => ?_⟩
    · have hp : p = (x, x) ∨ p = (y, z) ∨ p = (z, y) := by simpa using hp
      rcases hp with rfl | rfl | rfl
      · exact ⟨nx, nx⟩
      · exact ⟨ny, nz⟩
      · exact ⟨nz, ny⟩
    · have hp : p = (x, x) ∨ p = (y, z) ∨ p = (z, y) := by simpa using hp
      rcases hp with rfl | rfl | rfl <;> simp
  · refine ⟨by simp, by simp, fun p hp => ?_, by simpa using d1, fun p hp => ?_⟩
    · have hp : p = (x, x) ∨ p = (y, y) := by simpa using hp
      rcases hp with rfl | rfl
      · exact ⟨nx, nx⟩
      · exact ⟨ny, ny⟩
    · have hp : p = (x, x) ∨ p = (y, y) := by simpa using hp
      rcases hp with rfl | rfl <;> simp
theorem VSo.rev {so : Srts} (h : VSo so) : VSo so.reverse := by
  refine ⟨by rw [List.length_reverse]; exact h.l1, by rw [List.length_reverse]; exact h.l3, fun p hp => h.nm p (List.mem_reverse.1 hp), ?_, fun p hp => List.mem_reverse.2 (h.sy p (List.mem_reverse.1 hp))⟩
  rw [List.map_reverse]
  exact (List.reverse_perm _).nodup_iff.2 h.nd
section
variable {P : Program} {w : World} {K : PySem.W.Frag} {mg : Str → Option Value} {base : Heap}
def p_stock (ds : List D) : Prop := ds = [.int 4]
def r_stock (ds : List D) (d : D) : Prop := ∃ (so : Srts) (kd : Knds), VS so kd ∧ d = .tup [sosD so, kdsD kd]
theorem ok_law_stock (B : Bf mg) (c1 : Cal P w K mg base CX0 1 "_law_next" sp_next) (c2 : Cal P w K mg base CX0 2 "_law_one" (spZ 1 p_one r_one)) (c3 : Cal P w K mg base CX0 3 "_law_names" (spZ 60 p_names r_names')) {f : Addr} {fd : FuncData} (F : Fun K "_law_stock" "_law_stock" s_law_stock f fd) : FnOk P w K mg base CX0 4 f fd ["_law_source", "_law_most"] (spZ 150 p_stock r_stock) := by
  have hN : (["_law_source", "_law_most", "_law_names_here", "_law_way", "_law_one_here", "_law_two", "_law_three", "_law_sorts", "_law_kinds", "_law_name", "_law_ends_here", "_law_k"] : List Str).Nodup := by decide
  refine fun_draw F (N := ["_law_source", "_law_most", "_law_names_here", "_law_way", "_law_one_here", "_law_two", "_law_three", "_law_sorts", "_law_kinds", "_law_name", "_law_ends_here", "_law_k"]) (C8.fnScope_by (by decide +kernel)) (fun ds e => by rw [show ds = [.int 4] from e]; rfl) fun cdv A outer s H E a k0 ds hr e hl => ?_
  obtain rfl : ds = [.int 4] := e
  have hl' : k0 + 150 ≤ 1000000 := hl
  refine abe_set 2 (ef_draw 0 c3 hr ⟨_, _, rfl⟩ (ea_pa (pas_cons pu_int pas_nil) ⟨⟨3, rfl, by decide⟩, a, k0, rfl, rfl, (by show _ ≤ 1000000; omega), fun d hR => ?_⟩))
  obtain ⟨_, ns, e1, nl, nnd, nnm, rfl⟩ := hR
  have e1 := toN (j := 3) e1
  rw [← e1] at nl
  refine abe_set 3 (ef_draw 0 c1 hr ⟨_, _, rfl⟩ (ea_pa (pas_cons pu_int pas_nil) ⟨⟨5, rfl, by decide, by decide⟩, a, k0 + 60, rfl, rfl, (by show _ ≤ 1000000; omega), fun d hR => ?_⟩))
  obtain ⟨_, way, e2, hway, rfl⟩ := hR
  have e2 := toN (j := 5) e2
  rw [← e2] at hway
  match ns, nl with
  | [x, y, z], _ =>
  refine ab_unpack (pu_var 2 rfl) (tg_lst (ds := [.str x, .str y, .str z]) (tgs_cons (tg_name 4 hN) (tgs_cons (tg_name 5 hN) (tgs_cons (tg_name 6 hN) tgs_nil)))) ?_
  have tp : ∀ {X : Cx} {τ : List Sl} {a b : Expr} {k : Nat} {q : Pos} {s t : Str}, Pu X a τ (.str s) → Pu X b τ (.str t) → noStar a = true → noStar b = true → Pu X (.Tuple [a, b] k q) τ (En.e (s, t)) := fun ha hb h1 h2 => pu_tup (pas_cons ha (pas_cons hb pas_nil h2) h1)
  refine ab_set 7 (d := .lst ((sortsL x y z).map fun so => sosD so)) (nu_lst (ds := (sortsL x y z).map fun so => sosD so) (pas_cons (nu_lst (pas_cons (tp (pu_var 4 rfl) (pu_var 4 rfl) rfl rfl) pas_nil) (show 1 ≤ 1000 by decide)).pu (pas_cons (nu_lst (pas_cons (tp (pu_var 4 rfl) (pu_var 5 rfl) rfl rfl) (pas_cons (tp (pu_var 5 rfl) (pu_var 4 rfl) rfl rfl) pas_nil)) (show 2 ≤ 1000 by decide)).pu (pas_cons (nu_lst (pas_cons (tp (pu_var 4 rfl) (pu_var 4 rfl) rfl rfl) (pas_cons (tp (pu_var 5 rfl) (pu_var 6 rfl) rfl rfl) (pas_cons (tp (pu_var 6 rfl) (pu_var 5 rfl) rfl rfl) pas_nil))) (show 3 ≤ 1000 by decide)).pu (pas_cons (nu_lst (pas_cons (tp (pu_var 4 rfl) (pu_var 4 rfl) rfl rfl) (pas_cons (tp (pu_var 5 rfl) (pu_var 5 rfl) rfl rfl) pas_nil)) (show 2 ≤ 1000 by decide)).pu pas_nil)))) (show 4 ≤ 1000 by decide)).pu ?_ hN
  have hw4 : way < (sortsL x y z ++ (sortsL x y z).take 1).length := hway
  obtain ⟨so, hso⟩ : ∃ so, (sortsL x y z ++ (sortsL x y z).take 1)[way]? = some so := ⟨_, List.getElem?_eq_getElem hw4⟩
  have Vso : VSo so := by
    refine sortsL_ok nnd nnm so ?_
    rcases List.mem_append.1 (List.mem_of_getElem? hso) with w | w
    · exact w
    · exact (List.take_sublist _ _).subset w
  refine ab_set 7 (d := sosD so) (pu_ixL (k := way) (nu_cat (pu_var 7 rfl) (nu_slice (pu_var 7 rfl) po_n (po_s pu_int)).pu ?_).pu (pu_var 3 rfl) ?_) ?_ hN
  · rw [show (1 : Int) = ((1 : Nat) : Int) from rfl, cut_take]; exact (show 4 + 1 ≤ 1000 by decide)
  · rw [show (1 : Int) = ((1 : Nat) : Int) from rfl, cut_take, ← List.map_take, ← List.map_append, List.getElem?_map, hso]; rfl
  have key : ∀ (so : Srts) (k : Nat), VSo so → k ≤ k0 + 62 → AB (cxOf CX0 P w K mg base ["_law_source", "_law_most", "_law_names_here", "_law_way", "_law_one_here", "_law_two", "_law_three", "_law_sorts", "_law_kinds", "_law_name", "_law_ends_here", "_law_k"] "_law_stock" (defScope s_law_stock) f cdv A outer s H E).nox (fun b => b = a) ((defBody s_law_stock).drop 6)
      [.sr a k, .sh (.int 4), .no, .no, .no, .no, .no, .sh (sosD so), .no, .no, .no, .no] { nx := fun _ => False, rt := fun e t => r_stock [.int 4] e ∧ ∃ k', t[0]? = some (Sl.sr a k') ∧ k' ≤ k0 + 150 } := by
    intro so k Vso hk
    have sl : (so.map (En.e (α := Str × Str))).length = so.length := List.length_map ..
    have s1 := Vso.l1
    have s3 := Vso.l3
    refine ab_setO 8 (nu_lst pas_nil) ?_ hN
    refine abe_for (Rn := fun ds t => ∃ (ns : List Str) (k' : Nat), ns.length ≤ 3 ∧ 1 ≤ ns.length ∧ ns.Nodup ∧ (∀ z ∈ ns, Nm z) ∧ ds = ns.map En.e ∧ k' ≤ k0 + 123 ∧ t = [.sr a k', .sh (.int 4), .no, .no, .no, .no, .no, .sh (sosD so), .ow [], .no, .no, .no])
      (fun ds i t => ∃ (ns : List Str) (k' : Nat) (ks : Knds), ns.length ≤ 3 ∧ 1 ≤ ns.length ∧ ns.Nodup ∧ (∀ z ∈ ns, Nm z) ∧ ds = ns.map En.e ∧ k' ≤ k0 + 123 + 7 * i ∧ (∀ q ∈ ks, VKd so q) ∧ ks.map (·.1) = ns.take i ∧ t = [.sr a k', .sh (.int 4), .no, .no, .no, .no, .no, .sh (sosD so), .ow (ks.map En.e), .no, .no, .no])
      PassesOwn.never (ei_lst (ef_draw 0 c3 hr ⟨_, _, rfl⟩ (ea_cons (ef_op op_add (ef_pu pu_int (ef_draw 0 c1 hr ⟨_, _, rfl⟩ (ea_pa (pas_cons pu_int pas_nil) ⟨⟨3, rfl, by decide, by decide⟩, a, k, rfl, rfl, (by show _ ≤ 1000000; omega), fun d hR => ?_⟩)))))))
      (fun ds t ⟨ns, k', h1, h2, h3, h4, h5, h6, h7⟩ => ⟨ns, k', [], h1, h2, h3, h4, h5, by omega, (fun _ h => by cases h), rfl, h7⟩) (fun ds i d t ⟨ns, k', ks, h1, h2, h3, h4, h5, h6, h7, h8, h9⟩ hd => ?_) (fun ds t ⟨ns, k', ks, h1, h2, h3, h4, h5, h6, h7, h8, h9⟩ => ?_)
    · obtain ⟨_, r3, e3, hr3, rfl⟩ := hR
      have e3 := toN (j := 3) e3
      rw [← e3] at hr3
      refine ⟨.int ((1 + r3 : Nat) : Int), (by rw [Int.natCast_add]; exact d_I0), ea_nil ⟨⟨1 + r3, rfl, by omega⟩, a, k + 1, rfl, rfl, (by show _ ≤ 1000000; omega), fun d hR => ?_⟩⟩
      obtain ⟨_, ns, e4, nl, nnd, nnm, rfl⟩ := hR
      have e4 := toN e4
      exact ⟨_, rfl, ns, k + 1 + 60, by omega, by omega, nnd, nnm, rfl, by omega, rfl⟩
    · subst h5 h9
      rw [List.getElem?_map] at hd
      obtain ⟨nm, hnm, rfl⟩ := Option.map_eq_some_iff.1 hd
      have il := (List.getElem?_eq_some_iff.1 hnm).1
      have kl : ks.length = i := by
        have := congrArg List.length h8
        rw [List.length_map, List.length_take] at this
        omega
      refine ⟨_, _, tg_name 9 hN, ?_⟩
      refine abe_setLc 10 (own := [("_law_k", 11)]) (a0 := a) 0 1 (fun v => ∃ s : Str, v = .str s ∧ s ∈ so.map (·.1))
        (Rn := fun ds t => ∃ n k2, 1 ≤ n ∧ n ≤ 5 ∧ k2 ≤ k' + 2 ∧ ds = (List.range n).map (fun (i : Nat) => D.int (i : Int)) ∧ t = [.sr a k2, .sh (.int 4), .no, .no, .no, .no, .no, .sh (sosD so), .ow (ks.map En.e), .sh (En.e nm), .no, .no])
        (ei_rng B.range (ef_draw 0 c2 hr ⟨_, _, rfl⟩ (ea_cons (ef_lst (ea_cons (ef_op op_add (ef_pu pu_int (ef_draw 0 c1 hr ⟨_, _, rfl⟩ (ea_pa (pas_cons (pu_var 1 rfl) pas_nil) ⟨⟨4, rfl, by decide, by decide⟩, a, k', rfl, rfl, (by show _ ≤ 1000000; omega), fun d hR => ?_⟩)))))))))
        (fun ds t ⟨n, k2, n1, n5, hk2, h10, h11⟩ => ?_) (blk_by (by kernel_rfl)) hN
      · obtain ⟨_, r4, e4, hr4, rfl⟩ := hR
        have e4 := toN (j := 4) e4
        rw [← e4] at hr4
        refine ⟨.int ((1 + r4 : Nat) : Int), (by rw [Int.natCast_add]; exact d_I0), ea_cons (ef_pu (pu_var 1 rfl) (ea_cons (ef_pu pu_int (ea_nil ⟨(show 3 ≤ 1000 by decide), ea_nil ⟨⟨_, rfl, (show 1 ≤ 3 by decide), (show 3 ≤ 1000 by decide)⟩, a, k' + 1, rfl, rfl, (by show _ ≤ 1000000; omega), fun d hR => ?_⟩⟩))))⟩
        obtain ⟨es, ix, e5, hix⟩ := hR
        have e5 := toL e5
        subst e5
        have kk : ∃ n : Nat, d = .int (n : Int) ∧ 1 ≤ n ∧ n ≤ 5 := by
          match ix, hix with
          | 0, hix => cases hix; exact ⟨1 + r4, rfl, by omega, by omega⟩
          | 1, hix => cases hix; exact ⟨4, rfl, by omega, by omega⟩
          | 2, hix => cases hix; exact ⟨3, rfl, by omega, by omega⟩
        obtain ⟨n, rfl, n1, n5⟩ := kk
        exact ⟨n, rfl, by omega, n, k' + 1 + 1, n1, n5, by omega, rfl, rfl⟩
      · subst h10 h11
        rw [List.length_map, List.length_range]
        refine ⟨k2, [.no, .sh (.int 4), .no, .no, .no, .no, .no, .sh (sosD so), .no, .no, .no, .no], by omega, rfl, rfl, (by show _ ≤ 1000000; omega), noOw_by rfl, fun k3 => .eq (.eq (.no (.no (.no (.no (.no (.eq (.no (.no (.no (.no .nil))))))))))), rfl, fun d hd => ?_, fun vs hvl hvs k3 hk3 => ?_⟩
        · obtain ⟨j, hj, rfl⟩ := List.mem_map.1 hd
          refine ⟨[.no, .sh (.int 4), .no, .no, .no, .no, .no, .sh (sosD so), .no, .no, .no, .sh (.int (j : Int))], [11], fun k3 s H C cl fp => tg_name 11 hN, noOw_by rfl, fun j hj => by rw [List.mem_singleton.1 hj]; exact List.mem_singleton.2 rfl, fun k3 hk3 s H C cl fp => ?_⟩
          have hk3 : k3 + 1 ≤ 1000000 := hk3
          refine ef_ixT (ef_draw 0 c2 hr ⟨_, _, rfl⟩ (ea_pa (pas_cons (pu_var 7 rfl) pas_nil) ⟨⟨_, rfl, by rw [sl]; exact s1, by rw [sl]; omega⟩, a, k3, rfl, rfl, hk3, fun d hR => ?_⟩))
          obtain ⟨es, ix, e5, hix⟩ := hR
          have e5 := toL e5
          rw [← e5, List.getElem?_map] at hix
          obtain ⟨p, hp, rfl⟩ := Option.map_eq_some_iff.1 hix
          exact ef_pu pu_int ⟨[.str p.1, .str p.2], 0, _, rfl, rfl, rfl, ⟨p.1, rfl, List.mem_map.2 ⟨p, List.mem_of_getElem? hp, rfl⟩⟩, k3 + 1, rfl, Nat.le_refl _⟩
        · obtain ⟨es, rfl, hes⟩ := strs_of hvs
          rw [List.length_map] at hvl
          have tl : (sortT es).length = es.length := sortT_len es
          have Vq : VKd so (nm, (⟨sortT es⟩ : Tup Str)) := ⟨h4 nm (List.mem_of_getElem? hnm), by show 1 ≤ (sortT es).length; omega, by show (sortT es).length ≤ 5; omega, fun e he => ?_, sortT_idem es⟩
          · refine ab_append 8 rfl (pu_tup (pas_cons (pu_var 9 rfl) (pas_cons (pu_tupleL B.tuple (nu_sorted (xs := es) hr B.sorted (pu_var 10 rfl)).pu) pas_nil))) (ab_nil ⟨_, ⟨ns, k3, ks ++ [(nm, (⟨sortT es⟩ : Tup Str))], h1, h2, h3, h4, rfl, by omega, fun q hq => ?_, ?_, rfl⟩, ?_⟩) ?_
            · rcases List.mem_append.1 hq with w | w
              · exact h7 q w
              · rw [List.mem_singleton.1 w]; exact Vq
            · rw [List.map_append, h8, ← List.map_id (ns.take (i + 1)), take_mapS id hnm, List.map_id]; rfl
            · rw [List.map_append]
              exact .eq (.eq (.eq (.eq (.eq (.eq (.eq (.eq (.eq (.no (.no (.no .nil)))))))))))
            · rw [List.length_map]; omega
          · have he' := hes e ((sortT_perm es).mem_iff.1 he)
            obtain ⟨p, hp, e6⟩ := List.mem_map.1 he'
            exact ⟨by rw [← e6]; exact (Vso.nm p hp).1, he'⟩
    · subst h5 h9
      rw [List.length_map] at h6 h8
      rw [List.take_length] at h8
      have kl : ks.length = ns.length := by
        have := congrArg List.length h8
        rwa [List.length_map] at this
      exact ab_share 8 rfl (ab_ret (pu_tup (pas_cons (pu_var 7 rfl) (pas_cons (pu_var 8 rfl) pas_nil))) ⟨⟨so, ks, ⟨Vso, by omega, by omega, h7, by rw [h8]; exact h3⟩, rfl⟩, k', rfl, by omega⟩)
  refine abe_if (et_cmp (op_eqT (α := Nat) hr) (ef_draw 0 c1 hr ⟨_, _, rfl⟩ (ea_pa (pas_cons pu_int pas_nil) ⟨⟨2, rfl, by decide, by decide⟩, a, k0 + 60 + 1, rfl, rfl, (by show _ ≤ 1000000; omega), fun d hR => ?_⟩)))
  obtain ⟨_, r2, e3, hr2, rfl⟩ := hR
  refine ef_pu pu_int ⟨_, d_eq (α := Nat) (x := r2) (y := 0), fun _ => ?_, fun _ => ?_⟩
  · refine ab_set 7 ((nu_revL (pu_var 7 rfl)).pu.is (d' := sosD so.reverse) (congrArg D.lst (List.map_reverse ..).symm)) (ab_nil ((key so.reverse (k0 + 60 + 1 + 1) Vso.rev (by omega)).le ?_)) hN
    exact .eq (.eq (.no (.no (.no (.no (.no (.eq (.no (.no (.no (.no .nil)))))))))))
  · refine ab_nil ((key so (k0 + 60 + 1 + 1) Vso (by omega)).le ?_)
    exact .eq (.eq (.no (.no (.no (.no (.no (.eq (.no (.no (.no (.no .nil)))))))))))
end
end R87
namespace R87
open PySem PySem.Spec PyProof.Rows L2
open PySem.W (Tup T4 T3 DatumOrd Datum)
theorem natMin (x y : Nat) : minT x y = min x y := by
  have e : DatumOrd.lt y x = decide (y < x) := rfl
  unfold minT
  rw [e]
  by_cases h : y < x
  · rw [if_pos (decide_eq_true h)]; omega
  · rw [if_neg (by rw [decide_eq_true_eq]; exact h)]; omega
theorem natMax (x y : Nat) : maxT x y = max x y := by
  have e : DatumOrd.lt x y = decide (x < y) := rfl
  unfold maxT
  rw [e]
  by_cases h : x < y
  · rw [if_pos (decide_eq_true h)]; omega
  · rw [if_neg (by rw [decide_eq_true_eq]; exact h)]; omega
theorem sset_len0 (xs : List Nat) : (sset xs).length = (dst xs).length := by unfold sset; rw [List.length_mergeSort]
/-- hang together by joins -/
inductive Con (js : List Jn) : Nat → Nat → Prop
  | refl (p : Nat) : Con js p p
  | fw {p : Nat} {j : Jn} : Con js p j.a → j ∈ js → Con js p j.c
  | bw {p : Nat} {j : Jn} : Con js p j.c → j ∈ js → Con js p j.a
theorem Con.trans {js : List Jn} {p q r : Nat} (h : Con js p q) (k : Con js q r) : Con js p r := by
  induction k with
  | refl => exact h
  | fw _ hj ih => exact .fw ih hj
  | bw _ hj ih => exact .bw ih hj
theorem Con.symm {js : List Jn} {p q : Nat} (h : Con js p q) : Con js q p := by
  induction h with
  | refl => exact .refl _
  | fw _ hj ih => exact (Con.bw (.refl _) hj).trans ih
  | bw _ hj ih => exact (Con.fw (.refl _) hj).trans ih
theorem Con.lt {js : List Jn} {many p q : Nat} (hj : ∀ j ∈ js, j.a < many ∧ j.c < many) (h : Con js p q) (hp : p < many) : q < many := by
  induction h with
  | refl => exact hp
  | fw _ k _ => exact (hj _ k).2
  | bw _ k _ => exact (hj _ k).1
/-- what the marks keep, the joins ks being done -/
structure MkI (many : Nat) (js ks : List Jn) (m : List Nat) : Prop where
  len : m.length = many
  le : ∀ p, p < many → m.getD p 0 ≤ p
  idem : ∀ p, p < many → m.getD (m.getD p 0) 0 = m.getD p 0
  con : ∀ p, p < many → Con js p (m.getD p 0)
  eq : ∀ j ∈ ks, m.getD j.a 0 = m.getD j.c 0
theorem stepM_at {m : List Nat} {j : Jn} {p : Nat} (h : p < m.length) : (stepM m j).getD p 0 = if m.getD p 0 = max (m.getD j.a 0) (m.getD j.c 0) then min (m.getD j.a 0) (m.getD j.c 0) else m.getD p 0 := by
  unfold stepM
  rw [natMin, natMax, List.getD_eq_getElem?_getD, List.getElem?_map, getD_some (d := 0) h]
  rfl
theorem MkI.step {many : Nat} {js ks : List Jn} {m : List Nat} {j : Jn} (hj : ∀ j ∈ js, j.a < many ∧ j.c < many) (hk : ∀ k ∈ ks, k ∈ js) (I : MkI many js ks m) (h : j ∈ js) : MkI many js (ks ++ [j]) (stepM m j) := by
  obtain ⟨ha, hc⟩ := hj j h
  have ia := I.idem j.a ha
  have ic := I.idem j.c hc
  have la := I.le j.a ha
  have lc := I.le j.c hc
  have ca := I.con j.a ha
  have cc := I.con j.c hc
  have at_ : ∀ p, p < many → (stepM m j).getD p 0 = if m.getD p 0 = max (m.getD j.a 0) (m.getD j.c 0) then min (m.getD j.a 0) (m.getD j.c 0) else m.getD p 0 := fun p hp => stepM_at (by rw [I.len]; exact hp)
  have lnk : Con js (m.getD j.a 0) (m.getD j.c 0) := ca.symm.trans ((Con.fw (.refl _) h).trans cc)
  have lh : Con js (max (m.getD j.a 0) (m.getD j.c 0)) (min (m.getD j.a 0) (m.getD j.c 0)) := by
    by_cases z : m.getD j.a 0 ≤ m.getD j.c 0
    · rw [Nat.max_eq_right z, Nat.min_eq_left z]; exact lnk.symm
    · rw [Nat.max_eq_left (by omega), Nat.min_eq_right (by omega)]; exact lnk
  refine ⟨by unfold stepM; rw [List.length_map]; exact I.len, fun p hp => ?_, fun p hp => ?_, fun p hp => ?_, fun k hk2 => ?_⟩
  · have := I.le p hp
    rw [at_ p hp]
    split <;> omega
  · have h1 := I.le p hp
    have h2 := I.idem p hp
    rw [at_ p hp]
    split
    · rename_i z
      have e : m.getD (min (m.getD j.a 0) (m.getD j.c 0)) 0 = min (m.getD j.a 0) (m.getD j.c 0) := by
        by_cases z : m.getD j.a 0 ≤ m.getD j.c 0
        · rw [Nat.min_eq_left z, ia]
        · rw [Nat.min_eq_right (by omega), ic]
      rw [at_ _ (by omega), e]
      split <;> omega
    · rename_i z
      rw [at_ _ (by omega), h2, if_neg z]
  · rw [at_ p hp]
    split
    · rename_i z
      exact ((I.con p hp).trans (by rw [z]; exact .refl _)).trans lh
    · exact I.con p hp
  · rcases List.mem_append.1 hk2 with z | z
    · have e := I.eq k z
      have b := hj k (hk k z)
      rw [at_ _ b.1, at_ _ b.2, e]
    · obtain rfl := List.mem_singleton.1 z
      rw [at_ _ ha, at_ _ hc]
      split <;> split <;> omega
theorem MkI.fold {many : Nat} {js : List Jn} (hj : ∀ j ∈ js, j.a < many ∧ j.c < many) : ∀ (l ks : List Jn) (m : List Nat), (∀ k ∈ ks, k ∈ js) → (∀ k ∈ l, k ∈ js) → MkI many js ks m → MkI many js (ks ++ l) (l.foldl stepM m)
  | [], ks, m, _, _, I => by rw [List.append_nil]; exact I
  | j :: l, ks, m, h1, h2, I => by
    have := MkI.fold hj l (ks ++ [j]) (stepM m j) (fun k hk => by
      rcases List.mem_append.1 hk with z | z
      · exact h1 k z
      · obtain rfl := List.mem_singleton.1 z; exact h2 _ (.head _)) (fun k hk => h2 k (.tail _ hk)) (I.step hj h1 (h2 j (.head _)))
    rw [List.append_assoc] at this
    exact this
theorem range_getD {many p : Nat} (h : p < many) : (List.range many).getD p 0 = p := by
  rw [List.getD_eq_getElem?_getD, List.getElem?_range h]; rfl
theorem marks_inv {many : Nat} {js : List Jn} (hj : ∀ j ∈ js, j.a < many ∧ j.c < many) : MkI many js js (marksF many js) :=
  MkI.fold hj js [] (List.range many) (fun k h => by cases h) (fun k h => h)
    ⟨List.length_range, fun p hp => by rw [range_getD hp]; exact Nat.le_refl _, fun p hp => by rw [range_getD hp, range_getD hp], fun p hp => by rw [range_getD hp]; exact .refl _, fun j h => by cases h⟩
theorem MkI.iff {many : Nat} {js : List Jn} {m : List Nat} (hj : ∀ j ∈ js, j.a < many ∧ j.c < many) (I : MkI many js js m) {p q : Nat} (hp : p < many) (hq : q < many) : m.getD p 0 = m.getD q 0 ↔ Con js p q := by
  constructor
  · intro e
    have h1 := I.con p hp
    rw [e] at h1
    exact h1.trans (I.con q hq).symm
  · intro h
    clear hq
    induction h with
    | refl => rfl
    | fw _ k ih => rw [ih, I.eq _ k]
    | bw _ k ih => rw [ih, I.eq _ k]
theorem stepR_mem {x p : Nat} {row : List Nat} {j : Jn} : p ∈ stepR x row j ↔ p ∈ row ∨ (x = j.a ∨ x = j.c) ∧ (p = j.a ∨ p = j.c) := by
  unfold stepR
  by_cases z : x ∈ [j.a, j.c]
  · rw [if_pos z]
    have z' : x = j.a ∨ x = j.c := by simpa using z
    simp only [List.mem_append, List.mem_filter, decide_eq_true_eq, List.mem_cons, List.not_mem_nil, or_false]
    by_cases w : p ∈ row <;> simp [w, z']
  · rw [if_neg z]
    have z' : ¬ (x = j.a ∨ x = j.c) := by simpa using z
    simp [z']
theorem fold_mem {x p : Nat} : ∀ {js : List Jn} {row : List Nat}, p ∈ js.foldl (stepR x) row ↔ p ∈ row ∨ ∃ j ∈ js, (x = j.a ∨ x = j.c) ∧ (p = j.a ∨ p = j.c)
  | [], row => by simp
  | j :: js, row => by
    rw [List.foldl_cons, fold_mem (js := js), stepR_mem]
    simp only [List.mem_cons, exists_eq_or_imp, or_assoc]
/-- all before at_ is done -/
structure RwI (js : List Jn) (x : Nat) (row : List Nat) (at_ : Nat) : Prop where
  mx : x ∈ row
  con : ∀ p ∈ row, Con js x p
  done : ∀ i, i < at_ → i < row.length → ∀ j ∈ js, (row.getD i 0 = j.a ∨ row.getD i 0 = j.c) → j.a ∈ row ∧ j.c ∈ row
theorem bfs_inv {many : Nat} {js : List Jn} (hj : ∀ j ∈ js, j.a < many ∧ j.c < many) {x : Nat} : ∀ (n : Nat) {row : List Nat} {at_ : Nat}, RowOk many row → RwI js x row at_ → at_ ≤ row.length → many + 1 ≤ n + at_ → RwI js x (bfs js n row at_) (bfs js n row at_).length
  | 0, row, at_, R, I, h1, h2 => by
    have := nodup_bound R
    omega
  | n + 1, row, at_, R, I, h1, h2 => by
    unfold bfs
    split
    · rename_i hl
      have hx : row.getD at_ 0 ∈ row := List.mem_of_getElem? (getD_some (d := 0) hl)
      have R2 : RowOk many (rowN js (row.getD at_ 0) row) := fold_ok R hx hj
      obtain ⟨t, e⟩ := fold_pre (row.getD at_ 0) js row
      have e' : rowN js (row.getD at_ 0) row = row ++ t := e
      have hm : ∀ p, p ∈ row ++ t ↔ p ∈ row ∨ ∃ j ∈ js, (row.getD at_ 0 = j.a ∨ row.getD at_ 0 = j.c) ∧ (p = j.a ∨ p = j.c) := fun p => by rw [← e]; exact fold_mem
      refine bfs_inv hj n R2 ?_ (by rw [e', List.length_append]; omega) (by omega)
      rw [e']
      refine ⟨List.mem_append_left _ I.mx, fun p hp => ?_, fun i hi hl2 j hjm hij => ?_⟩
      · rcases (hm p).1 hp with z | ⟨j, hjm, h3, h4⟩
        · exact I.con p z
        · have c0 := I.con _ hx
          rcases h3 with h3 | h3 <;> rcases h4 with h4 | h4
          · rw [h4, ← h3]; exact c0
          · rw [h4]; rw [h3] at c0; exact .fw c0 hjm
          · rw [h4]; rw [h3] at c0; exact .bw c0 hjm
          · rw [h4, ← h3]; exact c0
      · have hi2 : i < row.length := by omega
        have eg : (row ++ t).getD i 0 = row.getD i 0 := by
          rw [List.getD_eq_getElem?_getD, List.getD_eq_getElem?_getD, List.getElem?_append_left hi2]
        rw [eg] at hij
        by_cases z : i < at_
        · obtain ⟨a, b⟩ := I.done i z hi2 j hjm hij
          exact ⟨List.mem_append_left _ a, List.mem_append_left _ b⟩
        · obtain rfl : i = at_ := by omega
          exact ⟨(hm _).2 (.inr ⟨j, hjm, hij, .inl rfl⟩), (hm _).2 (.inr ⟨j, hjm, hij, .inr rfl⟩)⟩
    · rename_i hl
      obtain rfl : at_ = row.length := by omega
      exact I
theorem bfs_all {many : Nat} {js : List Jn} (hj : ∀ j ∈ js, j.a < many ∧ j.c < many) {x : Nat} (hx : x < many) {p : Nat} : p ∈ bfs js (many + 1) [x] 0 ↔ Con js x p := by
  have I : RwI js x (bfs js (many + 1) [x] 0) (bfs js (many + 1) [x] 0).length :=
    bfs_inv hj (many + 1) ⟨by simp, fun p hp => by obtain rfl := List.mem_singleton.1 hp; exact hx⟩ ⟨.head _, fun p hp => by obtain rfl := List.mem_singleton.1 hp; exact .refl _, fun i hi => absurd hi (Nat.not_lt_zero i)⟩ (Nat.zero_le _) (by omega)
  constructor
  · exact I.con p
  · intro h
    have key : ∀ q, q ∈ bfs js (many + 1) [x] 0 → ∀ j ∈ js, (q = j.a ∨ q = j.c) → j.a ∈ bfs js (many + 1) [x] 0 ∧ j.c ∈ bfs js (many + 1) [x] 0 := fun q hq j hjm hh => by
      obtain ⟨i, hi, e⟩ := List.mem_iff_getElem.1 hq
      refine I.done i hi hi j hjm ?_
      have : (bfs js (many + 1) [x] 0).getD i 0 = q := by rw [List.getD_eq_getElem?_getD, List.getElem?_eq_getElem hi, e]; rfl
      rw [this]; exact hh
    induction h with
    | refl => exact I.mx
    | fw _ k ih => exact (key _ ih _ k (.inl rfl)).2
    | bw _ k ih => exact (key _ ih _ k (.inr rfl)).1
theorem nat_uniq : ∀ {xs ys : List Nat}, xs.Pairwise (· < ·) → ys.Pairwise (· < ·) → (∀ x, x ∈ xs ↔ x ∈ ys) → xs = ys
  | [], [], _, _, _ => rfl
  | [], y :: ys, _, _, h => absurd ((h y).2 (.head _)) (by simp)
  | x :: xs, [], _, _, h => absurd ((h x).1 (.head _)) (by simp)
  | x :: xs, y :: ys, hx, hy, h => by
    rw [List.pairwise_cons] at hx hy
    have e : x = y := by
      rcases List.mem_cons.1 ((h x).1 (.head _)) with a | a
      · exact a
      · rcases List.mem_cons.1 ((h y).2 (.head _)) with b | b
        · exact b.symm
        · have := hy.1 x a; have := hx.1 y b; omega
    subst e
    refine congrArg (x :: ·) (nat_uniq hx.2 hy.2 fun z => ?_)
    constructor
    · intro a
      rcases List.mem_cons.1 ((h z).1 (.tail _ a)) with b | b
      · have := hx.1 z a; omega
      · exact b
    · intro a
      rcases List.mem_cons.1 ((h z).2 (.tail _ a)) with b | b
      · have := hy.1 z a; omega
      · exact b
theorem range_lt (n : Nat) : (List.range n).Pairwise (· < ·) := List.pairwise_lt_range
theorem clsF_mem {m : List Nat} {k p : Nat} : p ∈ clsF m k ↔ p < m.length ∧ m.getD p 0 = k := by
  unfold clsF; rw [List.mem_filter, List.mem_range, decide_eq_true_eq]
theorem clsF_lt (m : List Nat) (k : Nat) : (clsF m k).Pairwise (· < ·) := (range_lt _).filter _
theorem grps_eq {many : Nat} {js : List Jn} (hj : ∀ j ∈ js, j.a < many ∧ j.c < many) {m : List Nat} (I : MkI many js js m) : ∀ (n : Nat) (l : List Nat), l.length ≤ n → l.Pairwise (· < ·) → (∀ p ∈ l, p < many) → (∀ p ∈ l, ∀ q, Con js p q → q ∈ l) →
    grps js many n l = (l.filter fun p => decide (m.getD p 0 = p)).map (clsF m)
  | 0, l, h, _, _, _ => by
    obtain rfl := List.length_eq_zero_iff.1 (Nat.le_zero.1 h)
    rfl
  | n + 1, [], _, _, _, _ => rfl
  | n + 1, x :: l, h, hs, hl, hc => by
    have hx := hl x (.head _)
    have hs' := List.pairwise_cons.1 hs
    have ex : m.getD x 0 = x := by
      have h1 := I.le x hx
      have h2 := hc x (.head _) _ (I.con x hx)
      rcases List.mem_cons.1 h2 with z | z
      · exact z
      · have := hs'.1 _ z; omega
    have eb : sset (bfs js (many + 1) [x] 0) = clsF m x := nat_uniq (sset_lt _) (clsF_lt _ _) fun p => by
      rw [mem_sset, bfs_all hj hx, clsF_mem, I.len]
      constructor
      · intro c
        have hp := c.lt hj hx
        exact ⟨hp, by rw [← (I.iff hj hx hp).2 c]; exact ex⟩
      · rintro ⟨hp, e⟩
        exact (I.iff hj hx hp).1 (by rw [ex, e])
    have mb : ∀ p, p ∈ x :: l → (p ∉ bfs js (many + 1) [x] 0 ↔ m.getD p 0 ≠ x) := fun p hp => by
      rw [bfs_all hj hx, ← I.iff hj hx (hl p hp), ex]
      exact ⟨fun a b => a b.symm, fun a b => a b.symm⟩
    show sset (bfs js (many + 1) [x] 0) :: grps js many n ((x :: l).filter fun p => decide (p ∉ bfs js (many + 1) [x] 0)) = _
    have e1 : ((x :: l).filter fun p => decide (p ∉ bfs js (many + 1) [x] 0)) = l.filter fun p => decide (m.getD p 0 ≠ x) := by
      rw [List.filter_cons_of_neg (by rw [decide_eq_true_eq, mb x (.head _)]; exact fun z => z ex)]
      refine List.filter_congr fun p hp => ?_
      exact decide_eq_decide.2 (mb p (.tail _ hp))
    have e2 : ((x :: l).filter fun p => decide (m.getD p 0 = p)) = x :: l.filter fun p => decide (m.getD p 0 = p) := List.filter_cons_of_pos (by rw [decide_eq_true_eq]; exact ex)
    rw [e1, e2, List.map_cons, eb]
    refine congrArg (clsF m x :: ·) ?_
    rw [grps_eq hj I n _ (Nat.le_trans (List.length_filter_le ..) (by simpa using h)) (hs'.2.filter _) (fun p hp => hl p (.tail _ (List.mem_filter.1 hp).1)) (fun p hp q c => ?_), List.filter_filter]
    · refine congrArg (List.map (clsF m)) (List.filter_congr fun p hp => ?_)
      have := hs'.1 p hp
      by_cases z : m.getD p 0 = p
      · rw [decide_eq_true z, decide_eq_true (by omega)]; rfl
      · rw [decide_eq_false z, Bool.false_and]
    · obtain ⟨h1, h2⟩ := List.mem_filter.1 hp
      have h2 := of_decide_eq_true h2
      have hp2 := hl p (.tail _ h1)
      have hq := c.lt hj hp2
      have eq := (I.iff hj hp2 hq).2 c
      rcases List.mem_cons.1 (hc p (.tail _ h1) q c) with z | z
      · rw [z, ex] at eq; exact absurd eq h2
      · exact List.mem_filter.2 ⟨z, decide_eq_true (by rw [← eq]; exact h2)⟩
theorem groups_eq {many : Nat} {js : List Jn} (hj : ∀ j ∈ js, j.a < many ∧ j.c < many) : groupsF many js = clss (marksF many js) := by
  have I := marks_inv hj
  unfold groupsF clss
  rw [grps_eq hj I many _ (by rw [List.length_range]; exact Nat.le_refl _) (range_lt _) (fun p hp => List.mem_range.1 hp) (fun p hp q c => List.mem_range.2 (c.lt hj (List.mem_range.1 hp)))]
  refine congrArg (List.map (clsF _)) (nat_uniq ((range_lt _).filter _) (sset_lt _) fun q => ?_)
  rw [List.mem_filter, List.mem_range, decide_eq_true_eq, mem_sset]
  constructor
  · rintro ⟨hq, e⟩
    have := getD_some (d := 0) (xs := marksF many js) (i := q) (by rw [I.len]; exact hq)
    rw [e] at this
    exact List.mem_of_getElem? this
  · intro hq
    obtain ⟨p, hp, e⟩ := List.mem_iff_getElem.1 hq
    have hp2 : p < many := by rw [← I.len]; exact hp
    have e2 : (marksF many js).getD p 0 = q := by rw [List.getD_eq_getElem?_getD, List.getElem?_eq_getElem hp, e]; rfl
    have h1 := I.le p hp2
    have h2 := I.idem p hp2
    rw [e2] at h1 h2
    exact ⟨by omega, h2⟩
theorem clss_len (m : List Nat) : (clss m).length = (dst m).length := by
  unfold clss; rw [List.length_map, sset_len0]
theorem nGrp_eq {many : Nat} {js : List Jn} (hj : ∀ j ∈ js, j.a < many ∧ j.c < many) : nGrp many js = nComp many js := by
  unfold nGrp nComp; rw [groups_eq hj, clss_len]
theorem lcuts_eq {n m : Nat} {js : List Jn} (hj : ∀ j ∈ js, j.a < n + m ∧ j.c < n + m) : cutsF n m js = lcutsF n m js := by
  unfold cutsF lcutsF
  refine List.filter_congr fun j _ => ?_
  rw [nGrp_eq hj, nGrp_eq fun k hk => hj k (lessF_mem hk)]
theorem lpieces_eq {n m : Nat} {js : List Jn} (hj : ∀ j ∈ js, j.a < n + m ∧ j.c < n + m) (hac : ∀ j ∈ js, j.a ≤ j.c) : piecesF n m js = lpiecesF n m js := by
  unfold piecesF lpiecesF
  rw [lcuts_eq hj, groups_eq]
  intro j h
  have h1 := (List.mem_filter.1 h).1
  unfold innF at h1
  obtain ⟨h2, h3⟩ := List.mem_filter.1 h1
  have h3 := of_decide_eq_true h3
  have := hac j h2
  exact ⟨by omega, h3⟩
/-- the classes: closed under joins, within bounds -/
theorem clss_mem {m : List Nat} {r : List Nat} (h : r ∈ clss m) : ∃ k, k ∈ m ∧ r = clsF m k := by
  obtain ⟨k, h1, h2⟩ := List.mem_map.1 h
  exact ⟨k, mem_sset.1 h1, h2.symm⟩
theorem clss_ok {many : Nat} {js : List Jn} (hj : ∀ j ∈ js, j.a < many ∧ j.c < many) {r : List Nat} (h : r ∈ clss (marksF many js)) : r.Pairwise (· < ·) ∧ (∀ p ∈ r, p < many) ∧ ∀ j ∈ js, (j.a ∈ r ↔ j.c ∈ r) := by
  have I := marks_inv hj
  obtain ⟨k, _, rfl⟩ := clss_mem h
  refine ⟨clsF_lt _ _, fun p hp => ?_, fun j hjm => ?_⟩
  · have := (clsF_mem.1 hp).1
    rwa [I.len] at this
  · rw [clsF_mem, clsF_mem, I.len, I.eq j hjm]
    exact ⟨fun h => ⟨(hj j hjm).2, h.2⟩, fun h => ⟨(hj j hjm).1, h.2⟩⟩
theorem lt_len {many : Nat} {r : List Nat} (h : r.Pairwise (· < ·)) (hl : ∀ p ∈ r, p < many) : r.length ≤ many :=
  nodup_bound ⟨h.imp fun a => Nat.ne_of_lt a, hl⟩
end R87
namespace R87
open PySem PySem.Spec PyProof.Rows L2
open PySem.W (Tup T4 T3 DatumOrd Datum)
abbrev eS : Str := (⟨#[]⟩ : Str)
section
variable {so : Srts} {kd : Knds} {cs : List Str} {ls : Lgs} {js : List Jn}
/-- the two ends of a pair, joined -/
theorem joinedF_perm (a b : En2) : [lo (joinedF a b), hi (joinedF a b)].Perm [a, b] := minmax_perm a b
theorem joinedF_le (a b : En2) : DatumOrd.lt (hi (joinedF a b)) (lo (joinedF a b)) = false := by
  have h : (!DatumOrd.lt (hi (joinedF a b)) (lo (joinedF a b))) = true := min_le_max a b
  simpa using h
theorem joinedF_comm (a b : En2) : joinedF a b = joinedF b a := by
  unfold joinedF
  rw [(minT_comm a b).1, (minT_comm a b).2]
theorem joinedF_id {j : Jn} (h : DatumOrd.lt (hi j) (lo j) = false) : joinedF (lo j) (hi j) = j := by
  have hp := joinedF_perm (lo j) (hi j)
  have hq : (joinedF (lo j) (hi j)) = ⟨(lo (joinedF (lo j) (hi j))).1, (lo (joinedF (lo j) (hi j))).2, (hi (joinedF (lo j) (hi j))).1, (hi (joinedF (lo j) (hi j))).2⟩ := rfl
  have hs1 : sortT [lo (joinedF (lo j) (hi j)), hi (joinedF (lo j) (hi j))] = [lo (joinedF (lo j) (hi j)), hi (joinedF (lo j) (hi j))] := sortT_id (by simp [dle, joinedF_le])
  have hs2 : sortT [lo j, hi j] = [lo j, hi j] := sortT_id (by simp [dle, h])
  have e := sortT_uniq hp
  rw [hs1, hs2] at e
  injection e with e1 e2
  injection e2 with e2 _
  rw [hq, e1, e2]
theorem joinedF_or (a b : En2) : (lo (joinedF a b) = a ∧ hi (joinedF a b) = b) ∨ (lo (joinedF a b) = b ∧ hi (joinedF a b) = a) := by
  have h := joinedF_perm a b
  have h1 : lo (joinedF a b) ∈ [a, b] := h.mem_iff.1 (.head _)
  rcases List.mem_cons.1 h1 with z | z
  · rw [z] at h
    have h2 := (List.perm_cons a).1 h
    have := h2.mem_iff.1 (List.mem_singleton.2 rfl : hi (joinedF a b) ∈ [hi (joinedF a b)])
    exact .inl ⟨z, List.mem_singleton.1 this⟩
  · have z := List.mem_singleton.1 z
    rw [z] at h
    have h2 := (List.perm_cons b).1 (h.trans (List.Perm.swap b a []))
    have := h2.mem_iff.1 (List.mem_singleton.2 rfl : hi (joinedF a b) ∈ [hi (joinedF a b)])
    exact .inr ⟨z, List.mem_singleton.1 this⟩
/-- the ends of joins -/
abbrev endsJ (js : List Jn) : List En2 := js.flatMap fun j => [lo j, hi j]
theorem flat_congr {α β : Type} {f g : α → List β} : ∀ {xs : List α}, (∀ x ∈ xs, (f x).Perm (g x)) → (xs.flatMap f).Perm (xs.flatMap g)
  | [], _ => .refl _
  | x :: xs, h => by
    rw [List.flatMap_cons, List.flatMap_cons]
    exact (h x (.head _)).append (flat_congr fun y hy => h y (.tail _ hy))
theorem ends_joined (ps : List Pr) : (endsJ (ps.map fun p => joinedF p.1 p.2)).Perm (flatP ps) := by
  unfold endsJ flatP
  rw [List.flatMap_map]
  exact flat_congr fun p _ => joinedF_perm p.1 p.2
theorem ends_sort (js : List Jn) : (endsJ (sortT js)).Perm (endsJ js) := (sortT_perm js).flatMap_right _
/-- corners' ends and legs' ends -/
def cE (kd : Knds) (cs : List Str) : List En2 := (List.range cs.length).flatMap fun i => (endsK kd (cs.getD i eS)).map fun s => (i, s)
theorem endsF_eq (kd : Knds) (cs : List Str) (ls : Lgs) : endsF kd cs ls = cE kd cs ++ (List.range ls.length).map fun i => (cs.length + i, (ls.getD i s00).2) := by
  unfold endsF cE
  rw [zip_range cs eS, zip_range ls s00, List.flatMap_map, List.map_map]
  rfl
theorem endsF_lt {e : En2} (h : e ∈ endsF kd cs ls) : e.1 < cs.length + ls.length := by
  rw [endsF_eq] at h
  rcases List.mem_append.1 h with z | z
  · unfold cE at z
    obtain ⟨i, hi, z⟩ := List.mem_flatMap.1 z
    obtain ⟨s, _, e⟩ := List.mem_map.1 z
    rw [← e]
    have := List.mem_range.1 hi
    show i < _
    omega
  · obtain ⟨i, hi, e⟩ := List.mem_map.1 z
    rw [← e]
    have := List.mem_range.1 hi
    show _ + i < _
    omega
/-- joins made of pairs of ends -/
theorem VJ_of (V : VSo so) (hc : cs.length ≤ 6) (hl : ls.length ≤ 6) (ps : List Pr) (h1 : ∀ p ∈ ps, (p.1.2, p.2.2) ∈ so) (h2 : (flatP ps).Perm (endsF kd cs ls)) : VJ so kd cs ls (sortT (ps.map fun p => joinedF p.1 p.2)) := by
  refine ⟨fun j hj => ?_, sortT_idem _, sortT_uniq ((ends_sort _).trans ((ends_joined ps).trans h2))⟩
  obtain ⟨p, hp, rfl⟩ := List.mem_map.1 ((sortT_perm _).mem_iff.1 hj)
  have b : ∀ e ∈ [p.1, p.2], e.1 < cs.length + ls.length := fun e he => endsF_lt (h2.mem_iff.1 (List.mem_flatMap.2 ⟨p, hp, he⟩))
  have b1 := b p.1 (.head _)
  have b2 := b p.2 (.tail _ (.head _))
  have hs := h1 p hp
  rcases joinedF_or p.1 p.2 with ⟨e1, e2⟩ | ⟨e1, e2⟩
  · refine ⟨?_, ?_, joinedF_le _ _, ?_⟩
    · show (lo (joinedF p.1 p.2)).1 ≤ 12
      rw [e1]; omega
    · show (hi (joinedF p.1 p.2)).1 ≤ 12
      rw [e2]; omega
    · show ((lo (joinedF p.1 p.2)).2, (hi (joinedF p.1 p.2)).2) ∈ so
      rw [e1, e2]; exact hs
  · refine ⟨?_, ?_, joinedF_le _ _, ?_⟩
    · show (lo (joinedF p.1 p.2)).1 ≤ 12
      rw [e1]; omega
    · show (hi (joinedF p.1 p.2)).1 ≤ 12
      rw [e2]; omega
    · show ((lo (joinedF p.1 p.2)).2, (hi (joinedF p.1 p.2)).2) ∈ so
      rw [e1, e2]; exact V.sy _ hs
theorem VJ.perm (h : VJ so kd cs ls js) : (endsJ js).Perm (endsF kd cs ls) := perm_of_sortT h.ends
theorem lt_fst {a b : En2} (h : DatumOrd.lt b a = false) : a.1 ≤ b.1 := by
  have e : DatumOrd.lt b a = if b.1 = a.1 then DatumOrd.lt b.2 a.2 else decide (b.1 < a.1) := rfl
  rw [e] at h
  by_cases z : b.1 = a.1
  · omega
  · rw [if_neg z] at h
    have := of_decide_eq_false h
    omega
theorem VD.vp (V : VD so kd cs ls js) : VP cs.length ls.length js := by
  have k : ∀ j ∈ js, ∀ e ∈ [lo j, hi j], e.1 < cs.length + ls.length := fun j hj e he => endsF_lt (V.j.perm.mem_iff.1 (List.mem_flatMap.2 ⟨j, hj, he⟩))
  exact ⟨V.c.l6, V.l.l6, V.j.len V.s V.c.l6 V.l.l6, fun j hj => k j hj _ (.head _), fun j hj => k j hj _ (.tail _ (.head _)), fun j hj => lt_fst (V.j.j j hj).le⟩
theorem VP.ac2 {n m : Nat} (h : VP n m js) : ∀ j ∈ js, j.a < n + m ∧ j.c < n + m := fun j hj => ⟨h.a j hj, h.c j hj⟩
/-- ends moved about -/
abbrev mvE {α : Type} (g : Nat → α) (e : En2) : α × Str := (g e.1, e.2)
theorem flat_mv (g : Nat → Nat) (js : List Jn) : flatP (js.map fun j => ((g j.a, j.b), (g j.c, j.d))) = (endsJ js).map (mvE g) := by
  unfold flatP endsJ
  rw [List.flatMap_map, List.map_flatMap]
  rfl
theorem mv_ends {α : Type} (g : Nat → α) : (endsF kd cs ls).map (mvE g) = ((List.range cs.length).flatMap fun i => (endsK kd (cs.getD i eS)).map fun s => (g i, s)) ++ (List.range ls.length).map fun i => (g (cs.length + i), (ls.getD i s00).2) := by
  rw [endsF_eq, List.map_append, List.map_map]
  unfold cE
  rw [List.map_flatMap]
  simp only [List.map_map]
  rfl
theorem range_map {α β : Type} (xs : List α) (d : α) (f : α → β) : ((List.range xs.length).map fun i => f (xs.getD i d)) = xs.map f := by
  apply List.ext_getElem?
  intro i
  rw [List.getElem?_map, List.getElem?_map]
  by_cases h : i < xs.length
  · rw [List.getElem?_range h, getD_some (d := d) h]; rfl
  · rw [List.getElem?_eq_none (by rw [List.length_range]; omega), List.getElem?_eq_none (by omega)]; rfl
theorem getD_app1 {xs ys : List Nat} {i : Nat} (h : i < xs.length) : (xs ++ ys).getD i 0 = xs.getD i 0 := by
  rw [List.getD_eq_getElem?_getD, List.getD_eq_getElem?_getD, List.getElem?_append_left h]
theorem getD_app2 {xs ys : List Nat} {n i : Nat} (h : xs.length = n) : (xs ++ ys).getD (n + i) 0 = ys.getD i 0 := by
  rw [List.getD_eq_getElem?_getD, List.getD_eq_getElem?_getD, List.getElem?_append_right (by omega)]
  congr 2; omega
theorem range'_getD {b n i : Nat} (h : i < n) : (List.range' b n).getD i 0 = b + i := by
  rw [List.getD_eq_getElem?_getD, List.getElem?_range' h]; simp
theorem flat_range {α β : Type} (xs : List α) (d : α) (f : α → Nat → List β) (g : Nat → Nat) (h : ∀ i, i < xs.length → g i = i) : ((List.range xs.length).flatMap fun i => f (xs.getD i d) (g i)) = (List.range xs.length).flatMap fun i => f (xs.getD i d) i := by
  rw [List.flatMap_def, List.flatMap_def]
  congr 1
  exact List.map_congr_left fun i hi => by rw [h i (List.mem_range.1 hi)]
theorem idx_at {ns : List Nat} (nd : ns.Nodup) {i : Nat} (h : i < ns.length) : ns.idxOf (ns.getD i 0) = i := by
  have e : ns.getD i 0 = ns[i] := by rw [List.getD_eq_getElem?_getD, List.getElem?_eq_getElem h]; rfl
  rw [e]
  exact nd.idxOf_getElem i h
theorem movC_ends {ns : List Nat} (hp : ns.Perm (List.range cs.length)) : ((endsF kd cs ls).map (mvE fun i => (ns ++ List.range' cs.length ls.length).getD i 0)).Perm (endsF kd (movC cs ns) ls) := by
  have hl : ns.length = cs.length := by rw [hp.length_eq, List.length_range]
  have nd : ns.Nodup := hp.nodup_iff.2 List.nodup_range
  have lm : (movC cs ns).length = cs.length := by unfold movC; rw [List.length_map, List.length_range]
  rw [mv_ends, endsF_eq, lm]
  refine List.Perm.append ?_ (.of_eq (List.map_congr_left fun i hi => by rw [getD_app2 hl, range'_getD (List.mem_range.1 hi)]))
  unfold cE
  rw [lm]
  have e1 : ((List.range cs.length).flatMap fun i => (endsK kd (cs.getD i eS)).map fun s => ((ns ++ List.range' cs.length ls.length).getD i 0, s)) = ns.flatMap fun k => (endsK kd ((movC cs ns).getD k eS)).map fun s => (k, s) := by
    have e0 : ∀ f : Nat → List En2, ns.flatMap f = (List.range cs.length).flatMap fun i => f (ns.getD i 0) := fun f => by
      have h1 := range_map ns 0 id
      rw [List.map_id, hl] at h1
      conv => lhs; rw [← h1]
      rw [List.flatMap_map]; rfl
    rw [e0, List.flatMap_def, List.flatMap_def]
    congr 1
    refine List.map_congr_left fun i hi => ?_
    have hi := List.mem_range.1 hi
    have hi2 : i < ns.length := by omega
    have hk : ns.getD i 0 < cs.length := List.mem_range.1 (hp.mem_iff.1 (List.mem_of_getElem? (getD_some (d := 0) hi2)))
    show (endsK kd _).map (fun s => (_, s)) = (endsK kd ((movC cs ns).getD (ns.getD i 0) eS)).map fun s => (ns.getD i 0, s)
    rw [getD_app1 hi2]
    have : (movC cs ns).getD (ns.getD i 0) eS = cs.getD i eS := by
      unfold movC
      rw [List.getD_eq_getElem?_getD, List.getElem?_map, List.getElem?_range hk]
      show cs.getD (ns.idxOf (ns.getD i 0)) eS = _
      rw [idx_at nd hi2]
    rw [this]
  rw [e1]
  exact hp.flatMap_right _
theorem renF_eq {ns : List Nat} (hp : ns.Perm (List.range cs.length)) : renF cs ns cs.length = movC cs ns := by
  have hl : ns.length = cs.length := by rw [hp.length_eq, List.length_range]
  have nd : ns.Nodup := hp.nodup_iff.2 List.nodup_range
  have key : ∀ i, i ≤ cs.length → ∀ k, k < cs.length → (renF cs ns i).getD k eS = if ns.idxOf k < i then cs.getD (ns.idxOf k) eS else cs.getD k eS := by
    intro i
    induction i with
    | zero => intro _ k _; rfl
    | succ i ih =>
      intro h k hk
      have ih := ih (by omega) k hk
      have hi : i < ns.length := by omega
      show ((renF cs ns i).set (ns.getD i 0) (cs.getD i eS)).getD k eS = _
      rw [List.getD_eq_getElem?_getD, List.getElem?_set, renF_len]
      by_cases z : ns.getD i 0 = k
      · have e : ns.idxOf k = i := by rw [← z]; exact idx_at nd hi
        rw [if_pos z, if_pos (by omega), e, if_pos (by omega)]; rfl
      · rw [if_neg z, ← List.getD_eq_getElem?_getD, ih]
        have hm : k ∈ ns := hp.mem_iff.2 (List.mem_range.2 hk)
        have hx : ns.idxOf k < ns.length := List.idxOf_lt_length_iff.2 hm
        have ne : ns.idxOf k ≠ i := fun e => z (by
          rw [← e, List.getD_eq_getElem?_getD, List.getElem?_eq_getElem hx]
          exact List.getElem_idxOf hx)
        by_cases w : ns.idxOf k < i
        · rw [if_pos w, if_pos (by omega)]
        · rw [if_neg w, if_neg (by omega)]
  apply List.ext_getElem?
  intro k
  by_cases h : k < cs.length
  · rw [getD_some (d := eS) (by rw [renF_len]; exact h), getD_some (d := eS) (by unfold movC; rw [List.length_map, List.length_range]; exact h), key _ (Nat.le_refl _) k h]
    have hm : k ∈ ns := hp.mem_iff.2 (List.mem_range.2 h)
    have hx : ns.idxOf k < ns.length := List.idxOf_lt_length_iff.2 hm
    rw [if_pos (by omega)]
    unfold movC
    conv => rhs; rw [List.getD_eq_getElem?_getD, List.getElem?_map, List.getElem?_range h]
    rfl
  · rw [List.getElem?_eq_none (by rw [renF_len]; omega), List.getElem?_eq_none (by unfold movC; rw [List.length_map, List.length_range]; omega)]
theorem movedF_eq (js : List Jn) (g : Nat → Nat) : movedF js g = sortT ((js.map fun j => ((g j.a, j.b), (g j.c, j.d)) : List Pr).map fun p => joinedF p.1 p.2) := by
  unfold movedF; rw [List.map_map]; rfl
theorem VD.renamed (V : VD so kd cs ls js) {ns : List Nat} (hp : ns.Perm (List.range cs.length)) : VD so kd (movC cs ns) ls (movedF js fun i => (ns ++ List.range' cs.length ls.length).getD i 0) := by
  have hl : ns.length = cs.length := by rw [hp.length_eq, List.length_range]
  have lm : (movC cs ns).length = cs.length := by unfold movC; rw [List.length_map, List.length_range]
  refine ⟨V.s, ⟨by rw [lm]; exact V.c.l6, fun k hk => ?_⟩, V.l, ?_⟩
  · unfold movC at hk
    obtain ⟨i, hi, rfl⟩ := List.mem_map.1 hk
    have hi := List.mem_range.1 hi
    have hm : i ∈ ns := hp.mem_iff.2 (List.mem_range.2 hi)
    have hx : ns.idxOf i < ns.length := List.idxOf_lt_length_iff.2 hm
    exact V.c.mem _ (List.mem_of_getElem? (getD_some (d := eS) (by omega)))
  · rw [movedF_eq]
    refine VJ_of V.s.s (by rw [lm]; exact V.c.l6) V.l.l6 _ (fun p hp => ?_) ?_
    · obtain ⟨j, hj, rfl⟩ := List.mem_map.1 hp
      exact (V.j.j j hj).p
    · rw [flat_mv fun i => (ns ++ List.range' cs.length ls.length).getD i 0]
      exact (V.j.perm.map _).trans (movC_ends hp)
end
end R87
namespace R87
open PySem PySem.Spec PyProof.Rows L2
open PySem.W (Tup T4 T3 DatumOrd Datum)
section
variable {so : Srts} {kd : Knds} {cs : List Str} {ls : Lgs} {js : List Jn}
/-- legs in order: each at its place -/
theorem legs_at {α : Type} [DecidableEq α] (L : List α) (d : α) (nd : L.Nodup) (f : Nat → α → En2) : ((List.range L.length).map fun i => f i (L.getD i d)) = L.map fun l => f (ixOf L l) l := by
  have h := range_map L d fun l => f (ixOf L l) l
  rw [← h]
  refine List.map_congr_left fun i hi => ?_
  have hi := List.mem_range.1 hi
  have e : L.getD i d = L[i] := by rw [List.getD_eq_getElem?_getD, List.getElem?_eq_getElem hi]; rfl
  have : ixOf L (L.getD i d) = i := by rw [e]; exact nd.idxOf_getElem i hi
  rw [this]
theorem ix_lt {α : Type} [DecidableEq α] {L : List α} {q : α} (h : q ∈ L) : ixOf L q < L.length := List.idxOf_lt_length_iff.2 h
theorem ix_at {α : Type} [DecidableEq α] {L : List α} {q : α} (h : q ∈ L) : L[ixOf L q]'(ix_lt h) = q := List.getElem_idxOf (ix_lt h)
theorem nd_of_fst {L : Lgs} (h : (L.map (·.1)).Nodup) : L.Nodup := by
  rw [List.Nodup, List.pairwise_map] at h
  exact h.imp fun n e => n (by rw [e])
theorem endsF_legs (n : Nat) {L : Lgs} (nd : L.Nodup) : ((List.range L.length).map fun i => (n + i, (L.getD i s00).2)) = L.map fun l => (n + ixOf L l, l.2) := legs_at L s00 nd fun i l => (n + i, l.2)
theorem VL.nd2 (h : VL so ls) : ls.Nodup := nd_of_fst h.nd
theorem cE_app (kd : Knds) (c1 c2 : List Str) : cE kd (c1 ++ c2) = cE kd c1 ++ (List.range c2.length).flatMap fun i => (endsK kd (c2.getD i eS)).map fun s => (c1.length + i, s) := by
  unfold cE
  rw [List.length_append, List.range_add, List.flatMap_append, List.flatMap_map]
  congr 1
  · rw [List.flatMap_def, List.flatMap_def]
    congr 1
    refine List.map_congr_left fun i hi => ?_
    have hi := List.mem_range.1 hi
    rw [List.getD_eq_getElem?_getD, List.getD_eq_getElem?_getD, List.getElem?_append_left hi]
  · rw [List.flatMap_def, List.flatMap_def]
    congr 1
    refine List.map_congr_left fun i hi => ?_
    rw [List.getD_eq_getElem?_getD, List.getD_eq_getElem?_getD, List.getElem?_append_right (by omega)]
    rw [Nat.add_sub_cancel_left]
theorem besP_ends (base tot : Nat) (L : Lgs) : (endsF kd cs ls).map (mvE fun i => (besP base cs.length tot ls L).getD i 0) = ((List.range cs.length).flatMap fun i => (endsK kd (cs.getD i eS)).map fun s => (base + i, s)) ++ ls.map fun l => (tot + ixOf L l, l.2) := by
  rw [mv_ends]
  congr 1
  · rw [List.flatMap_def, List.flatMap_def]
    congr 1
    refine List.map_congr_left fun i hi => ?_
    have hi := List.mem_range.1 hi
    have : (besP base cs.length tot ls L).getD i 0 = base + i := by
      unfold besP
      rw [getD_app1 (by rw [List.length_range']; exact hi), range'_getD hi]
    rw [this]
  · rw [← range_map ls s00]
    refine List.map_congr_left fun i hi => ?_
    have hi := List.mem_range.1 hi
    have : (besP base cs.length tot ls L).getD (cs.length + i) 0 = tot + ixOf L (ls.getD i s00) := by
      unfold besP
      rw [getD_app2 (by rw [List.length_range']), List.getD_eq_getElem?_getD, List.getElem?_map, getD_some (d := s00) hi]
      rfl
    rw [this]
theorem mem_so_of {s : Str} (h : s ∈ so.map (·.1)) : ∃ p, (s, p) ∈ so := by
  obtain ⟨q, hq, rfl⟩ := List.mem_map.1 h
  exact ⟨q.2, hq⟩
theorem VD.beside {c1 c2 : List Str} {l1 l2 : Lgs} {j1 j2 : List Jn} (b : BesOk so kd c1 c2 l1 l2 j1 j2) (h1 : (c1 ++ c2).length ≤ 6) (h2 : (l1 ++ l2).length ≤ 6) : VD so kd (c1 ++ c2) (besL l1 l2) (besJ c1 l1 j1 c2 l2 j2) := by
  have hp : (besL l1 l2).Perm (l1 ++ l2) := sortT_perm _
  have hl : (besL l1 l2).length ≤ 6 := by rw [hp.length_eq]; exact h2
  have nd : ((besL l1 l2).map (·.1)).Nodup := (hp.map _).nodup_iff.2 b.nd
  refine ⟨b.v1.s, ⟨h1, fun k hk => (List.mem_append.1 hk).elim (b.v1.c.mem k) (b.v2.c.mem k)⟩, ⟨hl, fun l hl => (List.mem_append.1 (hp.mem_iff.1 hl)).elim (b.v1.l.mem l) (b.v2.l.mem l), sortT_idem _, nd⟩, ?_⟩
  unfold besJ
  rw [movedF_eq, movedF_eq, sortT_uniq ((sortT_perm _).append (sortT_perm _)), ← List.map_append]
  refine VJ_of b.v1.s.s h1 hl _ (fun p hp => ?_) ?_
  · rcases List.mem_append.1 hp with z | z
    · obtain ⟨j, hj, rfl⟩ := List.mem_map.1 z
      exact (b.v1.j.j j hj).p
    · obtain ⟨j, hj, rfl⟩ := List.mem_map.1 z
      exact (b.v2.j.j j hj).p
  · have e : ∀ a b : List Pr, flatP (a ++ b) = flatP a ++ flatP b := fun a b => List.flatMap_append
    rw [e, flat_mv fun i => (besP 0 c1.length (c1 ++ c2).length l1 (besL l1 l2)).getD i 0, flat_mv fun i => (besP c1.length c2.length (c1 ++ c2).length l2 (besL l1 l2)).getD i 0]
    refine ((b.v1.j.perm.map _).append (b.v2.j.perm.map _)).trans ?_
    rw [besP_ends, besP_ends, endsF_eq, cE_app, endsF_legs _ (nd_of_fst nd)]
    have e0 : ((List.range c1.length).flatMap fun i => (endsK kd (c1.getD i eS)).map fun s => (0 + i, s)) = cE kd c1 := by
      unfold cE; simp only [Nat.zero_add]
    rw [e0]
    have pl := hp.map fun l => ((c1 ++ c2).length + ixOf (besL l1 l2) l, l.2)
    rw [List.map_append] at pl
    refine .trans ?_ (pl.symm.append_left _)
    generalize cE kd c1 = A
    generalize ((List.range c2.length).flatMap fun i => (endsK kd (c2.getD i eS)).map fun s => (c1.length + i, s)) = B
    generalize l1.map (fun l => ((c1 ++ c2).length + ixOf (besL l1 l2) l, l.2)) = C
    generalize l2.map (fun l => ((c1 ++ c2).length + ixOf (besL l1 l2) l, l.2)) = E
    rw [List.append_assoc, List.append_assoc]
    refine .append_left _ ?_
    rw [← List.append_assoc, ← List.append_assoc]
    exact (List.perm_append_comm).append_right _
theorem less_perm {j : Jn} (h : j ∈ js) : (j :: lessF js j).Perm js := by
  have hi : js.idxOf j < js.length := List.idxOf_lt_length_iff.2 h
  have e : js[js.idxOf j] = j := List.getElem_idxOf hi
  have := cons_erase hi
  rw [e] at this
  exact this
/-- ends with places told by names -/
theorem spot_ends (n : Nat) (hn : n = cs.length) : (endsF kd cs ls).map (mvE (spotF n ls)) = ((cE kd cs).map (mvE Pl.num)) ++ ls.map fun l => (Pl.nm l.1, l.2) := by
  subst hn
  rw [mv_ends, ← range_map ls s00]
  unfold cE
  rw [List.map_flatMap]
  congr 1
  · rw [List.flatMap_def, List.flatMap_def]
    congr 1
    refine List.map_congr_left fun i hi => ?_
    have hi := List.mem_range.1 hi
    rw [List.map_map]
    have : spotF cs.length ls i = .num i := by unfold spotF; rw [if_pos hi]
    rw [this]; rfl
  · refine List.map_congr_left fun i hi => ?_
    have : spotF cs.length ls (cs.length + i) = .nm (ls.getD i s00).1 := by unfold spotF; rw [if_neg (by omega), Nat.add_sub_cancel_left]
    rw [this]
/-- all ends of named pairs -/
def flatN (nj : List NJ) : List PE2 := nj.flatMap fun p => [p.1, p.2]
theorem flatN_named (n : Nat) (js : List Jn) : flatN (namedF n ls js) = (endsJ js).map (mvE (spotF n ls)) := by
  unfold flatN namedF endsJ
  rw [List.flatMap_map, List.map_flatMap]; rfl
theorem named_perm (h : VJ so kd cs ls js) : (flatN (namedF cs.length ls js)).Perm ((cE kd cs).map (mvE Pl.num) ++ ls.map fun l => (Pl.nm l.1, l.2)) := by
  rw [flatN_named, ← spot_ends _ rfl]
  exact h.perm.map _
/-- a drawing made by names -/
theorem VD.named {L : Lgs} (s : VS so kd) (c : VC kd cs) (l : VL so L) (nj : List NJ) (h1 : ∀ p ∈ nj, (p.1.2, p.2.2) ∈ so) (h2 : (flatN nj).Perm ((cE kd cs).map (mvE Pl.num) ++ L.map fun l => (Pl.nm l.1, l.2))) : VD so kd cs L (withF cs.length L nj) := by
  refine ⟨s, c, l, ?_⟩
  have e : withF cs.length L nj = sortT ((nj.map fun p => ((resF cs.length (L.map (·.1)) p.1.1, p.1.2), (resF cs.length (L.map (·.1)) p.2.1, p.2.2)) : List Pr).map fun p => joinedF p.1 p.2) := by
    unfold withF; rw [List.map_map]; rfl
  rw [e]
  refine VJ_of s.s c.l6 l.l6 _ (fun p hp => ?_) ?_
  · obtain ⟨q, hq, rfl⟩ := List.mem_map.1 hp
    exact h1 q hq
  · have ef : flatP (nj.map fun p => ((resF cs.length (L.map (·.1)) p.1.1, p.1.2), (resF cs.length (L.map (·.1)) p.2.1, p.2.2))) = (flatN nj).map fun e => (resF cs.length (L.map (·.1)) e.1, e.2) := by
      unfold flatP flatN
      rw [List.flatMap_map, List.map_flatMap]; rfl
    rw [ef]
    refine (h2.map _).trans (.of_eq ?_)
    rw [endsF_eq, endsF_legs _ (nd_of_fst l.nd), List.map_append, List.map_map, List.map_map]
    congr 1
    · conv => rhs; rw [← List.map_id (cE kd cs)]
      rfl
    · refine List.map_congr_left fun q hq => ?_
      show (cs.length + (L.map (·.1)).idxOf q.1, q.2) = _
      have : (L.map (·.1)).idxOf q.1 = ixOf L q := by
        have hi := ix_lt hq
        have e := ix_at hq
        have := l.nd.idxOf_getElem (ixOf L q) (by rw [List.length_map]; exact hi)
        rw [List.getElem_map, e] at this
        exact this
      rw [this]
end
end R87
namespace R87
open PySem PySem.Spec PyProof.Rows L2
open PySem.W (Tup T4 T3 DatumOrd Datum)
section
variable {so : Srts} {kd : Knds} {cs : List Str} {ls : Lgs} {js : List Jn}
theorem names_ix {L : Lgs} (nd : (L.map (·.1)).Nodup) {q : Str × Str} (hq : q ∈ L) : (L.map (·.1)).idxOf q.1 = ixOf L q := by
  have hi := ix_lt hq
  have e := ix_at hq
  have := nd.idxOf_getElem (ixOf L q) (by rw [List.length_map]; exact hi)
  rw [List.getElem_map, e] at this
  exact this
theorem flatN_app (a b : List NJ) : flatN (a ++ b) = flatN a ++ flatN b := List.flatMap_append
theorem flatN_cons (p : NJ) (a : List NJ) : flatN (p :: a) = p.1 :: p.2 :: flatN a := rfl
theorem flatN_perm {a b : List NJ} (h : a.Perm b) : (flatN a).Perm (flatN b) := h.flatMap_right _
theorem inn_mem {n : Nat} {j : Jn} (h : j ∈ innF n js) : j ∈ js ∧ j.c < n := by
  obtain ⟨h1, h2⟩ := List.mem_filter.1 h
  exact ⟨h1, of_decide_eq_true h2⟩
/-- where the places of named pairs lie -/
theorem spots_of {L : Lgs} {nj : List NJ} (h : (flatN nj).Perm ((cE kd cs).map (mvE Pl.num) ++ L.map fun l => (Pl.nm l.1, l.2))) {p : NJ} (hp : p ∈ nj) {e : PE2} (he : e ∈ [p.1, p.2]) : (∃ i, i < cs.length ∧ e.1 = .num i) ∨ ∃ l ∈ L, e = (.nm l.1, l.2) := by
  have hm := h.mem_iff.1 (List.mem_flatMap.2 ⟨p, hp, he⟩)
  rcases List.mem_append.1 hm with z | z
  · obtain ⟨e', h1, rfl⟩ := List.mem_map.1 z
    unfold cE at h1
    obtain ⟨i, hi, h2⟩ := List.mem_flatMap.1 h1
    obtain ⟨s, _, rfl⟩ := List.mem_map.1 h2
    exact .inl ⟨i, List.mem_range.1 hi, rfl⟩
  · obtain ⟨l, hl, rfl⟩ := List.mem_map.1 z
    exact .inr ⟨l, hl, rfl⟩
theorem plOk_of {L : Lgs} {nj : List NJ} (h : (flatN nj).Perm ((cE kd cs).map (mvE Pl.num) ++ L.map fun l => (Pl.nm l.1, l.2))) {p : NJ} (hp : p ∈ nj) : plOk (L.map (·.1)) p.1.1 ∧ plOk (L.map (·.1)) p.2.1 := by
  have key : ∀ e ∈ [p.1, p.2], plOk (L.map (·.1)) e.1 := fun e he => by
    rcases spots_of h hp he with ⟨i, _, e1⟩ | ⟨l, hl, e1⟩
    · rw [e1]; exact True.intro
    · rw [e1]; exact List.mem_map.2 ⟨l, hl, rfl⟩
  exact ⟨key _ (.head _), key _ (.tail _ (.head _))⟩
theorem spots_in {L : Lgs} {nj : List NJ} (h : (flatN nj).Perm ((cE kd cs).map (mvE Pl.num) ++ L.map fun l => (Pl.nm l.1, l.2))) {p : NJ} (hp : p ∈ nj) : p.1.1 ∈ spotsF cs.length L ∧ p.2.1 ∈ spotsF cs.length L := by
  have key : ∀ e ∈ [p.1, p.2], e.1 ∈ spotsF cs.length L := fun e he => by
    unfold spotsF
    rcases spots_of h hp he with ⟨i, hi, e1⟩ | ⟨l, hl, e1⟩
    · rw [e1]; exact List.mem_append_left _ (List.mem_map.2 ⟨i, List.mem_range.2 hi, rfl⟩)
    · rw [e1]; exact List.mem_append_right _ (List.mem_map.2 ⟨l, hl, rfl⟩)
  exact ⟨key _ (.head _), key _ (.tail _ (.head _))⟩
theorem idx_map {α β : Type} [DecidableEq α] [DecidableEq β] (f : α → β) (hf : ∀ a b, f a = f b → a = b) (x : α) : ∀ xs : List α, ixOf (xs.map f) (f x) = ixOf xs x
  | [] => rfl
  | y :: ys => by
    have ih := idx_map f hf x ys
    unfold ixOf at *
    rw [List.map_cons, List.idxOf_cons, List.idxOf_cons, ih]
    by_cases z : y = x
    · subst z; simp
    · have z2 : f y ≠ f x := fun e => z (hf _ _ e)
      have b1 : (y == x) = false := by simpa using z
      have b2 : (f y == f x) = false := by simpa using z2
      rw [b1, b2]
theorem ix_range {n i : Nat} (h : i < n) : ixOf (List.range n) i = i := by
  have hl : i < (List.range n).length := by rw [List.length_range]; exact h
  have := (List.nodup_range (n := n)).idxOf_getElem i hl
  rw [List.getElem_range] at this
  exact this
theorem ix_app1 {α : Type} [DecidableEq α] {xs ys : List α} {x : α} (h : x ∈ xs) : ixOf (xs ++ ys) x = ixOf xs x := by
  unfold ixOf; rw [List.idxOf_append, if_pos h]
theorem ix_app2 {α : Type} [DecidableEq α] {xs ys : List α} {x : α} (h : x ∉ xs) : ixOf (xs ++ ys) x = xs.length + ixOf ys x := by
  unfold ixOf; rw [List.idxOf_append, if_neg h]; omega
/-- the law's places are the program's -/
theorem spots_res {L : Lgs} {nj : List NJ} (h : (flatN nj).Perm ((cE kd cs).map (mvE Pl.num) ++ L.map fun l => (Pl.nm l.1, l.2))) : lsewJ cs.length L nj = withF cs.length L nj := by
  have key : ∀ p ∈ nj, ∀ e ∈ [p.1, p.2], ixOf (spotsF cs.length L) e.1 = resF cs.length (L.map (·.1)) e.1 := fun p hp e he => by
    unfold spotsF
    rcases spots_of h hp he with ⟨i, hi, e1⟩ | ⟨l, hl, e1⟩
    · rw [e1, ix_app1 (List.mem_map.2 ⟨i, List.mem_range.2 hi, rfl⟩), idx_map Pl.num (fun a b e => by injection e), ix_range hi]; rfl
    · rw [e1]
      show ixOf _ (Pl.nm l.1) = cs.length + (L.map (·.1)).idxOf l.1
      rw [ix_app2 (fun z => by obtain ⟨i, _, e⟩ := List.mem_map.1 z; cases e), List.length_map, List.length_range]
      have e2 : (L.map fun q => Pl.nm q.1) = (L.map (·.1)).map Pl.nm := by rw [List.map_map]; rfl
      rw [e2, idx_map Pl.nm (fun a b e => by injection e)]
      rfl
  unfold lsewJ withF
  congr 1
  refine List.map_congr_left fun p hp => ?_
  have k1 := key p hp _ (.head _)
  have k2 := key p hp _ (.tail _ (.head _))
  unfold ixOf at k1 k2
  rw [k1, k2]
theorem cut_flat {j : Jn} {a b : Str} (C : CutOk so kd cs ls js j a b) : (flatN (cutNJ cs.length ls js j a b)).Perm ((cE kd cs).map (mvE Pl.num) ++ (cutL ls j a b).map fun l => (Pl.nm l.1, l.2)) := by
  obtain ⟨h1, h2⟩ := inn_mem C.j
  have hac := C.v.vp.ac j h1
  have hl : (cutL ls j a b).Perm (ls ++ [(a, j.d), (b, j.b)]) := sortT_perm _
  have hn := named_perm C.v.j
  have hc : (flatN (namedF cs.length ls (j :: lessF js j))).Perm (flatN (namedF cs.length ls js)) := flatN_perm ((less_perm h1).map _)
  have e1 : namedF cs.length ls (j :: lessF js j) = ((Pl.num j.a, j.b), (Pl.num j.c, j.d)) :: namedF cs.length ls (lessF js j) := by
    unfold namedF
    rw [List.map_cons]
    congr 2
    · unfold spotF; rw [if_pos (by omega)]
    · unfold spotF; rw [if_pos h2]
  rw [e1, flatN_cons] at hc
  refine .trans ?_ ((hl.map fun l => (Pl.nm l.1, l.2)).symm.append_left _)
  have k := hc.trans hn
  rw [List.map_append]
  unfold cutNJ
  have e0 : flatN [((Pl.num j.a, j.b), (Pl.nm a, j.d)), ((Pl.num j.c, j.d), (Pl.nm b, j.b))] = [(Pl.num j.a, j.b), (Pl.nm a, j.d), (Pl.num j.c, j.d), (Pl.nm b, j.b)] := rfl
  rw [flatN_app, e0]
  rw [List.perm_iff_count] at k ⊢
  intro e
  have := k e
  simp only [List.count_append, List.count_cons, List.count_nil, List.map_cons, List.map_nil] at this ⊢
  omega
theorem VD.cut {j : Jn} {a b : Str} (C : CutOk so kd cs ls js j a b) (h : ls.length + 2 ≤ 6) : VD so kd cs (cutL ls j a b) (withF cs.length (cutL ls j a b) (cutNJ cs.length ls js j a b)) := by
  obtain ⟨h1, h2⟩ := inn_mem C.j
  have hj := (C.v.j.j j h1).p
  have hs := C.v.s.s.sy _ hj
  have hl : (cutL ls j a b).Perm (ls ++ [(a, j.d), (b, j.b)]) := sortT_perm _
  have hm : ∀ {x y : Str}, (x, y) ∈ so → x ∈ so.map (·.1) := fun h => List.mem_map.2 ⟨_, h, rfl⟩
  refine VD.named C.v.s C.v.c ⟨by have e := hl.length_eq; rw [List.length_append] at e; show (cutL ls j a b).length ≤ 6; rw [e]; exact h, fun l hl2 => ?_, sortT_idem _, ?_⟩ _ (fun p hp => ?_) (cut_flat C)
  · rcases List.mem_append.1 (hl.mem_iff.1 hl2) with z | z
    · exact C.v.l.mem l z
    · rcases List.mem_cons.1 z with z | z
      · rw [z]; exact ⟨C.na, hm hs⟩
      · rw [List.mem_singleton.1 z]; exact ⟨C.nb, hm hj⟩
  · refine (hl.map _).nodup_iff.2 ?_
    rw [List.map_append]
    refine List.nodup_append.2 ⟨C.v.l.nd, by simpa using C.ab, fun x hx y hy => ?_⟩
    have hy : y = a ∨ y = b := by simpa using hy
    rcases hy with rfl | rfl
    · exact fun e => C.a (by rw [← e]; exact hx)
    · exact fun e => C.b (by rw [← e]; exact hx)
  · unfold cutNJ at hp
    rcases List.mem_append.1 hp with z | z
    · obtain ⟨x, hx, rfl⟩ := List.mem_map.1 z
      exact (C.v.j.j x (lessF_mem hx)).p
    · rcases List.mem_cons.1 z with z | z
      · rw [z]; exact hj
      · rw [List.mem_singleton.1 z]; exact hs
theorem lt_false {a b : En2} (h : a.1 < b.1) : DatumOrd.lt b a = false := by
  have e : DatumOrd.lt b a = if b.1 = a.1 then DatumOrd.lt b.2 a.2 else decide (b.1 < a.1) := rfl
  rw [e, if_neg (by omega)]
  exact decide_eq_false (by omega)
/-- the law's cut is the program's -/
theorem lcut_eq {j : Jn} {a b : Str} (C : CutOk so kd cs ls js j a b) : lcutJ cs.length ls js j a b = withF cs.length (cutL ls j a b) (cutNJ cs.length ls js j a b) := by
  obtain ⟨h1, h2⟩ := inn_mem C.j
  have hac := C.v.vp.ac j h1
  have hl : (cutL ls j a b).Perm (ls ++ [(a, j.d), (b, j.b)]) := sortT_perm _
  have nd : ((cutL ls j a b).map (·.1)).Nodup := by
    refine (hl.map _).nodup_iff.2 ?_
    rw [List.map_append]
    refine List.nodup_append.2 ⟨C.v.l.nd, by simpa using C.ab, fun x hx y hy => ?_⟩
    have hy : y = a ∨ y = b := by simpa using hy
    rcases hy with rfl | rfl
    · exact fun e => C.a (by rw [← e]; exact hx)
    · exact fun e => C.b (by rw [← e]; exact hx)
  unfold lcutJ withF cutNJ lcutX
  rw [List.map_append]
  congr 2
  · unfold namedF
    rw [List.map_map]
    refine List.map_congr_left fun x hx => ?_
    have hb := C.p x (lessF_mem hx)
    have key : ∀ p, p < cs.length + ls.length → (lcutP cs.length ls (cutL ls j a b)).getD p 0 = resF cs.length ((cutL ls j a b).map (·.1)) (spotF cs.length ls p) := fun p hp => by
      unfold lcutP spotF
      by_cases z : p < cs.length
      · rw [if_pos z, getD_app1 (by rw [List.length_range]; exact z), range_getD z]; rfl
      · rw [if_neg z]
        have hm : p - cs.length < ls.length := by omega
        have hq : ls.getD (p - cs.length) s00 ∈ cutL ls j a b := hl.mem_iff.2 (List.mem_append_left _ (List.mem_of_getElem? (getD_some (d := s00) hm)))
        show _ = cs.length + ((cutL ls j a b).map (·.1)).idxOf (ls.getD (p - cs.length) s00).1
        rw [names_ix nd hq]
        have e : p = cs.length + (p - cs.length) := by omega
        conv => lhs; rw [e]
        rw [getD_app2 (by rw [List.length_range]), List.getD_eq_getElem?_getD, List.getElem?_map, getD_some (d := s00) hm]
        rfl
    rw [key _ hb.1, key _ hb.2]; rfl
  · have m1 : (a, j.d) ∈ cutL ls j a b := hl.mem_iff.2 (List.mem_append_right _ (.head _))
    have m2 : (b, j.b) ∈ cutL ls j a b := hl.mem_iff.2 (List.mem_append_right _ (.tail _ (.head _)))
    show _ = [joinedF (j.a, j.b) (cs.length + ((cutL ls j a b).map (·.1)).idxOf a, j.d), joinedF (j.c, j.d) (cs.length + ((cutL ls j a b).map (·.1)).idxOf b, j.b)]
    rw [show ((cutL ls j a b).map (·.1)).idxOf a = ixOf (cutL ls j a b) (a, j.d) from names_ix nd m1, show ((cutL ls j a b).map (·.1)).idxOf b = ixOf (cutL ls j a b) (b, j.b) from names_ix nd m2]
    have e1 := joinedF_id (j := ⟨j.a, j.b, cs.length + ixOf (cutL ls j a b) (a, j.d), j.d⟩) (lt_false (by show j.a < cs.length + _; omega))
    have e2 := joinedF_id (j := ⟨j.c, j.d, cs.length + ixOf (cutL ls j a b) (b, j.b), j.b⟩) (lt_false (by show j.c < cs.length + _; omega))
    rw [← e1, ← e2]
end
end R87
namespace R87
open PySem PySem.Spec PyProof.Rows L2
open PySem.W (Tup T4 T3 DatumOrd Datum)
section
variable {so : Srts} {kd : Knds} {cs : List Str} {ls : Lgs} {js : List Jn}
def cln (a : Str) (p : NJ) : Prop := p.1.1 ≠ .nm a ∧ p.2.1 ≠ .nm a
def hasN (a : Str) (N : List NJ) : Nat := ((flatN N).filter fun e => decide (e.1 = .nm a)).length
theorem hasN_cons (a : Str) (p : NJ) (N : List NJ) : hasN a (p :: N) = (if p.1.1 = .nm a then 1 else 0) + (if p.2.1 = .nm a then 1 else 0) + hasN a N := by
  unfold hasN
  rw [flatN_cons, List.filter_cons, List.filter_cons]
  by_cases h1 : p.1.1 = .nm a
  · by_cases h2 : p.2.1 = .nm a
    · rw [if_pos (decide_eq_true h1), if_pos (decide_eq_true h2), if_pos h1, if_pos h2, List.length_cons, List.length_cons]; omega
    · rw [if_pos (decide_eq_true h1), if_neg (by simpa using h2), if_pos h1, if_neg h2, List.length_cons]; omega
  · by_cases h2 : p.2.1 = .nm a
    · rw [if_neg (by simpa using h1), if_pos (decide_eq_true h2), if_neg h1, if_pos h2, List.length_cons]; omega
    · rw [if_neg (by simpa using h1), if_neg (by simpa using h2), if_neg h1, if_neg h2]; omega
theorem cln_of (a : Str) : ∀ N : List NJ, hasN a N = 0 → ∀ q ∈ N, cln a q
  | [], _, q, h => by cases h
  | p :: N, h, q, hq => by
    rw [hasN_cons] at h
    rcases List.mem_cons.1 hq with z | z
    · subst z
      constructor
      · intro e; rw [if_pos e] at h; omega
      · intro e; rw [if_pos e] at h; omega
    · exact cln_of a N (by omega) q z
/-- where a leg's name stands -/
structure At1 (a : Str) (N : List NJ) (X Y : List NJ) (p : NJ) (s : Str) (e : PE2) : Prop where
  eq : N = X ++ p :: Y
  x : ∀ q ∈ X, cln a q
  y : ∀ q ∈ Y, cln a q
  ne : e.1 ≠ .nm a
  p : p = ((.nm a, s), e) ∨ p = (e, (.nm a, s))
theorem one_at (a : Str) : ∀ N : List NJ, hasN a N = 1 → ∃ X Y p s e, At1 a N X Y p s e
  | [], h => by cases h
  | p :: N, h => by
    rw [hasN_cons] at h
    obtain ⟨⟨p1, s1⟩, ⟨p2, s2⟩⟩ := p
    by_cases h1 : p1 = .nm a
    · by_cases h2 : p2 = .nm a
      · simp only [h1, h2, if_true] at h; omega
      · refine ⟨[], N, _, s1, (p2, s2), rfl, (fun q hq => by cases hq), cln_of a N (by simp only [h1, h2, if_true, if_false] at h; omega), h2, .inl (by rw [h1])⟩
    · by_cases h2 : p2 = .nm a
      · refine ⟨[], N, _, s2, (p1, s1), rfl, (fun q hq => by cases hq), cln_of a N (by simp only [h1, h2, if_true, if_false] at h; omega), h1, .inr (by rw [h2])⟩
      · obtain ⟨X, Y, p, s, e, k⟩ := one_at a N (by simp only [h1, h2, if_false] at h; omega)
        refine ⟨((p1, s1), (p2, s2)) :: X, Y, p, s, e, by rw [k.eq]; rfl, fun q hq => ?_, k.y, k.ne, k.p⟩
        rcases List.mem_cons.1 hq with z | z
        · rw [z]; exact ⟨h1, h2⟩
        · exact k.x q z
abbrev farS (name : Str) (acc : Option PE2) (p : NJ) : Option PE2 := if p.2.1 = .nm name then some p.1 else if p.1.1 = .nm name then some p.2 else acc
theorem far_cln (a : Str) : ∀ (N : List NJ) (acc : Option PE2), (∀ q ∈ N, cln a q) → N.foldl (farS a) acc = acc
  | [], _, _ => rfl
  | p :: N, acc, h => by
    have := h p (.head _)
    rw [List.foldl_cons]
    have e : farS a acc p = acc := by unfold farS; rw [if_neg this.2, if_neg this.1]
    rw [e]
    exact far_cln a N acc fun q hq => h q (.tail _ hq)
theorem At1.far {a : Str} {N X Y : List NJ} {p : NJ} {s : Str} {e : PE2} (k : At1 a N X Y p s e) : farF N a = some e := by
  show N.foldl (farS a) none = _
  rw [k.eq, List.foldl_append, far_cln a X _ k.x, List.foldl_cons, far_cln a Y _ k.y]
  unfold farS
  rcases k.p with z | z
  · subst z
    show (if e.1 = .nm a then _ else _) = _
    rw [if_neg k.ne, if_pos rfl]
  · subst z
    show (if Pl.nm a = .nm a then _ else _) = _
    rw [if_pos rfl]
theorem some_cln (a : Str) : ∀ (N : List NJ), (∀ q ∈ N, cln a q) → N.findSome? (fun p => if p.1.1 = .nm a then some p.2 else if p.2.1 = .nm a then some p.1 else none) = none
  | [], _ => rfl
  | p :: N, h => by
    have := h p (.head _)
    rw [List.findSome?_cons, if_neg this.1, if_neg this.2]
    exact some_cln a N fun q hq => h q (.tail _ hq)
theorem At1.endAt {a : Str} {n : Nat} {X Y : List NJ} {p : NJ} {s : Str} {e : PE2} (k : At1 a (namedF n ls js) X Y p s e) : endAtF n ls js a = some e := by
  have hf : ∀ p : NJ, p = ((Pl.nm a, s), e) ∨ p = (e, (Pl.nm a, s)) → (if p.1.1 = .nm a then some p.2 else if p.2.1 = .nm a then some p.1 else none) = some e := fun p h => by
    rcases h with z | z
    · subst z; exact if_pos rfl
    · subst z
      exact (if_neg k.ne).trans (if_pos rfl)
  unfold endAtF
  rw [k.eq, List.findSome?_append, some_cln a X k.x, Option.none_or, List.findSome?_cons, hf p k.p]
theorem hasN_perm {N : List NJ} {M : List PE2} (h : (flatN N).Perm M) (a : Str) : hasN a N = (M.filter fun e => decide (e.1 = .nm a)).length := (h.filter _).length_eq
theorem leg_one {a : Str} (nd : (ls.map (·.1)).Nodup) (h : a ∈ ls.map (·.1)) : (ls.filter fun l => decide (l.1 = a)).length = 1 := by
  have e : (ls.filter fun l => decide (l.1 = a)).length = (ls.map (·.1)).count a := by
    rw [← List.countP_eq_length_filter, List.count_eq_countP, List.countP_map]
    refine List.countP_congr fun x _ => ?_
    simp
  rw [e, nd.count, if_pos h]
theorem named_one (h : VJ so kd cs ls js) (nd : (ls.map (·.1)).Nodup) {a : Str} (ha : a ∈ ls.map (·.1)) : hasN a (namedF cs.length ls js) = 1 := by
  rw [hasN_perm (named_perm h), List.filter_append, List.length_append]
  have e1 : (((cE kd cs).map (mvE Pl.num)).filter fun e => decide (e.1 = .nm a)) = [] := by
    rw [List.filter_eq_nil_iff]
    intro e he
    obtain ⟨x, _, rfl⟩ := List.mem_map.1 he
    simp
  have e2 : ((ls.map fun l => (Pl.nm l.1, l.2)).filter fun e => decide (e.1 = .nm a)).length = (ls.filter fun l => decide (l.1 = a)).length := by
    rw [List.filter_map, List.length_map]
    congr 1
    refine List.filter_congr fun x _ => ?_
    simp
  rw [e1, e2, leg_one nd ha]; rfl
theorem At1.mem {a : Str} {N X Y : List NJ} {p : NJ} {s : Str} {e : PE2} (k : At1 a N X Y p s e) : p ∈ N ∧ (Pl.nm a, s) ∈ [p.1, p.2] ∧ e ∈ [p.1, p.2] := by
  refine ⟨by rw [k.eq]; simp, ?_, ?_⟩
  · rcases k.p with z | z <;> subst z <;> simp
  · rcases k.p with z | z <;> subst z <;> simp
theorem At1.leg {a : Str} {X Y : List NJ} {p : NJ} {s : Str} {e : PE2} (h : VJ so kd cs ls js) (k : At1 a (namedF cs.length ls js) X Y p s e) : (a, s) ∈ ls := by
  obtain ⟨m1, m2, _⟩ := k.mem
  rcases spots_of (named_perm h) m1 m2 with ⟨i, _, e1⟩ | ⟨l, hl, e1⟩
  · cases e1
  · injection e1 with e1 e2
    injection e1 with e1
    have : l = (a, s) := by rw [e1, e2]
    rw [← this]; exact hl
theorem named_so (V : VSo so) (h : ∀ j ∈ js, (j.b, j.d) ∈ so) {n : Nat} {p : NJ} (hp : p ∈ namedF n ls js) : (p.1.2, p.2.2) ∈ so ∧ (p.2.2, p.1.2) ∈ so := by
  obtain ⟨j, hj, rfl⟩ := List.mem_map.1 hp
  exact ⟨h j hj, V.sy _ (h j hj)⟩
/-- a leg's end, told by program and law -/
theorem leg_end (V : VD so kd cs ls js) {a : Str} (ha : a ∈ ls.map (·.1)) : ∃ X Y p s e, At1 a (namedF cs.length ls js) X Y p s e ∧ farF (namedF cs.length ls js) a = some e ∧ endAtF cs.length ls js a = some e ∧ (a, s) ∈ ls ∧ ∃ q, (e.2, q) ∈ so := by
  obtain ⟨X, Y, p, s, e, k⟩ := one_at a _ (named_one V.j V.l.nd ha)
  refine ⟨X, Y, p, s, e, k, k.far, k.endAt, k.leg V.j, ?_⟩
  obtain ⟨m1, _, m3⟩ := k.mem
  obtain ⟨h1, h2⟩ := named_so (ls := ls) V.s.s (fun j hj => (V.j.j j hj).p) m1
  rcases List.mem_cons.1 m3 with z | z
  · rw [z]; exact ⟨_, h1⟩
  · rw [List.mem_singleton.1 z]; exact ⟨_, h2⟩
theorem sewL_perm (nd : (ls.map (·.1)).Nodup) {a b s t : Str} (ha : (a, s) ∈ ls) (hb : (b, t) ∈ ls) (ab : a ≠ b) : ls.Perm ((a, s) :: (b, t) :: sewL ls a b) := by
  have uq : ∀ x ∈ ls, ∀ y ∈ ls, x.1 = y.1 → x = y := fun x hx y hy e => by
    have h := names_ix nd hx
    have h2 := names_ix nd hy
    rw [e] at h
    have h3 := ix_at hx
    have h4 := ix_at hy
    rw [← h3, ← h4]
    congr 1
    omega
  have mem : ∀ x, x ∈ sewL ls a b ↔ x ∈ ls ∧ x.1 ≠ a ∧ x.1 ≠ b := fun x => by unfold sewL; simp
  refine (List.perm_ext_iff_of_nodup (nd_of_fst nd) ?_).2 fun x => ?_
  · refine List.nodup_cons.2 ⟨fun h => ?_, List.nodup_cons.2 ⟨fun h => ?_, (nd_of_fst nd).filter _⟩⟩
    · rcases List.mem_cons.1 h with z | z
      · injection z with z _; exact ab z
      · exact ((mem _).1 z).2.1 rfl
    · exact ((mem _).1 h).2.2 rfl
  · rw [List.mem_cons, List.mem_cons, mem]
    constructor
    · intro h
      by_cases z : x.1 = a
      · exact .inl (uq x h _ ha z)
      · by_cases z2 : x.1 = b
        · exact .inr (.inl (uq x h _ hb z2))
        · exact .inr (.inr ⟨h, z, z2⟩)
    · rintro (rfl | rfl | h)
      · exact ha
      · exact hb
      · exact h.1
theorem filt_all' {α : Type} {p : α → Bool} {N : List α} (h : ∀ q ∈ N, p q = true) : N.filter p = N := List.filter_eq_self.2 h
theorem filt_all0 {p : NJ → Bool} {N : List NJ} (h : ∀ q ∈ N, p q = true) : N.filter p = N := List.filter_eq_self.2 h
/-- the ends of what is sewn -/
theorem sew_flat (V : VD so kd cs ls js) {a b : Str} (ab : a ≠ b) (ha : a ∈ ls.map (·.1)) (hb : b ∈ ls.map (·.1)) {e1 e2 : PE2} (f1 : farF (namedF cs.length ls js) a = some e1) (f2 : farF (namedF cs.length ls js) b = some e2) (ne : e1.1 ≠ .nm b) :
    (flatN (sewNJ cs.length ls js a b e1 e2)).Perm ((cE kd cs).map (mvE Pl.num) ++ (sewL ls a b).map fun l => (Pl.nm l.1, l.2)) := by
  obtain ⟨X, Y, p, s, e, k, g1, _, la, _⟩ := leg_end V ha
  rw [g1] at f1
  obtain rfl := Option.some.inj f1
  obtain ⟨X2, Y2, p2, s2, u, k2, g2, _, lb, _⟩ := leg_end V hb
  rw [g2] at f2
  obtain rfl := Option.some.inj f2
  have hn := named_perm V.j
  generalize hN : namedF cs.length ls js = N at k k2 hn g1 g2
  have ab2 : Pl.nm a ≠ Pl.nm b := fun e => ab (by injection e)
  -- p is clean of b
  have pc : cln b p := by
    rcases k.p with z | z <;> subst z
    · exact ⟨ab2, ne⟩
    · exact ⟨ne, ab2⟩
  have hp : N.Perm (p :: (X ++ Y)) := by rw [k.eq]; exact List.perm_middle
  have m2 : p2 ∈ X ++ Y := by
    have h := hp.mem_iff.1 k2.mem.1
    rcases List.mem_cons.1 h with z | z
    · subst z
      rcases k2.p with w | w
      · rw [w] at pc; exact absurd rfl pc.1
      · rw [w] at pc; exact absurd rfl pc.2
    · exact z
  obtain ⟨A, B, eAB⟩ := List.append_of_mem m2
  have hp2 : N.Perm (p :: p2 :: (A ++ B)) := hp.trans (.cons _ (by rw [eAB]; exact List.perm_middle))
  have clA : ∀ q ∈ A ++ B, cln a q ∧ cln b q := fun q hq => by
    have h1 : q ∈ X ++ Y := by
      rw [eAB]
      rcases List.mem_append.1 hq with z | z
      · exact List.mem_append_left _ z
      · exact List.mem_append_right _ (.tail _ z)
    refine ⟨(List.mem_append.1 h1).elim (k.x q) (k.y q), ?_⟩
    have h3 : hasN b N = 1 := by rw [← hN]; exact named_one V.j V.l.nd hb
    have h4 : hasN b N = hasN b (p :: p2 :: (A ++ B)) := by
      unfold hasN
      exact ((flatN_perm hp2).filter _).length_eq
    rw [hasN_cons, hasN_cons] at h4
    have h5 : (if p2.1.1 = .nm b then 1 else 0) + (if p2.2.1 = .nm b then 1 else 0) ≥ 1 := by
      rcases k2.p with w | w <;> rw [w]
      · show (if Pl.nm b = .nm b then 1 else 0) + _ ≥ 1
        rw [if_pos rfl]; omega
      · show _ + (if Pl.nm b = .nm b then 1 else 0) ≥ 1
        rw [if_pos rfl]; omega
    exact cln_of b _ (by omega) q hq
  have ef : (N.filter fun p => decide (p.1.1 ∉ [Pl.nm a, Pl.nm b]) && decide (p.2.1 ∉ [Pl.nm a, Pl.nm b])).Perm (A ++ B) := by
    refine (hp2.filter _).trans ?_
    let pr : NJ → Bool := fun p => decide (p.1.1 ∉ [Pl.nm a, Pl.nm b]) && decide (p.2.1 ∉ [Pl.nm a, Pl.nm b])
    show (List.filter pr _).Perm _
    have n1 : ¬ (decide (p.1.1 ∉ [Pl.nm a, Pl.nm b]) && decide (p.2.1 ∉ [Pl.nm a, Pl.nm b])) = true := by
      rcases k.p with z | z <;> rw [z] <;> simp
    have n2 : ¬ (decide (p2.1.1 ∉ [Pl.nm a, Pl.nm b]) && decide (p2.2.1 ∉ [Pl.nm a, Pl.nm b])) = true := by
      rcases k2.p with z | z <;> rw [z] <;> simp
    rw [List.filter_cons_of_neg (p := pr) n1, List.filter_cons_of_neg (p := pr) n2, filt_all0 fun q hq => ?_]
    obtain ⟨⟨c1, c2⟩, c3, c4⟩ := clA q hq
    show (decide _ && decide _) = true
    simp [c1, c2, c3, c4]
  have pf : (flatN [p]).Perm [(Pl.nm a, s), e] := by
    rcases k.p with z | z <;> rw [z]
    · exact .refl _
    · exact .swap _ _ _
  have pf2 : (flatN [p2]).Perm [(Pl.nm b, s2), u] := by
    rcases k2.p with z | z <;> rw [z]
    · exact .refl _
    · exact .swap _ _ _
  have big := ((flatN_perm hp2).symm.trans hn).trans ((((sewL_perm V.l.nd la lb ab).map fun l => (Pl.nm l.1, l.2))).append_left _)
  have e0 : flatN (p :: p2 :: (A ++ B)) = flatN [p] ++ (flatN [p2] ++ flatN (A ++ B)) := rfl
  rw [e0] at big
  have big := ((pf.append (pf2.append_right _)).symm.trans big)
  unfold sewNJ
  rw [hN, flatN_app]
  have ef2 := flatN_perm ef
  rw [List.perm_iff_count] at big ef2 ⊢
  intro x
  have b1 := big x
  have b2 := ef2 x
  have e9 : flatN [(e, u)] = [e, u] := rfl
  rw [e9]
  simp only [List.count_append, List.count_cons, List.count_nil, List.map_cons] at b1 b2 ⊢
  omega
theorem VD.sew (V : VD so kd cs ls js) {a b : Str} (ab : a ≠ b) (ha : a ∈ ls.map (·.1)) (hb : b ∈ ls.map (·.1)) {e1 e2 : PE2} (f1 : farF (namedF cs.length ls js) a = some e1) (f2 : farF (namedF cs.length ls js) b = some e2) (ne : e1.1 ≠ .nm b) (hs : (e1.2, e2.2) ∈ so) :
    VD so kd cs (sewL ls a b) (withF cs.length (sewL ls a b) (sewNJ cs.length ls js a b e1 e2)) := by
  have sl : (sewL ls a b).Sublist ls := List.filter_sublist
  refine VD.named V.s V.c ⟨Nat.le_trans sl.length_le V.l.l6, fun l hl => V.l.mem l (sl.subset hl), sortT_id ((sorted_of V.l.srt).sublist sl), V.l.nd.sublist (sl.map _)⟩ _ (fun p hp => ?_) (sew_flat V ab ha hb f1 f2 ne)
  unfold sewNJ at hp
  rcases List.mem_append.1 hp with z | z
  · exact (named_so (ls := ls) V.s.s (fun j hj => (V.j.j j hj).p) (List.mem_filter.1 z).1).1
  · rw [List.mem_singleton.1 z]; exact hs
theorem so_fun (V : VSo so) {s p q : Str} (h1 : (s, p) ∈ so) (h2 : (s, q) ∈ so) : p = q := by
  have a := names_ix V.nd h1
  have b := names_ix V.nd h2
  have a2 := ix_at h1
  have b2 := ix_at h2
  have e : ixOf so (s, p) = ixOf so (s, q) := by rw [← a, ← b]
  have : (s, p) = (s, q) := by
    rw [← a2, ← b2]
    congr 1
  injection this
end
end R87
namespace R87
open PySem PySem.Spec PyProof.Rows L2
open PySem.W (Tup T4 T3 DatumOrd Datum)
section
variable {so : Srts} {kd : Knds} {cs : List Str} {ls : Lgs} {js : List Jn}
/-- rising places, closed under joins -/
structure Rw (n m : Nat) (js : List Jn) (r : List Nat) : Prop where
  lt : r.Pairwise (· < ·)
  b : ∀ p ∈ r, p < n + m
  c : ∀ j ∈ js, (j.a ∈ r ↔ j.c ∈ r)
theorem rise_split {n : Nat} {r : List Nat} (h : r.Pairwise (· < ·)) : r = (r.filter fun p => decide (p < n)) ++ r.filter fun p => decide (n ≤ p) := by
  refine nat_uniq h (List.pairwise_append.2 ⟨h.filter _, h.filter _, fun x hx y hy => ?_⟩) fun x => ?_
  · have := of_decide_eq_true (List.mem_filter.1 hx).2
    have := of_decide_eq_true (List.mem_filter.1 hy).2
    omega
  · rw [List.mem_append, List.mem_filter, List.mem_filter, decide_eq_true_eq, decide_eq_true_eq]
    constructor
    · intro hx
      by_cases z : x < n
      · exact .inl ⟨hx, z⟩
      · exact .inr ⟨hx, by omega⟩
    · rintro (h | h)
      · exact h.1
      · exact h.1
theorem flat_filter {α β : Type} (f : α → List β) (p : α → Bool) : ∀ xs : List α, (xs.filter p).flatMap f = xs.flatMap fun x => if p x = true then f x else []
  | [] => rfl
  | x :: xs => by
    rw [List.flatMap_cons, ← flat_filter f p xs]
    by_cases z : p x = true
    · rw [List.filter_cons_of_pos z, if_pos z, List.flatMap_cons]
    · rw [List.filter_cons_of_neg z, if_neg z]; rfl
theorem filter_flat {α β : Type} (f : α → List β) (p : β → Bool) : ∀ xs : List α, (xs.flatMap f).filter p = xs.flatMap fun x => (f x).filter p
  | [] => rfl
  | x :: xs => by rw [List.flatMap_cons, List.flatMap_cons, List.filter_append, filter_flat f p xs]
theorem prt_ends {n m : Nat} {r : List Nat} (h : Rw n m js r) : endsJ (js.filter fun j => decide (j.a ∈ r)) = (endsJ js).filter fun e => decide (e.1 ∈ r) := by
  unfold endsJ
  rw [flat_filter, filter_flat, List.flatMap_def, List.flatMap_def]
  congr 1
  refine List.map_congr_left fun j hj => ?_
  have hc := h.c j hj
  by_cases z : j.a ∈ r
  · have z2 := hc.1 z
    rw [if_pos (decide_eq_true z)]
    exact (filt_all' fun e he => by
      rcases List.mem_cons.1 he with w | w
      · rw [w]; exact decide_eq_true z
      · rw [List.mem_singleton.1 w]; exact decide_eq_true z2).symm
  · have z2 : j.c ∉ r := fun w => z (hc.2 w)
    rw [if_neg (by simpa using z)]
    exact (List.filter_eq_nil_iff.2 fun e he => by
      rcases List.mem_cons.1 he with w | w
      · rw [w]; simpa using z
      · rw [List.mem_singleton.1 w]; simpa using z2).symm
theorem prt_corners (r : List Nat) : (cE kd cs).filter (fun e => decide (e.1 ∈ r)) = ((List.range cs.length).filter fun p => decide (p ∈ r)).flatMap fun i => (endsK kd (cs.getD i eS)).map fun s => (i, s) := by
  unfold cE
  rw [filter_flat, flat_filter, List.flatMap_def, List.flatMap_def]
  congr 1
  refine List.map_congr_left fun i _ => ?_
  rw [List.filter_map]
  by_cases z : i ∈ r
  · rw [if_pos (decide_eq_true z)]
    exact congrArg (List.map _) (filt_all' fun s _ => decide_eq_true z)
  · rw [if_neg (by simpa using z)]
    exact List.map_eq_nil_iff.2 (List.filter_eq_nil_iff.2 fun s _ => by simpa using z)
theorem prt_range {n m : Nat} {r : List Nat} (h : Rw n m js r) : ((List.range n).filter fun p => decide (p ∈ r)) = r.filter fun p => decide (p < n) :=
  nat_uniq ((range_lt n).filter _) (h.lt.filter _) fun x => by
    rw [List.mem_filter, List.mem_filter, List.mem_range, decide_eq_true_eq, decide_eq_true_eq]
    exact ⟨fun a => ⟨a.2, a.1⟩, fun a => ⟨a.2, a.1⟩⟩
theorem prt_range2 {n m : Nat} {r : List Nat} (h : Rw n m js r) : (((List.range m).filter fun p => decide (n + p ∈ r)).map fun p => n + p) = r.filter fun p => decide (n ≤ p) := by
  refine nat_uniq ?_ (h.lt.filter _) fun x => ?_
  · exact ((range_lt m).filter _).map _ fun a b h => by omega
  · rw [List.mem_map, List.mem_filter, decide_eq_true_eq]
    constructor
    · rintro ⟨p, hp, rfl⟩
      have hp := List.mem_filter.1 hp
      exact ⟨of_decide_eq_true hp.2, by omega⟩
    · rintro ⟨h1, h2⟩
      refine ⟨x - n, List.mem_filter.2 ⟨List.mem_range.2 (by have := h.b x h1; omega), decide_eq_true ?_⟩, by omega⟩
      rw [show n + (x - n) = x by omega]; exact h1
theorem prtL_eq {r : List Nat} (h : Rw cs.length ls.length js r) : prtL cs ls r = ((List.range ls.length).filter fun p => decide (cs.length + p ∈ r)).map fun p => ls.getD p s00 := by
  unfold prtL
  rw [← prt_range2 h, List.map_map]
  refine List.map_congr_left fun p _ => ?_
  show ls.getD (cs.length + p - cs.length) s00 = _
  rw [Nat.add_sub_cancel_left]
theorem prtL_sub {r : List Nat} (h : Rw cs.length ls.length js r) : (prtL cs ls r).Sublist ls := by
  rw [prtL_eq h]
  have e := range_map ls s00 id
  rw [List.map_id] at e
  conv => rhs; rw [← e]
  exact List.filter_sublist.map _
theorem idx_app_at {A B : List Nat} (nd : (A ++ B).Nodup) {i : Nat} (h : i < A.length) : (A ++ B).idxOf (A.getD i 0) = i := by
  have := idx_at nd (i := i) (by rw [List.length_append]; omega)
  rwa [getD_app1 h] at this
theorem idx_app_at2 {A B : List Nat} (nd : (A ++ B).Nodup) {i : Nat} (h : i < B.length) : (A ++ B).idxOf (B.getD i 0) = A.length + i := by
  have := idx_at nd (i := A.length + i) (by rw [List.length_append]; omega)
  rwa [getD_app2 rfl] at this
theorem flat_at {β : Type} (A : List Nat) (f : Nat → List β) : A.flatMap f = (List.range A.length).flatMap fun i => f (A.getD i 0) := by
  have h1 := range_map A 0 id
  rw [List.map_id] at h1
  conv => lhs; rw [← h1]
  rw [List.flatMap_map]; rfl
theorem prt_all {r : List Nat} (h : Rw cs.length ls.length js r) : ((endsF kd cs ls).filter fun e => decide (e.1 ∈ r)).map (mvE fun p => r.idxOf p) = endsF kd (prtC cs r) (prtL cs ls r) := by
  have er := rise_split (n := cs.length) h.lt
  have nd : r.Nodup := h.lt.imp fun a => Nat.ne_of_lt a
  rw [endsF_eq, endsF_eq, List.filter_append, List.map_append, prt_corners, prt_range h]
  have lc : (prtC cs r).length = (r.filter fun p => decide (p < cs.length)).length := by unfold prtC; rw [List.length_map]
  have ll : (prtL cs ls r).length = (r.filter fun p => decide (cs.length ≤ p)).length := by unfold prtL; rw [List.length_map]
  generalize hA : (r.filter fun p => decide (p < cs.length)) = A at *
  generalize hB : (r.filter fun p => decide (cs.length ≤ p)) = B at *
  have nd2 : (A ++ B).Nodup := by rw [← er]; exact nd
  congr 1
  · unfold cE
    rw [lc, List.map_flatMap, flat_at A, List.flatMap_def, List.flatMap_def]
    congr 1
    refine List.map_congr_left fun i hi => ?_
    have hi := List.mem_range.1 hi
    rw [List.map_map]
    have e1 : r.idxOf (A.getD i 0) = i := by rw [er]; exact idx_app_at nd2 hi
    have e2 : (prtC cs r).getD i eS = cs.getD (A.getD i 0) eS := by
      unfold prtC
      rw [hA, List.getD_eq_getElem?_getD, List.getElem?_map, getD_some (d := 0) hi]; rfl
    rw [e2]
    refine List.map_congr_left fun s _ => ?_
    show (r.idxOf (A.getD i 0), s) = _
    rw [e1]
  · rw [ll, lc, List.filter_map, List.map_map]
    have eB : B = ((List.range ls.length).filter fun p => decide (cs.length + p ∈ r)).map fun p => cs.length + p := by rw [← hB]; exact (prt_range2 h).symm
    have e3 : ((List.range ls.length).filter ((fun e : En2 => decide (e.1 ∈ r)) ∘ fun i => (cs.length + i, (ls.getD i s00).2))) = (List.range ls.length).filter fun p => decide (cs.length + p ∈ r) := rfl
    rw [e3]
    generalize hF : ((List.range ls.length).filter fun p => decide (cs.length + p ∈ r)) = F at *
    have lF : F.length = B.length := by rw [eB, List.length_map]
    have k := range_map F 0 fun p => (r.idxOf (cs.length + p), (ls.getD p s00).2)
    show F.map (fun p => (r.idxOf (cs.length + p), (ls.getD p s00).2)) = _
    rw [← k, lF]
    refine List.map_congr_left fun i hi => ?_
    have hi := List.mem_range.1 hi
    have b1 : B.getD i 0 = cs.length + F.getD i 0 := by
      rw [eB, List.getD_eq_getElem?_getD, List.getElem?_map, getD_some (d := 0) (by omega)]; rfl
    have e1 : r.idxOf (cs.length + F.getD i 0) = A.length + i := by rw [er, ← b1]; exact idx_app_at2 nd2 hi
    rw [e1]
    have e2 : (prtL cs ls r).getD i s00 = ls.getD (F.getD i 0) s00 := by
      rw [prtL_eq h, hF, List.getD_eq_getElem?_getD, List.getElem?_map, getD_some (d := 0) (by omega)]; rfl
    rw [e2]
theorem VD.part (V : VD so kd cs ls js) {r : List Nat} (h : Rw cs.length ls.length js r) : VD so kd (prtC cs r) (prtL cs ls r) (prtJ js r) := by
  have sl := prtL_sub h
  have lc : (prtC cs r).length ≤ 6 := by
    unfold prtC
    rw [List.length_map, ← prt_range h]
    have := List.length_filter_le (fun p => decide (p ∈ r)) (List.range cs.length)
    rw [List.length_range] at this
    have := V.c.l6
    omega
  have ll : (prtL cs ls r).length ≤ 6 := Nat.le_trans sl.length_le V.l.l6
  refine ⟨V.s, ⟨lc, fun k hk => ?_⟩, ⟨ll, fun l hl => V.l.mem l (sl.subset hl), sortT_id ((sorted_of V.l.srt).sublist sl), V.l.nd.sublist (sl.map _)⟩, ?_⟩
  · unfold prtC at hk
    obtain ⟨p, hp, rfl⟩ := List.mem_map.1 hk
    have hp := of_decide_eq_true (List.mem_filter.1 hp).2
    exact V.c.mem _ (List.mem_of_getElem? (getD_some (d := eS) hp))
  · unfold prtJ
    rw [movedF_eq]
    refine VJ_of V.s.s lc ll _ (fun p hp => ?_) ?_
    · obtain ⟨j, hj, rfl⟩ := List.mem_map.1 hp
      exact (V.j.j j (List.mem_filter.1 hj).1).p
    · rw [flat_mv fun p => r.idxOf p, prt_ends h, ← prt_all h]
      exact (V.j.perm.filter _).map _
section
variable {β : Type} [DecidableEq β]
def cn (l : List β) (e : β) : Nat := l.count e
theorem cn_perm {a b : List β} : a.Perm b ↔ ∀ e, cn a e = cn b e := List.perm_iff_count
theorem cn_app (a b : List β) (e : β) : cn (a ++ b) e = cn a e + cn b e := List.count_append
theorem cn_zero {l : List β} {e : β} (h : e ∉ l) : cn l e = 0 := List.count_eq_zero.2 h
theorem cn_filt (l : List β) (p : β → Bool) (e : β) : cn (l.filter p) e = if p e = true then cn l e else 0 := by
  by_cases z : p e = true
  · rw [if_pos z]; exact List.count_filter z
  · rw [if_neg z]; exact cn_zero fun h => z (List.mem_filter.1 h).2
theorem cn_rep (n : Nat) (e : β) : cn (List.replicate n e) e = n := List.count_replicate_self
theorem cn_flat0 {α : Type} (f : α → List β) (e : β) : ∀ zs : List α, (∀ z ∈ zs, cn (f z) e = 0) → cn (zs.flatMap f) e = 0
  | [], _ => rfl
  | z :: zs, h => by rw [List.flatMap_cons, cn_app, h z (.head _), cn_flat0 f e zs fun w hw => h w (.tail _ hw)]
theorem cn_flat1 {α : Type} [DecidableEq α] (f : α → List β) (e : β) (x : α) : ∀ xs : List α, xs.Nodup → x ∈ xs → (∀ y ∈ xs, y ≠ x → cn (f y) e = 0) → cn (xs.flatMap f) e = cn (f x) e
  | [], _, h, _ => by cases h
  | y :: ys, nd, h, h0 => by
    have nd := List.nodup_cons.1 nd
    rw [List.flatMap_cons, cn_app]
    by_cases z : y = x
    · subst z
      rw [cn_flat0 f e ys fun w hw => h0 w (.tail _ hw) fun e => nd.1 (by rw [← e]; exact hw)]; omega
    · rw [h0 y (.head _) z, cn_flat1 f e x ys nd.2 ((List.mem_cons.1 h).resolve_left (Ne.symm z)) fun w hw => h0 w (.tail _ hw)]; omega
end
theorem count_filt (es : List En2) (s : Str) (e : En2) : cn (es.filter fun x => decide (x.2 = s)) e = if e.2 = s then cn es e else 0 := by
  rw [cn_filt]
  simp only [decide_eq_true_eq]
theorem lt_tri {a b : Str} (h : a ≠ b) : (DatumOrd.lt a b = true ∧ DatumOrd.lt b a = false) ∨ (DatumOrd.lt a b = false ∧ DatumOrd.lt b a = true) := by
  cases h1 : DatumOrd.lt a b with
  | true =>
    cases h2 : DatumOrd.lt b a with
    | false => exact .inl ⟨rfl, rfl⟩
    | true =>
      rcases dle_total a b with z | z
      · unfold dle at z; rw [h2] at z; cases z
      · unfold dle at z; rw [h1] at z; cases z
  | false =>
    cases h2 : DatumOrd.lt b a with
    | true => exact .inr ⟨rfl, rfl⟩
    | false => exact absurd (Lin.as a b (by unfold dle; rw [h2]; rfl) (by unfold dle; rw [h1]; rfl)) h
theorem so_nd (V : VSo so) : so.Nodup := nd_of_fst V.nd
theorem ctb_perm (V : VSo so) (es : List En2) (h : ∀ e ∈ es, e.2 ∈ so.map (·.1)) : (so.flatMap (ctb es)).Perm es := by
  rw [cn_perm]
  intro e
  by_cases hm : e ∈ es
  · obtain ⟨⟨s, t⟩, hr, es_⟩ := List.mem_map.1 (h e hm)
    have es_ : s = e.2 := es_
    have hr2 := V.sy _ hr
    have hr2 : (t, s) ∈ so := hr2
    -- rows that have e's sort
    have rows : ∀ y ∈ so, (y.1 = s ∨ y.2 = s) → y = (s, t) ∨ y = (t, s) := fun y hy w => by
      obtain ⟨y1, y2⟩ := y
      rcases w with w | w
      · have w : y1 = s := w
        subst w
        exact .inl (by rw [so_fun V hy hr])
      · have w : y2 = s := w
        subst w
        have q : y1 = t := so_fun V (V.sy _ hy) hr
        exact .inr (by rw [q])
    have zero : ∀ y ∈ so, ¬ (y.1 = s ∨ y.2 = s) → cn (ctb es y) e = 0 := fun y _ w => by
      have w1 : e.2 ≠ y.1 := fun q => w (.inl (by rw [es_, q]))
      have w2 : e.2 ≠ y.2 := fun q => w (.inr (by rw [es_, q]))
      unfold ctb
      split
      · rw [count_filt, if_neg w1]
      · split
        · rw [cn_app, count_filt, count_filt, if_neg w1, if_neg w2]
        · rfl
    by_cases st : s = t
    · subst st
      rw [cn_flat1 _ e (s, s) so (so_nd V) hr fun y hy ny => zero y hy fun w => by rcases rows y hy w with z | z <;> exact ny z]
      unfold ctb
      rw [if_pos rfl, count_filt, if_pos es_.symm]
    · rcases lt_tri st with ⟨l1, l2⟩ | ⟨l1, l2⟩
      · rw [cn_flat1 _ e (s, t) so (so_nd V) hr fun y hy ny => ?_]
        · unfold ctb
          rw [if_neg st, if_pos l1, cn_app, count_filt, count_filt, if_pos es_.symm, if_neg (fun q => st (by rw [es_, q]))]; omega
        · by_cases w : y.1 = s ∨ y.2 = s
          · rcases rows y hy w with z | z
            · exact absurd z ny
            · subst z
              unfold ctb
              rw [if_neg (Ne.symm st), if_neg (by rw [l2]; exact Bool.false_ne_true)]; rfl
          · exact zero y hy w
      · rw [cn_flat1 _ e (t, s) so (so_nd V) hr2 fun y hy ny => ?_]
        · unfold ctb
          rw [if_neg (Ne.symm st), if_pos l2, cn_app, count_filt, count_filt, if_neg (fun q => st (by rw [es_, q])), if_pos es_.symm]; omega
        · by_cases w : y.1 = s ∨ y.2 = s
          · rcases rows y hy w with z | z
            · subst z
              unfold ctb
              rw [if_neg st, if_neg (by rw [l1]; exact Bool.false_ne_true)]; rfl
            · exact absurd z ny
          · exact zero y hy w
  · rw [cn_zero hm]
    refine cn_zero fun z => hm ?_
    obtain ⟨r, _, hz⟩ := List.mem_flatMap.1 z
    unfold ctb at hz
    split at hz
    · exact (List.mem_filter.1 hz).1
    · split at hz
      · rcases List.mem_append.1 hz with w | w <;> exact (List.mem_filter.1 w).1
      · cases hz
/-- how often a sort stands among ends, the lacking legs put to them -/
theorem count_lack (V : VSo so) (es : List En2) {s t : Str} (hr : (s, t) ∈ so) : cn (lackF so es) s = if s = t then cntF es s % 2 else cntF es t - cntF es s := by
  have hr2 : (t, s) ∈ so := V.sy _ hr
  unfold lackF
  rw [cn_flat1 _ s (t, s) so (so_nd V) hr2 fun y hy ny => ?_]
  · show cn (if t = s then List.replicate (cntF es t % 2) t else List.replicate (cntF es t - cntF es s) s) s = _
    by_cases z : s = t
    · subst z; rw [if_pos rfl, if_pos rfl, cn_rep]
    · rw [if_neg (Ne.symm z), if_neg z, cn_rep]
  · obtain ⟨y1, y2⟩ := y
    show cn (if y1 = y2 then List.replicate (cntF es y1 % 2) y1 else List.replicate (cntF es y1 - cntF es y2) y2) s = 0
    have ne : y2 ≠ s := fun w => ny (by
      subst w
      have q : y1 = t := so_fun V (V.sy _ hy) hr
      rw [q])
    split
    · rename_i w
      subst w
      exact cn_zero fun h => ne (List.eq_of_mem_replicate h).symm
    · exact cn_zero fun h => ne (List.eq_of_mem_replicate h).symm
theorem cntF_legs (cs : List Str) (ls : Lgs) (s : Str) : cntF (endsF kd cs ls) s = cntF (cE kd cs) s + cn (ls.map (·.2)) s := by
  unfold cntF
  rw [endsF_eq, List.filter_append, List.length_append]
  congr 1
  rw [List.filter_map, List.length_map, ← List.countP_eq_length_filter]
  have e := range_map ls s00 (·.2)
  unfold cn
  rw [← e, List.count_eq_countP, List.countP_map]
  refine List.countP_congr fun i _ => ?_
  simp
end
end R87
namespace R87
open PySem PySem.Spec PyProof.Rows L2
open PySem.W (Tup T4 T3 DatumOrd Datum)
section
variable {so : Srts} {kd : Knds} {cs : List Str} {ls : Lgs} {js : List Jn} {r : List Nat}
theorem ends_so (V : VS so kd) (hc : ∀ k ∈ cs, k ∈ kd.map (·.1)) (hl : ∀ l ∈ ls, l.2 ∈ so.map (·.1)) : ∀ e ∈ endsF kd cs ls, e.2 ∈ so.map (·.1) := fun e he => by
  rw [endsF_eq] at he
  rcases List.mem_append.1 he with z | z
  · unfold cE at z
    obtain ⟨i, hi, h2⟩ := List.mem_flatMap.1 z
    obtain ⟨s, hs, rfl⟩ := List.mem_map.1 h2
    obtain ⟨q, hq, e⟩ := List.mem_map.1 (hc _ (List.mem_of_getElem? (getD_some (d := eS) (List.mem_range.1 hi))))
    rw [← e, endsK_mem V.k.nd hq] at hs
    exact ((V.k.nm q hq).mem s hs).2
  · obtain ⟨i, hi, rfl⟩ := List.mem_map.1 z
    exact hl _ (List.mem_of_getElem? (getD_some (d := s00) (List.mem_range.1 hi)))
theorem VD.drawn (V : VS so kd) (c : VC kd cs) (l : VL so ls) {ps : List Pr} (h1 : (flatP ps).Perm (so.flatMap (ctb (endsF kd cs ls)))) (h2 : ∀ p ∈ ps, (p.1.2, p.2.2) ∈ so) : VD so kd cs ls (sortT (ps.map fun p => joinedF p.1 p.2)) :=
  ⟨V, c, l, VJ_of V.s c.l6 l.l6 ps h2 (h1.trans (ctb_perm V.s _ (ends_so V c.mem fun l' h => (l.mem l' h).2)))⟩
/-- with the lacking legs all can be paired -/
theorem lack_even (V : VSo so) (es : List En2) {ws : List Str} (hw : es = endsF kd cs (ws.map fun s => (eS, s))) (hl : (ls.map (·.2)).Perm (ws ++ lackF so es)) :
    (∀ r ∈ so, r.1 = r.2 → ∃ k, ((endsF kd cs ls).filter fun e => decide (e.2 = r.1)).length = 2 * k) ∧ ∀ r ∈ so, r.1 ≠ r.2 → ((endsF kd cs ls).filter fun e => decide (e.2 = r.1)).length = ((endsF kd cs ls).filter fun e => decide (e.2 = r.2)).length := by
  have key : ∀ {s t : Str}, (s, t) ∈ so → cntF (endsF kd cs ls) s = cntF es s + if s = t then cntF es s % 2 else cntF es t - cntF es s := fun {s t} h => by
    rw [cntF_legs, cn_perm.1 hl s, cn_app, count_lack V es h]
    have : cntF es s = cntF (cE kd cs) s + cn ws s := by
      rw [hw, cntF_legs, List.map_map]
      congr 2
      exact List.map_id' ws
    omega
  refine ⟨fun r hr e => ?_, fun r hr ne => ?_⟩
  · obtain ⟨s, t⟩ := r
    have e : s = t := e
    have k := key hr
    rw [if_pos e] at k
    refine ⟨(cntF es s + cntF es s % 2) / 2, ?_⟩
    show cntF (endsF kd cs ls) s = _
    rw [k]; omega
  · obtain ⟨s, t⟩ := r
    have ne : s ≠ t := ne
    have k := key hr
    have k2 := key (show (t, s) ∈ so from V.sy _ hr)
    rw [if_neg ne] at k
    rw [if_neg (Ne.symm ne)] at k2
    show cntF (endsF kd cs ls) s = cntF (endsF kd cs ls) t
    omega
theorem clss_rw (V : VD so kd cs ls js) {r : List Nat} (h : r ∈ clss (marksF (cs.length + ls.length) js)) : Rw cs.length ls.length js r := by
  obtain ⟨a, b, c⟩ := clss_ok V.vp.ac2 h
  exact ⟨a, b, c⟩
theorem Rw.len (h : Rw cs.length ls.length js r) (V : VD so kd cs ls js) : r.length ≤ 12 := by
  have := lt_len h.lt h.b
  have := V.c.l6
  have := V.l.l6
  omega
theorem VD.rows (V : VD so kd cs ls js) : groupsF (cs.length + ls.length) js = clss (marksF (cs.length + ls.length) js) := groups_eq V.vp.ac2
/-- all that _law_right asks -/
theorem VD.right (V : VD so kd cs ls js) : (∀ ps ∈ clss (marksF (cs.length + ls.length) js), (∀ j ∈ js, j.a ∈ ps → j.c ∈ ps) ∧ VD so kd (prtC cs ps) (prtL cs ls ps) (prtJ js ps)) ∧
    (∀ r ∈ groupsF (cs.length + ls.length) js, r.length ≤ 12 ∧ (∀ p ∈ r, p < cs.length + ls.length) ∧ ∀ j ∈ js, j.a ∈ r → j.c ∈ r) ∧
    cutsF cs.length ls.length js = lcutsF cs.length ls.length js ∧ piecesF cs.length ls.length js = lpiecesF cs.length ls.length js ∧ nComp (cs.length + ls.length) js = nGrp (cs.length + ls.length) js ∧
    (clss (marksF (cs.length + ls.length) js)).length = nComp (cs.length + ls.length) js := by
  refine ⟨fun ps hps => ?_, fun r hr => ?_, lcuts_eq V.vp.ac2, lpieces_eq V.vp.ac2 V.vp.ac, (nGrp_eq V.vp.ac2).symm, clss_len _⟩
  · have h := clss_rw V hps
    exact ⟨fun j hj => (h.c j hj).1, V.part h⟩
  · rw [V.rows] at hr
    have h := clss_rw V hr
    exact ⟨h.len V, h.b, fun j hj => (h.c j hj).1⟩
/-- sewn or not: the program's and the law's test are one -/
theorem sew_test (V : VSo so) {s p t : Str} (h : (s, p) ∈ so) : (s, t) ∈ so ↔ p = t := ⟨fun k => so_fun V h k, fun e => by rw [← e]; exact h⟩
end
end R87
namespace R87
open PySem PySem.Spec PyProof.Rows L2
open PySem.W (Tup T4 T3 DatumOrd Datum)
theorem map_inj {α β : Type} {f : α → β} (hf : ∀ a b, f a = f b → a = b) : ∀ {xs ys : List α}, xs.map f = ys.map f → xs = ys
  | [], [], _ => rfl
  | [], _ :: _, h => by cases h
  | _ :: _, [], h => by cases h
  | x :: xs, y :: ys, h => by
    rw [List.map_cons, List.map_cons] at h
    injection h with h1 h2
    rw [hf _ _ h1, map_inj hf h2]
theorem lackF_so {so : Srts} (V : VSo so) {es : List En2} {s : Str} (h : s ∈ lackF so es) : s ∈ so.map (·.1) := by
  unfold lackF at h
  obtain ⟨p, hp, h⟩ := List.mem_flatMap.1 h
  split at h
  · rw [List.eq_of_mem_replicate h]; exact List.mem_map.2 ⟨p, hp, rfl⟩
  · rw [List.eq_of_mem_replicate h]; exact List.mem_map.2 ⟨_, V.sy p hp, rfl⟩
theorem lackF_len {so : Srts} {es : List En2} {n : Nat} (h3 : so.length ≤ 3) (h : es.length ≤ n) (n1 : 1 ≤ n) : (lackF so es).length ≤ 3 * n := by
  have key : (lackF so es).length ≤ so.length * n := flat_len fun p hp => by
    have := cntF_le es p.1
    split <;> rw [List.length_replicate] <;> omega
  have : so.length * n ≤ 3 * n := Nat.mul_le_mul_right n h3
  omega
theorem lackF_nil (so : Srts) : lackF so [] = [] := by
  unfold lackF
  rw [List.flatMap_eq_nil_iff]
  intro p _
  show (if _ then List.replicate (0 % 2) p.1 else List.replicate (0 - 0) p.2) = []
  split <;> rfl
theorem endsF_len2 {so : Srts} {kd : Knds} {cs : List Str} {ls : Lgs} (V : VS so kd) : (endsF kd cs ls).length ≤ cs.length * 5 + ls.length := by
  unfold endsF
  rw [List.length_append, List.length_map, List.length_zipIdx]
  have : (cs.zipIdx.flatMap fun p => (endsK kd p.1).map fun s => (p.2, s)).length ≤ cs.zipIdx.length * 5 := flat_len fun p hp => by rw [List.length_map]; exact endsK_len V
  rw [List.length_zipIdx] at this
  omega
theorem cut_last (ds : List D) : cutD ds none (some (-1)) = ds.dropLast := by
  unfold cutD
  rw [List.dropLast_eq_take]
  show (ds.drop (HT.sIx ds.length 0 none)).take _ = _
  have e1 : HT.sIx ds.length 0 none = 0 := rfl
  have e2 : HT.sIx ds.length ds.length (some (-1)) = ds.length - 1 := by
    unfold HT.sIx
    simp
    omega
  rw [e1, e2, List.drop_zero, Nat.sub_zero]
/-- the legs that are drawn -/
theorem legs_ok {so : Srts} {ns lt : List Str} (V : VSo so) (hn : ns.Nodup) (hm : ∀ z ∈ ns, Nm z) (hl : lt.length ≤ 6) (hl2 : lt.length ≤ ns.length) (hs : ∀ s ∈ lt, s ∈ so.map (·.1)) :
    VL so (sortT ((List.range lt.length).map fun i => (ns.getD i eS, lt.getD i eS))) ∧ ((sortT ((List.range lt.length).map fun i => (ns.getD i eS, lt.getD i eS))).map (·.2)).Perm lt := by
  have e1 : (((List.range lt.length).map fun i => (ns.getD i eS, lt.getD i eS)).map (·.1)) = ns.take lt.length := by
    rw [List.map_map]
    apply List.ext_getElem?
    intro i
    rw [List.getElem?_map, List.getElem?_take]
    by_cases h : i < lt.length
    · rw [List.getElem?_range h, if_pos h, getD_some (d := eS) (by omega)]; rfl
    · rw [List.getElem?_eq_none (by rw [List.length_range]; omega), if_neg h]; rfl
  have e2 : (((List.range lt.length).map fun i => (ns.getD i eS, lt.getD i eS)).map (·.2)) = lt := by
    have := range_map lt eS id
    rw [List.map_id] at this
    rw [List.map_map]
    exact this
  have pm := sortT_perm ((List.range lt.length).map fun i => (ns.getD i eS, lt.getD i eS))
  refine ⟨⟨by rw [pm.length_eq, List.length_map, List.length_range]; exact hl, fun l h => ?_, sortT_idem _, ?_⟩, by
    have := pm.map (·.2)
    rwa [e2] at this⟩
  · obtain ⟨i, hi, rfl⟩ := List.mem_map.1 (pm.mem_iff.1 h)
    have hi := List.mem_range.1 hi
    exact ⟨hm _ (List.mem_of_getElem? (getD_some (d := eS) (by omega))), hs _ (List.mem_of_getElem? (getD_some (d := eS) hi))⟩
  · refine (pm.map (·.1)).nodup_iff.2 ?_
    rw [e1]
    exact hn.sublist (List.take_sublist _ _)
section
variable {P : Program} {w : World} {K : PySem.W.Frag} {mg : Str → Option Value} {base : Heap}
def p_drawing (ds : List D) : Prop := ∃ (so : Srts) (kd : Knds) (most : Nat), ds = [sosD so, kdsD kd, .int (most : Int)] ∧ VS so kd ∧ most ≤ 3
def r_drawing (ds : List D) (d : D) : Prop := ∃ (so : Srts) (kd : Knds) (most : Nat) (cs : List Str) (ls : Lgs) (js : List Jn), ds = [sosD so, kdsD kd, .int (most : Int)] ∧ VD so kd cs ls js ∧ cs.length ≤ most ∧ d = dnD cs ls js
theorem ok_law_drawing (B : Bf mg) (c1 : Cal P w K mg base CX0 1 "_law_next" sp_next) (c2 : Cal P w K mg base CX0 2 "_law_one" (spZ 1 p_one r_one)) (c3 : Cal P w K mg base CX0 3 "_law_names" (spZ 60 p_names r_names')) (c4 : Cal P w K mg base CX0 2 "_law_mixed" (spZ 100 (p_mix Str) r_mix))
    (c5 : Cal P w K mg base CX0 3 "_law_paired" (spZ 300 p_pair r_pair)) (c6 : CalP P w K mg base 1 "_law_ends" r_lends) (c7 : CalP P w K mg base 1 "_law_lacking" r_lack) {f : Addr} {fd : FuncData} (F : Fun K "_law_drawing" "_law_drawing" s_law_drawing f fd) :
    FnOk P w K mg base CX0 4 f fd ["_law_source", "_law_sorts", "_law_kinds", "_law_most"] (spZ 500 p_drawing r_drawing) := by
  have hN : (["_law_source", "_law_sorts", "_law_kinds", "_law_most", "_law_corners", "_law_wished", "_law_names_here", "_law_leg_sorts", "_law_legs", "_law_k", "_law_sort"] : List Str).Nodup := by decide
  refine fun_draw F (N := ["_law_source", "_law_sorts", "_law_kinds", "_law_most", "_law_corners", "_law_wished", "_law_names_here", "_law_leg_sorts", "_law_legs", "_law_k", "_law_sort"]) (C8.fnScope_by (by decide +kernel)) (fun ds ⟨_, _, _, e, _⟩ => by rw [e]; rfl) fun cdv A outer s H E a k0 ds hr ⟨so, kd, most, e, V, m3⟩ hl => ?_
  subst e
  have hl' : k0 + 500 ≤ 1000000 := hl
  have s1 := V.s.l1
  have s3 := V.s.l3
  have q1 := V.k.l1
  have q4 := V.k.l4
  have sl : (so.map (En.e (α := Str × Str))).length = so.length := List.length_map ..
  have ql : (kd.map (En.e (α := Str × Tup Str))).length = kd.length := List.length_map ..
  -- corners
  refine abe_setLc 4 (own := [("_law_k", 9)]) (a0 := a) 0 1 (fun v => ∃ s : Str, v = .str s ∧ s ∈ kd.map (·.1))
    (Rn := fun ds t => ∃ n : Nat, n ≤ most ∧ ds = (List.range n).map (fun (i : Nat) => D.int (i : Int)) ∧ t = [.sr a (k0 + 1), .sh (sosD so), .sh (kdsD kd), .sh (.int (most : Int)), .no, .no, .no, .no, .no, .no, .no])
    (ei_rng B.range (ef_draw 0 c1 hr ⟨_, _, rfl⟩ (ea_pa (pas_cons ((pu_add (pu_var 3 rfl) pu_int).is (d' := .int ((most + 1 : Nat) : Int)) rfl) pas_nil) ⟨⟨most + 1, rfl, by omega, by omega⟩, a, k0, rfl, rfl, (by show _ ≤ 1000000; omega), fun d hR => ?_⟩)))
    (fun ds t ⟨n, hn, h10, h11⟩ => ?_) (blk_by (by kernel_rfl)) hN
  · obtain ⟨_, r, e4, hr4, rfl⟩ := hR
    have e4 := toN e4
    exact ⟨r, rfl, by omega, r, by omega, rfl, rfl⟩
  subst h10 h11
  rw [List.length_map, List.length_range]
  refine ⟨k0 + 1, [.no, .sh (sosD so), .sh (kdsD kd), .no, .no, .no, .no, .no, .no, .no, .no], by omega, rfl, rfl, (by show _ ≤ 1000000; omega), noOw_by rfl, fun k3 => .eq (.eq (.eq (.no (.no (.no (.no (.no (.no (.no (.no .nil)))))))))), rfl, fun d hd => ?_, fun vs hvl hvs k3 hk3 => ?_⟩
  · obtain ⟨j, hj, rfl⟩ := List.mem_map.1 hd
    refine ⟨[.no, .sh (sosD so), .sh (kdsD kd), .no, .no, .no, .no, .no, .no, .sh (.int (j : Int)), .no], [9], fun k3 s H C cl fp => tg_name 9 hN, noOw_by rfl, fun j hj => by rw [List.mem_singleton.1 hj]; exact List.mem_singleton.2 rfl, fun k3 hk3 s H C cl fp => ?_⟩
    have hk3 : k3 + 1 ≤ 1000000 := hk3
    refine ef_ixT (ef_draw 0 c2 hr ⟨_, _, rfl⟩ (ea_pa (pas_cons (pu_var 2 rfl) pas_nil) ⟨⟨_, rfl, by rw [ql]; exact q1, by rw [ql]; omega⟩, a, k3, rfl, rfl, hk3, fun d hR => ?_⟩))
    obtain ⟨es, ix, e5, hix⟩ := hR
    have e5 := toL e5
    rw [← e5, List.getElem?_map] at hix
    obtain ⟨p, hp, rfl⟩ := Option.map_eq_some_iff.1 hix
    exact ef_pu pu_int ⟨[.str p.1, En.e p.2], 0, _, rfl, rfl, rfl, ⟨p.1, rfl, List.mem_map.2 ⟨p, List.mem_of_getElem? hp, rfl⟩⟩, k3 + 1, rfl, Nat.le_refl _⟩
  obtain ⟨cs, rfl, hcs⟩ := strs_of hvs
  rw [List.length_map] at hvl
  -- wished
  refine abe_setLc 5 (own := [("_law_k", 9)]) (a0 := a) 0 1 (fun v => ∃ s : Str, v = .str s ∧ s ∈ so.map (·.1))
    (Rn := fun ds t => ∃ n : Nat, n ≤ 2 ∧ ds = (List.range n).map (fun (i : Nat) => D.int (i : Int)) ∧ t = [.sr a (k3 + 1), .sh (sosD so), .sh (kdsD kd), .sh (.int (most : Int)), .sh (csD cs), .no, .no, .no, .no, .no, .no])
    (ei_rng B.range (ef_draw 0 c2 hr ⟨_, _, rfl⟩ (ea_pa (pas_cons (nu_lst (pas_cons pu_int (pas_cons pu_int (pas_cons pu_int (pas_cons pu_int pas_nil)))) (show 4 ≤ 1000 by decide)).pu pas_nil) ⟨⟨_, rfl, (show 1 ≤ 4 by decide), (show 4 ≤ 1000 by decide)⟩, a, k3, rfl, rfl, (by show _ ≤ 1000000; omega), fun d hR => ?_⟩)))
    (fun ds t ⟨n, hn2, h10, h11⟩ => ?_) (blk_by (by kernel_rfl)) hN
  · obtain ⟨es, ix, e5, hix⟩ := hR
    have e5 := toL e5
    subst e5
    have kk : ∃ n : Nat, d = .int (n : Int) ∧ n ≤ 2 := by
      match ix, hix with
      | 0, hix => cases hix; exact ⟨0, rfl, by omega⟩
      | 1, hix => cases hix; exact ⟨0, rfl, by omega⟩
      | 2, hix => cases hix; exact ⟨1, rfl, by omega⟩
      | 3, hix => cases hix; exact ⟨2, rfl, by omega⟩
    obtain ⟨n, rfl, n2⟩ := kk
    exact ⟨n, rfl, by omega, n, n2, rfl, rfl⟩
  subst h10 h11
  rw [List.length_map, List.length_range]
  refine ⟨k3 + 1, [.no, .sh (sosD so), .sh (kdsD kd), .no, .no, .no, .no, .no, .no, .no, .no], by omega, rfl, rfl, (by show _ ≤ 1000000; omega), noOw_by rfl, fun k3 => .eq (.eq (.eq (.no (.no (.no (.no (.no (.no (.no (.no .nil)))))))))), rfl, fun d hd => ?_, fun vs hvl2 hvs2 k4 hk4 => ?_⟩
  · obtain ⟨j, hj, rfl⟩ := List.mem_map.1 hd
    refine ⟨[.no, .sh (sosD so), .sh (kdsD kd), .no, .no, .no, .no, .no, .no, .sh (.int (j : Int)), .no], [9], fun k3 s H C cl fp => tg_name 9 hN, noOw_by rfl, fun j hj => by rw [List.mem_singleton.1 hj]; exact List.mem_singleton.2 rfl, fun k3 hk3 s H C cl fp => ?_⟩
    have hk3 : k3 + 1 ≤ 1000000 := hk3
    refine ef_ixT (ef_draw 0 c2 hr ⟨_, _, rfl⟩ (ea_pa (pas_cons (pu_var 1 rfl) pas_nil) ⟨⟨_, rfl, by rw [sl]; exact s1, by rw [sl]; omega⟩, a, k3, rfl, rfl, hk3, fun d hR => ?_⟩))
    obtain ⟨es, ix, e5, hix⟩ := hR
    have e5 := toL e5
    rw [← e5, List.getElem?_map] at hix
    obtain ⟨p, hp, rfl⟩ := Option.map_eq_some_iff.1 hix
    exact ef_pu pu_int ⟨[.str p.1, .str p.2], 0, _, rfl, rfl, rfl, ⟨p.1, rfl, List.mem_map.2 ⟨p, List.mem_of_getElem? hp, rfl⟩⟩, k3 + 1, rfl, Nat.le_refl _⟩
  obtain ⟨ws, rfl, hws⟩ := strs_of hvs2
  rw [List.length_map] at hvl2
  -- names
  refine abe_set 6 (ef_draw 0 c4 hr ⟨_, _, rfl⟩ (ea_cons (ef_draw 0 c3 hr ⟨_, _, rfl⟩ (ea_pa (pas_cons pu_int pas_nil) ⟨⟨6, rfl, by decide⟩, a, k4, rfl, rfl, (by show _ ≤ 1000000; omega), fun d hR => ?_⟩))))
  obtain ⟨_, ns0, e5, nl, nnd, nnm, rfl⟩ := hR
  have e5 := toN (j := 6) e5
  rw [← e5] at nl
  refine ea_nil ⟨⟨ns0, rfl, by omega⟩, a, k4 + 60, rfl, rfl, (by show _ ≤ 1000000; omega), fun d hR => ?_⟩
  obtain ⟨fs, gs, e6, hpm, rfl⟩ := hR
  obtain ⟨ns, rfl, hpn⟩ := perm_map_ex En.e hpm (toL e6).symm
  have nnd2 : ns.Nodup := hpn.nodup_iff.2 nnd
  have nnm2 : ∀ z ∈ ns, Nm z := fun z hz => nnm z (hpn.mem_iff.1 hz)
  have nl2 : ns.length = 6 := by rw [hpn.length_eq]; exact nl
  -- the loop
  refine ab_while (fun n t => ∃ (cs ws : List Str), n = 2 * cs.length + (if ws = [] then 0 else 1) ∧ cs.length ≤ most ∧ ws.length ≤ 2 ∧ (∀ c ∈ cs, c ∈ kd.map (·.1)) ∧ (∀ s ∈ ws, s ∈ so.map (·.1)) ∧ t = [.sr a (k4 + 60 + 100), .sh (sosD so), .sh (kdsD kd), .sh (.int (most : Int)), .sh (csD cs), .sh (.lst (ws.map En.e)), .sh (.lst (ns.map En.e)), .no, .no, .no, .no])
    PassesOwn.never (n0 := 2 * cs.length + (if ws = [] then 0 else 1)) ⟨cs, ws, rfl, by omega, by omega, hcs, hws, rfl⟩ ?_
  rintro n t ⟨cs, ws, rfl, hc3, hw2, hcs, hws, rfl⟩
  refine ⟨true, pt_pu pu_bl, fun _ => ?_, fun z => by cases z⟩
  have Vc : VC kd cs := ⟨by omega, hcs⟩
  let ls0 : Lgs := ws.map fun s => (eS, s)
  let es : List En2 := endsF kd cs ls0
  have ll0 : ls0.length = ws.length := List.length_map ..
  have el : es.length ≤ 17 := by
    have := endsF_len2 (cs := cs) (ls := ls0) V
    show (endsF kd cs ls0).length ≤ 17
    omega
  have lk := lackF_len (so := so) s3 el (by omega)
  let lt : List Str := ws ++ lackF so es
  have ltl : lt.length = ws.length + (lackF so es).length := List.length_append ..
  refine ab_set 7 (d := .lst (lt.map En.e)) ((nu_cat (pu_var 5 rfl) (pu_call c7 hr ⟨so, es, rfl, s3, by omega, rfl⟩ (pas_cons (pu_var 1 rfl) (pas_cons (pu_call c6 hr ⟨so, kd, cs, ls0, rfl, V, Vc, by omega, rfl⟩ (pas_cons (pu_var 2 rfl) (pas_cons (pu_var 4 rfl) (pas_cons ((nu_mapN [("_law_sort", 10)] 10 ws En.e (fun s => En.e ((eS, s) : Str × Str)) (pi_lst (pu_var 5 rfl)) (fun s hs s' H C cl fp => pu_tup (pas_cons (pu_str (i := eS)) (pas_cons (pu_var 10 rfl) pas_nil))) (hl := by omega) (hN := hN)).pu.is (by show D.lst _ = D.lst ((ws.map fun s => (eS, s)).map _); rw [List.map_map]; rfl)) pas_nil)))) pas_nil))) ?_).pu.is ?_) ?_ hN
  · rw [List.length_map, List.length_map]; omega
  · exact congrArg D.lst (List.map_append ..).symm
  refine ab_if (pt_le (pu_lenL B.len (pu_var 7 rfl)) pu_int) (fun z => ?_) (fun z => ?_)
  · have z := of_decide_eq_true z
    rw [List.length_map] at z
    have l6 : lt.length ≤ 6 := by omega
    have hlt : ∀ s ∈ lt, s ∈ so.map (·.1) := fun s hs => (List.mem_append.1 hs).elim (hws s) fun h => lackF_so V.s h
    obtain ⟨Vl, pl⟩ := legs_ok V.s nnd2 nnm2 l6 (by omega) hlt
    refine ab_set 8 (nu_sorted (xs := (List.range lt.length).map fun i => (ns.getD i eS, lt.getD i eS)) hr B.sorted ((nu_mapN [("_law_k", 9)] 9 (List.range lt.length) En.e (fun i => En.e ((ns.getD i eS, lt.getD i eS) : Str × Str)) (pi_rng (n := lt.length) B.range ((pu_lenL B.len (pu_var 7 rfl)).is (by rw [List.length_map])) (by omega)) (fun i hi s H C cl fp => ?_) (hl := by rw [List.length_range]; omega) (hN := hN)).pu.is (by rw [List.map_map]; rfl))).pu ?_ hN
    · have hi := List.mem_range.1 hi
      exact pu_tup (pas_cons (pu_ixL (k := i) (pu_var 6 rfl) (pu_var 9 rfl) (by rw [List.getElem?_map, getD_some (d := eS) (by omega)]; rfl)) (pas_cons (pu_ixL (k := i) (pu_var 7 rfl) (pu_var 9 rfl) (by rw [List.getElem?_map, getD_some (d := eS) hi]; rfl)) pas_nil))
    generalize sortT ((List.range lt.length).map fun i => (ns.getD i eS, lt.getD i eS)) = ls at Vl pl
    have Vl6 := Vl.l6
    have Vc6 := Vc.l6
    obtain ⟨ev1, ev2⟩ := lack_even V.s es (ls := ls) rfl pl
    have el2 := endsF_len V Vc.l6 Vl.l6
    refine abe_ret (ef_tup (ea_cons (ef_pu (pu_var 4 rfl) (ea_cons (ef_pu (pu_var 8 rfl) (ea_cons (ef_draw 0 c5 hr ⟨_, _, rfl⟩ (ea_pa (pas_cons (pu_var 1 rfl) (pas_cons (pu_call c6 hr ⟨so, kd, cs, ls, rfl, V, Vc, by omega, rfl⟩ (pas_cons (pu_var 2 rfl) (pas_cons (pu_var 4 rfl) (pas_cons (pu_var 8 rfl) pas_nil)))) pas_nil)) ⟨⟨so, endsF kd cs ls, rfl, s3, by omega, ev1, ev2⟩, a, k4 + 60 + 100, rfl, rfl, (by show _ ≤ 1000000; omega), fun d hR => ?_⟩))))))))
    obtain ⟨so', es', ps, e7, hfp, hps, rfl⟩ := hR
    injection e7 with e7 e8
    injection e8 with e8 _
    have i1 : so.map (En.e (α := Str × Str)) = so'.map En.e := by injection e7
    have i2 : (endsF kd cs ls).map (En.e (α := En2)) = es'.map En.e := by injection e8
    have inj1 : so = so' := map_inj (fun a b e => by
      obtain ⟨a1, a2⟩ := a
      obtain ⟨b1, b2⟩ := b
      have e : D.tup [.str a1, .str a2] = D.tup [.str b1, .str b2] := e
      injection e with e
      injection e with e3 e4
      injection e4 with e4 _
      injection e3 with e3
      injection e4 with e4
      rw [e3, e4]) i1
    have inj2 : endsF kd cs ls = es' := map_inj (fun a b e => by
      obtain ⟨a1, a2⟩ := a
      obtain ⟨b1, b2⟩ := b
      have e : D.tup [.int (a1 : Int), .str a2] = D.tup [.int (b1 : Int), .str b2] := e
      injection e with e
      injection e with e3 e4
      injection e4 with e4 _
      injection e3 with e3
      injection e4 with e4
      have : a1 = b1 := by omega
      rw [this, e4]) i2
    rw [← inj1, ← inj2] at hfp
    rw [← inj1] at hps
    exact ea_nil ⟨(show 3 ≤ 1000 by decide), ⟨so, kd, most, cs, ls, _, rfl, VD.drawn V Vc Vl hfp hps, hc3, rfl⟩, k4 + 60 + 100 + 300, rfl, by omega⟩
  · have z := of_decide_eq_false z
    rw [List.length_map] at z
    refine ab_nil ?_
    refine ab_set 4 (d := csD cs.dropLast) ((nu_slice (pu_var 4 rfl) po_n (po_s (pu_neg pu_int))).pu.is ?_) ?_ hN
    · rw [cut_last, ← List.map_dropLast]
    refine ab_set 5 (nu_lst pas_nil).pu (ab_nil ?_) hN
    have ne : cs ≠ [] ∨ ws ≠ [] := by
      by_cases h1 : cs = []
      · by_cases h2 : ws = []
        · exfalso
          apply z
          have e1 : es = [] := by
            show endsF kd cs (ws.map fun s => (eS, s)) = []
            rw [h1, h2]; rfl
          have e2 : lt = [] := by
            show ws ++ lackF so es = []
            rw [h2, e1, lackF_nil]; rfl
          rw [e2]; decide
        · exact .inr h2
      · exact .inl h1
    refine ⟨2 * cs.dropLast.length + 0, _, ?_, ⟨cs.dropLast, [], by rw [if_pos rfl], ?_, Nat.zero_le _, fun c hc => hcs c ((List.dropLast_sublist cs).subset hc), (fun _ h => by cases h), rfl⟩, .eq (.eq (.eq (.eq (.eq (.eq (.eq (.no (.no (.no (.no .nil))))))))))⟩
    · rw [List.length_dropLast]
      rcases ne with h | h
      · have := List.length_pos_iff.2 h
        split <;> omega
      · rw [if_neg h]; omega
    · rw [List.length_dropLast]; omega
end
end R87
namespace R87
open PySem PySem.Spec PyProof.Rows L2
/-- a cell that holds a value -/
def CellO (c : Addr) (u : Value) : HO := .ext fun h => h.IsCell c (some u)
/-- a lambda at f -/
def LamO (f : Addr) (q : Str) (ps : Arguments) (body : Expr) (sc : Scope) (cl : List (Str × Addr)) (c' : Addr) : HO :=
  .ext fun h => ∃ pm ctv, h.get? f = some (PySem.W.kla_obj "<lambda>" q ps body sc cl pm c' ctv)
section
variable {P : Program} {w : World} {H H' : Hp} {h : Heap} {c f c' : Addr} {u : Value} {cs : List Addr}
theorem cellO_ok (x : h.IsCell c (some u)) : ObjOk P w H h c (CellO c u) := by
  obtain ⟨o, e, d⟩ := x
  exact ⟨⟨o, e, d⟩, ⟨o, e⟩, fun h1 h2 ⟨o, e, d⟩ st => ⟨o, st o e, d⟩⟩
theorem cellO_at (k : HOk P w H h) (e : H c = some (CellO c u)) : h.IsCell c (some u) := (k c _ e).1
theorem lamO_ok {q : Str} {ps : Arguments} {body : Expr} {sc : Scope} {cl : List (Str × Addr)} {pm ctv : Value} (e : h.get? f = some (PySem.W.kla_obj "<lambda>" q ps body sc cl pm c' ctv)) : ObjOk P w H h f (LamO f q ps body sc cl c') :=
  ⟨⟨pm, ctv, e⟩, ⟨_, e⟩, fun h1 h2 ⟨pm, ctv, e⟩ st => ⟨pm, ctv, st _ e⟩⟩
/-- a thing that stands untracked is tracked from now on -/
theorem hok_add {φ : Heap → Prop} (k : HOk P w H h) (n : H c = none) (ok : ObjOk P w H h c (.ext φ)) : HOk P w (upd H c (.ext φ)) h := fun b o e => by
  by_cases z : b = c
  · subst z
    rw [upd_same] at e
    cases e
    exact ok
  · rw [upd_ne z] at e
    exact (k b o e).stay (fun _ _ _ q => q) (fun d r => by rw [upd_ne (ne_of_none r n)]; exact r) fun d xs r => by rw [upd_ne (ne_of_none r n)]; exact r
/-- cells untracked; tracked again -/
def delC (H : Hp) (cs : List Addr) : Hp := fun a => if a ∈ cs then none else H a
def addC (H' H : Hp) (cs : List Addr) : Hp := fun a => if a ∈ cs then H a else H' a
theorem delC_in (z : c ∈ cs) : delC H cs c = none := if_pos z
theorem delC_out (z : c ∉ cs) : delC H cs c = H c := if_neg z
theorem addC_in (z : c ∈ cs) : addC H' H cs c = H c := if_pos z
theorem addC_out (z : c ∉ cs) : addC H' H cs c = H' c := if_neg z
theorem out_of {o : HO} (hx : ∀ c ∈ cs, ∃ u, H c = some (CellO c u)) {b : Addr} (e : H b = some o) (n : ∀ u, o ≠ CellO b u) : b ∉ cs := fun z => by
  obtain ⟨u, e2⟩ := hx b z
  rw [e] at e2
  exact n u (Option.some.inj e2)
theorem hok_del (k : HOk P w H h) (hx : ∀ c ∈ cs, ∃ u, H c = some (CellO c u)) : HOk P w (delC H cs) h := fun b o e => by
  by_cases z : b ∈ cs
  · rw [delC_in z] at e; cases e
  · rw [delC_out z] at e
    refine (k b o e).stay (fun _ _ _ q => q) (fun d r => ?_) fun d xs r => ?_
    · rw [delC_out (out_of hx r fun u z => by cases z)]; exact r
    · rw [delC_out (out_of hx r fun u z => by cases z)]; exact r
theorem hok_back (k : HOk P w H' h) (hn : ∀ c ∈ cs, H' c = none) (hx : ∀ c ∈ cs, ∃ u, H c = some (CellO c u) ∧ h.IsCell c (some u)) : HOk P w (addC H' H cs) h := fun b o e => by
  by_cases z : b ∈ cs
  · rw [addC_in z] at e
    obtain ⟨u, e2, hc⟩ := hx b z
    rw [e] at e2
    cases e2
    exact cellO_ok hc
  · rw [addC_out z] at e
    refine (k b o e).stay (fun _ _ _ q => q) (fun d r => ?_) fun d xs r => ?_
    · rw [addC_out (fun z => by rw [hn d z] at r; cases r)]; exact r
    · rw [addC_out (fun z => by rw [hn d z] at r; cases r)]; exact r
/-- grown without the cells: grown with them -/
theorem gr_back {G G' : Hp} (hg : ∀ c ∈ cs, H' c = none) (hx : ∀ c ∈ cs, ∃ u, H c = some (CellO c u)) (g : Gr m0 G (delC H cs) G' H') : Gr m0 G H G' (addC H' H cs) := by
  refine ⟨g.gg, fun a o _ e => ?_, fun a o e => ?_, fun a n e => ?_, fun a e => ?_⟩
  · by_cases z : a ∈ cs
    · rw [addC_in z]; exact e
    · rw [addC_out z]; exact g.hh a o (fun z => z) (by rw [delC_out z]; exact e)
  · have e2 := g.gh a o e
    rw [addC_out (fun z => by rw [hg a z] at e2; cases e2)]; exact e2
  · by_cases z : a ∈ cs
    · exact g.gh.back (hg a z)
    · exact g.fr a n (by rw [delC_out z]; exact e)
  · by_cases z : a ∈ cs
    · rw [addC_in z]; exact e
    · rw [addC_out z]; exact g.th a (by rw [delC_out z]; exact e)
end
/-- the lambda as a function within a function -/
abbrev nfL (q : Str) (ps : Arguments) (sc : Scope) (cl : List (Str × Addr)) (c' : Addr) : NdefX.NF := ⟨"<lambda>", q, ps, [], sc, cl, c'⟩
/-- what a deed is made of: the lambda at f, its captured cells, what they hold -/
structure Deed (H : Hp) (f c' : Addr) (q : Str) (ps : Arguments) (body : Expr) (sc : Scope) (cl : List (Str × Addr)) (fr : List Str) (vs : List V) (cs : List Addr) : Prop where
  f : H f = some (LamO f q ps body sc cl c')
  c : H c' = some (LamX.CodeO c' q)
  all : ∀ y c, cl.lookup y = some c → c ∈ cs
  cs : ∀ c ∈ cs, ∃ u, H c = some (CellO c u)
  inj : ∀ x y c, cl.lookup x = some c → cl.lookup y = some c → x = y
  len : vs.length = fr.length
  has : ∀ (i : Nat) (y : Str), fr[i]? = some y → ∃ c v u, cl.lookup y = some c ∧ vs[i]? = some v ∧ RelV v u ∧ H c = some (CellO c u)
/-- an expression that raises the class C -/
def Rz (X : Cx) (e : Expr) (τ : List Sl) (C : Addr) : Prop := ∀ (H0 G H : Hp) (σ : L2.St), Ok H0 G H τ σ → ∀ W : WX, Takes X W → (∀ σ' G' H', Gr m0 G H G' H' → W (.ref C) none σ' H') → ∀ Q : VK, We X e σ H Q
/-- what a deed comes to: data, or an exception of the class -/
def Comes (G H : Hp) (Q : VK) (E : XK) : D ⊕ Addr → Prop
  | .inl d => ∀ v G' H', Gr m0 G H G' H' → Rp G' v d → Q v H'
  | .inr C => ∀ G' H', Gr m0 G H G' H' → E (.ref C) none H'
def DeedR (P : Program) (w : World) (K : PySem.W.Frag) (mg : Str → Option Value) (base : Heap) (k : Nat) (f : Addr) (G H : Hp) (res : D ⊕ Addr) : Prop :=
  ∀ (A : Around) (outer : List Env) (s : Shared) (Q : VK) (E : XK), Room k A → Env0 P w K mg base A outer s H → Comes G H Q E res → codeAny (model P w) A (.call (.ref f) ⟨[], []⟩) (CR (L2.CX P w) outer P w H s Q E) s
def BodyR (X : Cx) (e : Expr) (τ : List Sl) : D ⊕ Addr → Prop
  | .inl d => Pu X e τ d
  | .inr C => Rz X e τ C
section
variable {P : Program} {w : World} {K : PySem.W.Frag} {mg : Str → Option Value} {base : Heap} {G H : Hp} {f c' : Addr} {q : Str} {ps : Arguments} {body : Expr} {sc : Scope} {cl : List (Str × Addr)} {fr : List Str} {vs : List V} {cs : List Addr} {A : Around} {outer : List Env} {s s' : Shared}
theorem Deed.cells (De : Deed H f c' q ps body sc cl fr vs cs) (k : HOk P w H s.heap) : NdefX.CellsAt cl fr (vs.map some) s.heap (delC H cs) := by
  refine ⟨by rw [List.length_map]; exact De.len, fun y c e => ?_, De.inj, fun i y e => ?_⟩
  · have hm := De.all y c e
    obtain ⟨u, e2⟩ := De.cs c hm
    exact ⟨delC_in hm, some u, cellO_at k e2⟩
  · obtain ⟨c, v, u, h1, h2, h3, h4⟩ := De.has i y e
    refine ⟨c, h1, fun v' e' => ⟨u, ?_, cellO_at k h4⟩⟩
    rw [List.getElem?_map, h2] at e'
    have e' : some v = some v' := Option.some.inj e'
    cases e'
    exact h3
/-- what a call without the cells comes to, with them -/
theorem conv {Q Q1 : VK} {E E1 : XK} (e0 : Env0 P w K mg base A outer s H) (hx : ∀ c ∈ cs, ∃ u, H c = some (CellO c u)) (hQ : ∀ v H', Q1 v H' → (∀ c ∈ cs, H' c = none) → Q v (addC H' H cs)) (hE : ∀ cls d H', E1 cls d H' → (∀ c ∈ cs, H' c = none) → E cls d (addC H' H cs))
    {r : Result} (h : CR (L2.CX P w) outer P w (delC H cs) s Q1 E1 r s') : CR (L2.CX P w) outer P w H s Q E r s' := by
  have nf : ∀ c ∈ cs, c ∉ frs outer := fun c hc z => by
    obtain ⟨u, e⟩ := hx c hc
    rw [e0.frf c z] at e
    cases e
  have cell : ∀ c ∈ cs, ∃ u o, H c = some (CellO c u) ∧ s.heap.get? c = some o ∧ o.data = .cell (some u) := fun c hc => by
    obtain ⟨u, e⟩ := hx c hc
    obtain ⟨o, h1, h2⟩ := cellO_at e0.hok e
    exact ⟨u, o, e, h1, h2⟩
  cases r with
  | ok fl =>
    cases fl with
    | ret u =>
      obtain ⟨v, H', os, bare, un, hok, rv, q1⟩ := h
      have hn : ∀ c ∈ cs, H' c = none := fun c hc => by
        obtain ⟨u, o, _, e2, _⟩ := cell c hc
        exact un.free c o e2 (delC_in hc) (by simp)
      refine ⟨v, addC H' H cs, os, bare, ⟨fun b o e n hb hx => ?_, fun b o e n hb hx => ?_, fun b o e n hx2 => ?_, fun b o e hx => un.there b o e hx, fun b xs e => ?_, fun b o xs e => ?_, fun b xs e => ?_⟩, hok_back hok hn fun c hc => ?_, rv, hQ v H' q1 hn⟩
      · exact un.keep b o e (by by_cases z : b ∈ cs; exact delC_in z; rw [delC_out z]; exact n) hb hx
      · exact un.slot b o e (by by_cases z : b ∈ cs; exact delC_in z; rw [delC_out z]; exact n) hb hx
      · have z : b ∉ cs := fun z => by
          obtain ⟨u, e2⟩ := hx b z
          rw [n] at e2; cases e2
        rw [addC_out z]
        exact un.free b o e (by rw [delC_out z]; exact n) hx2
      · have z : b ∉ cs := out_of hx e fun u z => by cases z
        rw [addC_out z]
        exact un.tups b xs (by rw [delC_out z]; exact e)
      · have z : b ∉ cs := out_of hx e fun u z => by cases z
        rw [addC_out z]
        exact un.frzs b o xs (by rw [delC_out z]; exact e)
      · have z : b ∉ cs := out_of hx e fun u z => by cases z
        rw [addC_out z]
        exact un.tbls b xs (by rw [delC_out z]; exact e)
      · obtain ⟨u, o, e1, e2, e3⟩ := cell c hc
        exact ⟨u, e1, o, un.keep c o e2 (delC_in hc) (nf c hc) (by simp), e3⟩
    | next => exact h
    | brk => exact h
    | cont => exact h
  | error e =>
    obtain ⟨a, B, H', cls, d, ea, fl, hok, ub, na, os, bare, q1⟩ := h
    have hB : ∀ c ∈ cs, ∃ u o, H c = some (CellO c u) ∧ B.get? c = some o ∧ o.data = .cell (some u) := fun c hc => by
      obtain ⟨u, o, e1, e2, e3⟩ := cell c hc
      exact ⟨u, o, e1, ub.keep c o e2 (delC_in hc) (nf c hc), e3⟩
    have hn : ∀ c ∈ cs, H' c = none := fun c hc => by
      obtain ⟨u, o, _, e2, _⟩ := cell c hc
      exact ub.free c o e2 (delC_in hc)
    have nac : a ∉ cs := fun z => by
      obtain ⟨u, o, _, e2, _⟩ := hB a z
      rw [fl.2.1] at e2; cases e2
    refine ⟨a, B, addC H' H cs, cls, d, ea, fl, hok_back hok hn fun c hc => ?_, ⟨fun b o e n hb => ?_, ub.slot, fun b o e n => ?_, ub.there, fun b xs e => ?_, fun b o xs e => ?_, fun b xs e => ?_⟩, by rw [addC_out nac]; exact na, os, bare, hE cls d H' q1 hn⟩
    · obtain ⟨u, o, e1, e2, e3⟩ := hB c hc
      exact ⟨u, e1, o, e2, e3⟩
    · exact ub.keep b o e (by by_cases z : b ∈ cs; exact delC_in z; rw [delC_out z]; exact n) hb
    · have z : b ∉ cs := fun z => by
        obtain ⟨u, e2⟩ := hx b z
        rw [n] at e2; cases e2
      rw [addC_out z]
      exact ub.free b o e (by rw [delC_out z]; exact n)
    · have z : b ∉ cs := out_of hx e fun u z => by cases z
      rw [addC_out z]
      exact ub.tups b xs (by rw [delC_out z]; exact e)
    · have z : b ∉ cs := out_of hx e fun u z => by cases z
      rw [addC_out z]
      exact ub.frzs b o xs (by rw [delC_out z]; exact e)
    · have z : b ∉ cs := out_of hx e fun u z => by cases z
      rw [addC_out z]
      exact ub.tbls b xs (by rw [delC_out z]; exact e)
theorem Deed.env0 (De : Deed H f c' q ps body sc cl fr vs cs) (e0 : Env0 P w K mg base A outer s H) : Env0 P w K mg base A outer s (delC H cs) := by
  have key : ∀ b, H b = none → delC H cs b = none := fun b n => by
    by_cases z : b ∈ cs
    · exact delC_in z
    · rw [delC_out z]; exact n
  exact ⟨e0.frames, e0.mod, fun b o e => ⟨(e0.bs b o e).1, key b (e0.bs b o e).2⟩, e0.bsz, e0.funs, fun b hb => key b (e0.frf b hb), hok_del e0.hok De.cs, e0.bare⟩
/-- a deed, called -/
theorem deed_run {k : Nat} {ds : List D} {res : D ⊕ Addr} (De : Deed H f c' q ps body sc cl fr vs cs) (S : NdefX.NScope fr [] fr sc) (ex : Ex G H) (hg : ∀ c ∈ cs, G c = none) (r : RpA G vs ds)
    (hbind : ∀ pm cv ctv : Value, bindArgs (PySem.W.kla_fn "<lambda>" q ps body sc cl pm cv ctv) ⟨[], []⟩ = pure [])
    (hbody : ∀ (A : Around) (outer : List Env) (s : Shared) (E : XK), Room k (A.deeper (NdefX.envF (nfL q ps sc cl c') f s.heap.objs.size)) → BodyR (NdefX.ncx (L2.CX P w) P w K mg base fr (nfL q ps sc cl c') f A outer s (delC H cs) E) body (ent fr ds) res) :
    DeedR P w K mg base (k + 1) f G H res := by
  intro A outer s Q E hr e0 hcome
  have lim : s.heap.NoLimit := e0.mod.nolimit.keeps fun b o e => (e0.bs b o e).1
  obtain ⟨⟨pm, ctv, hf⟩, _, _⟩ := e0.hok f _ De.f
  obtain ⟨⟨oc, vf, tq, hoc, hdc, hvc⟩, _, _⟩ := e0.hok c' _ De.c
  have e1 := De.env0 e0
  have exd : Ex G (delC H cs) := fun a o e => by
    rw [delC_out fun z => by rw [hg a z] at e; cases e]
    exact ex a o e
  let Q1 : VK := fun v H' => ∃ G', Gr m0 G (delC H cs) G' H' ∧ ∀ d, res = .inl d → Rp G' v d
  let E1 : XK := fun cls d H' => ∃ G', Gr m0 G (delC H cs) G' H' ∧ d = none ∧ ∀ C, res = .inr C → cls = .ref C
  have main : codeAny (model P w) A (.call (.ref f) ⟨[], []⟩) (CR (L2.CX P w) outer P w (delC H cs) s (fun v H' => Q1 v H' ∧ ∃ d, res = .inl d) fun cls d H' => E1 cls d H' ∧ ∃ C, res = .inr C) s := by
    refine PySem.W.kla_callFunE hr.depth hf rfl S.co S.gen rfl ⟨c', oc, vf, tq, rfl, hoc, hdc, hvc⟩ ?_
    rw [hbind]
    refine wpAny_pure (wpAny_newFunctionEnv S.nocell (fun y hy => absurd hy (by simp)) (fun h₁ hns hsb => ⟨lim.fresh _ hsb, ?_⟩) S.kind)
    have kp : ∀ b o, s.heap.get? b = some o → h₁.get? b = some o := fun b o e =>
      hsb.extBut b o (Nat.ne_of_lt (Heap.lt_size e)) (Heap.get?_push_of_some _ e)
    have J := NdefX.inv_startN (CX := L2.CX P w) (F := nfL q ps sc cl c') (f := f) (E := fun cls d H' => E1 cls d H' ∧ ∃ C, res = .inr C) (tk := s.toks + ([] : List (Str × Value)).length) S hr.hd e1 (vs := []) (us := []) rfl .nil (De.cells e0.hok) hns kp
    have est : NdefX.startF fr [] (vs.map some) = L2.start fr vs := by
      unfold NdefX.startF L2.start
      simp
    rw [est] at J
    refine PySem.W.kla_codeExpr ?_
    have hb := hbody A outer s (fun cls d H' => E1 cls d H' ∧ ∃ C, res = .inr C) (hr.deeper _)
    have fin : We (NdefX.ncx (L2.CX P w) P w K mg base fr (nfL q ps sc cl c') f A outer s (delC H cs) fun cls d H' => E1 cls d H' ∧ ∃ C, res = .inr C) body (L2.start fr vs) (delC H cs) (fun v H' => Q1 v H' ∧ ∃ d, res = .inl d) := by
      cases res with
      | inl d => exact hb (delC H cs) G (delC H cs) _ (ok_ent exd r) _ fun v G' H' g rv => ⟨⟨G', g, fun d' e => by cases e; exact rv⟩, d, rfl⟩
      | inr C => exact hb (delC H cs) G (delC H cs) _ (ok_ent exd r) _ (takes_of rfl rfl rfl rfl) (fun σ' G' H' g => ⟨⟨G', g, rfl, fun C' e => by cases e; rfl⟩, C, rfl⟩) _
    refine wpAny_mono (fin.run [] _ J) (fun v s2 hq => ?_) fun e s2 he => he
    obtain ⟨x, H2, J2, rv, q2⟩ := hq
    exact ⟨x, H2, J2.os, J2.bare, J2.base, J2.hok, rv, q2⟩
  refine codeAny_mono main fun r s2 hq => conv e0 De.cs (fun v H' ⟨⟨G', g, hv⟩, d, ed⟩ hn => ?_) (fun cls dx H' ⟨⟨G', g, h1, hv⟩, C, ec⟩ hn => ?_) hq
  · subst ed
    exact hcome v G' _ (gr_back hn De.cs g) (hv d rfl)
  · subst ec h1
    rw [hv C rfl]
    exact hcome G' _ (gr_back hn De.cs g)
end
end R87
namespace R87
open PySem PySem.Spec PyProof.Rows L2
section
variable {X : Cx} {pins : List (Addr × Obj)} {σ : L2.St} {H : Hp} {s : Shared}
/-- made: all but the table at P stays -/
theorem lam_made {c P : Addr} {ps : Arguments} {body : Expr} {sc : Scope} {pos : Pos} {E Q : Value → Shared → Prop} (I : Inv X pins σ H s) (TB : LamX.TabB X.base X.mg c P) (hcode : X.env.code = .ref c) (hT : LamX.TabS H P (X.env.qual ++ "<lambda>")) (hdef : defaultsOf ps X.env = ([], []))
    (hfree : ∀ y ∈ sc.names, y.2 = .free → ∃ c, X.env.cells.lookup y.1 = some c)
    (h : ∀ (f c' : Addr) (H1 : Hp) (s' : Shared), Inv X pins σ H1 s' → (∀ b o, b ≠ P → H b = some o → H1 b = some o) → (∃ qs, H P = some (.tbl qs)) → LamX.TabS H1 P (X.env.qual ++ "<lambda>") → H f = none → H1 f = some (LamO f (X.env.qual ++ "<lambda>") ps body sc (cloFrom X.env.cells sc.names []) c') →
      H1 c' = some (LamX.CodeO c' (X.env.qual ++ "<lambda>")) → Q (.ref f) s') : wpAny (model X.prog X.w) X.A (eval (.Lambda ps body sc pos) X.env) Q E s := by
  obtain ⟨qs, hP, ht, ha⟩ := hT
  have bP : s.heap.BuiltinsAt X.mg P := TB.bm.keeps I.bk
  have hP2 := I.hok P _ hP
  have hP2 : s.heap.get? P = some { cls := .none, data := .fields qs } := hP2
  refine PySem.W.kla_eval hdef ?_
  cases hc : codeAmong pos qs.toList with
  | none =>
    refine PySem.W.kla_makeFunction (c := c) (P := P) (mg := X.mg) (ps := qs) (closure_ok hfree) I.ok.glob (I.mod.glob.keeps I.bk) hcode (TB.code.keeps I.bk) hP2 ht hc TB.gP bP fun c' ctv h' tk hx hge hlt hrec htb => ?_
    obtain ⟨c2, oc, vf, t, e2, hoc, hd, hv⟩ := hrec
    cases e2
    have nC : H c' = none := I.hok.fresh hge
    have I1 := LamX.inv_table (t' := tk) (h' := h') (more := #[rawInt pos.line, rawInt pos.col, .ref c']) I hP (fun b o hb e => hx b o hb e) htb hge ⟨oc, vf, t, hoc, hd, hv⟩
    have nF := I1.hok.fresh (Nat.le_refl h'.objs.size)
    have I2 := I1.laid (t' := tk) (a := h'.objs.size) (h' := h'.push (PySem.W.kla_obj "<lambda>" (X.env.qual ++ "<lambda>") ps body sc (cloFrom X.env.cells sc.names []) ((X.mg "__name__").getD .none) c' ctv)) (o := LamO h'.objs.size (X.env.qual ++ "<lambda>") ps body sc (cloFrom X.env.cells sc.names []) c')
      (fun b u e => Heap.get?_push_of_some _ e) (Nat.le_refl _) (lamO_ok (Heap.get?_push_size _ rfl))
    have hP1 : P ≠ h'.objs.size := Nat.ne_of_lt (Heap.lt_size htb)
    have cP : P ≠ c' := ne_of_none hP nC
    have keepN : ∀ b o, b ≠ P → H b = some o → upd (upd (upd H P (.tbl (qs ++ #[rawInt pos.line, rawInt pos.col, .ref c']))) c' (LamX.CodeO c' (X.env.qual ++ "<lambda>"))) h'.objs.size (LamO h'.objs.size (X.env.qual ++ "<lambda>") ps body sc (cloFrom X.env.cells sc.names []) c') b = some o := fun b o nb e => by
      have e1 : upd (upd H P (.tbl (qs ++ #[rawInt pos.line, rawInt pos.col, .ref c']))) c' (LamX.CodeO c' (X.env.qual ++ "<lambda>")) b = some o := by
        rw [upd_ne (ne_of_none e nC), upd_ne nb]; exact e
      rw [upd_ne (ne_of_none e1 nF)]; exact e1
    have atC : upd (upd (upd H P (.tbl (qs ++ #[rawInt pos.line, rawInt pos.col, .ref c']))) c' (LamX.CodeO c' (X.env.qual ++ "<lambda>"))) h'.objs.size (LamO h'.objs.size (X.env.qual ++ "<lambda>") ps body sc (cloFrom X.env.cells sc.names []) c') c' = some (LamX.CodeO c' (X.env.qual ++ "<lambda>")) := by
      rw [upd_ne (Nat.ne_of_lt hlt), upd_same]
    refine h h'.objs.size c' _ _ I2 keepN ⟨qs, hP⟩ ⟨qs ++ #[rawInt pos.line, rawInt pos.col, .ref c'], ?_, ?_, fun p' cv hcv => ?_⟩ (I.hok.fresh (Nat.le_trans hge (Nat.le_of_lt hlt))) upd_same atC
    · rw [upd_ne hP1, upd_ne cP, upd_same]
    · have eL : (qs ++ #[rawInt pos.line, rawInt pos.col, .ref c']).toList = qs.toList ++ [rawInt pos.line, rawInt pos.col, .ref c'] := by simp
      rw [eL]
      exact PySem.TriplesOk_snoc _ _ _ _ ht
    · have eL : (qs ++ #[rawInt pos.line, rawInt pos.col, .ref c']).toList = qs.toList ++ [rawInt pos.line, rawInt pos.col, .ref c'] := by simp
      rw [eL] at hcv
      rcases LamX.among_app _ ht hcv with z | z
      · obtain ⟨c0, e1, e2⟩ := ha p' cv z
        refine ⟨c0, e1, keepN _ _ (fun w => ?_) e2⟩
        rw [w, hP] at e2
        exact LamX.codeO_ne _ (Option.some.inj e2).symm
      · exact ⟨c', z, atC⟩
  | some cv =>
    obtain ⟨c', e, hco⟩ := ha pos cv hc
    subst e
    refine PySem.W.kla_makeFunctionHit (c := c) (P := P) (mg := X.mg) (ps := qs) (closure_ok hfree) I.ok.glob (I.mod.glob.keeps I.bk) hcode (TB.code.keeps I.bk) hP2 ht hc bP fun ctv h' tk hx hsz => ?_
    have I1 : Inv X pins σ H { s with heap := h', toks := tk } := I.kept hx
    have nF : H h'.objs.size = none := I1.hok.fresh (Nat.le_refl _)
    have I2 := I1.laid (t' := tk) (a := h'.objs.size) (h' := h'.push (PySem.W.kla_obj "<lambda>" (X.env.qual ++ "<lambda>") ps body sc (cloFrom X.env.cells sc.names []) ((X.mg "__name__").getD .none) c' ctv)) (o := LamO h'.objs.size (X.env.qual ++ "<lambda>") ps body sc (cloFrom X.env.cells sc.names []) c')
      (fun b u e => Heap.get?_push_of_some _ e) (Nat.le_refl _) (lamO_ok (Heap.get?_push_size _ rfl))
    have keepN : ∀ b o, H b = some o → upd H h'.objs.size (LamO h'.objs.size (X.env.qual ++ "<lambda>") ps body sc (cloFrom X.env.cells sc.names []) c') b = some o := fun b o e => by
      rw [upd_ne (ne_of_none e nF)]; exact e
    refine h h'.objs.size c' _ _ I2 (fun b o _ e => keepN b o e) ⟨qs, hP⟩ ⟨qs, keepN _ _ hP, ht, fun p' cv hcv => ?_⟩ nF upd_same (keepN _ _ hco)
    obtain ⟨c0, e1, e2⟩ := ha p' cv hcv
    exact ⟨c0, e1, keepN _ _ e2⟩
end
/-- a lambda, as an expression -/
def tLamM (P : Addr) (q : Str) (ps : Arguments) (body : Expr) (sc : Scope) (cl : List (Str × Addr)) : TE := fun _ H Q => LamX.TabS H P q ∧ ∀ (f c' : Addr) (H1 : Hp), (∀ b o, b ≠ P → H b = some o → H1 b = some o) → (∃ qs, H P = some (.tbl qs)) → LamX.TabS H1 P q → H f = none → H1 f = some (LamO f q ps body sc cl c') → H1 c' = some (LamX.CodeO c' q) → Q (.ref f) H1
theorem pe_lamM {X : Cx} {c P : Addr} {ps : Arguments} {body : Expr} {sc : Scope} {pos : Pos} (TB : LamX.TabB X.base X.mg c P) (hcode : X.env.code = .ref c) (hdef : defaultsOf ps X.env = ([], []) := by rfl) (hsc : ∀ y ∈ sc.names, y.2 = .free → X.env.scope.names.lookup y.1 = some .cell ∨ X.env.scope.names.lookup y.1 = some .free) :
    PE X (.Lambda ps body sc pos) (tLamM P (X.env.qual ++ "<lambda>") ps body sc (cloFrom X.env.cells sc.names [])) :=
  ⟨fun pins s σ H Q I ⟨hT, k⟩ => lam_made I TB hcode hT hdef (fun y hy e => (hsc y hy e).elim (fun z => I.ok.has _ (.inl z)) fun z => I.ok.has _ (.inr z)) fun f c' H1 s' I1 k1 k2 k3 k4 k5 k6 => ⟨.ref f, H1, I1, rfl, k f c' H1 k1 k2 k3 k4 k5 k6⟩⟩
structure Wr (X : Cx) (sts : List Stmt) (R : V → L2.St → Hp → Prop) (σ : L2.St) (H : Hp) : Prop where
  run : ∀ (pins : List (Addr × Obj)) (s : Shared), Inv X pins σ H s → wpAny (model X.prog X.w) X.A (execs sts X.env) (fun fl s' => ∃ u v σ' H', fl = .ret u ∧ Inv X pins σ' H' s' ∧ RelV v u ∧ R v σ' H') X.xe s
section
variable {X : Cx} {R : V → L2.St → Hp → Prop} {σ : L2.St} {H : Hp} {st : Stmt} {rest : List Stmt}
theorem one_of {M : Model} {A : Around} {env : Env} {Q : Flow → Shared → Prop} {E : Value → Shared → Prop} {s : Shared} (h : wpAny M A (execs [st] env) Q E s) : wpAny M A (exec st env) Q E s := fun Γ p hΓ => by
  have h2 := h Γ p hΓ
  rw [execs_cons, Sem.wp_bind'] at h2
  refine Sem.wp_mono M Γ _ (fun f p' s' h' => ?_) (fun _ _ _ h' => h') _ _ h2
  cases f <;> exact h'
/-- a statement that goes on -/
theorem wr_step {D : Ends} (h : Wb X [st] D σ H) (h1 : ∀ σ' H', D.nx σ' H' → Wr X rest R σ' H') (h2 : ∀ v H', ¬ D.rt v H') (h3 : ∀ σ' H', ¬ D.bk σ' H') (h4 : ∀ σ' H', ¬ D.ct σ' H') : Wr X (st :: rest) R σ H := ⟨fun pins s I => by
  refine wpAny_execs_cons (thn (one_of (h.run pins s I)) fun f s1 q => ?_)
  cases f with
  | next =>
    obtain ⟨σ', H', I', q⟩ := q
    exact (h1 σ' H' q).run pins s1 I'
  | ret v =>
    obtain ⟨_, _, _, _, _, q⟩ := q
    exact (h2 _ _ q).elim
  | brk =>
    obtain ⟨_, _, _, q⟩ := q
    exact (h3 _ _ q).elim
  | cont =>
    obtain ⟨_, _, _, q⟩ := q
    exact (h4 _ _ q).elim⟩
end
/-- .. of abstract slots, the entry fixed -/
def AR (X : Cx) (m : Addr → Prop) (G0 H0 : Hp) (sts : List Stmt) (τ : List Sl) (R : V → L2.St → Hp → Prop) : Prop := ∀ (G H : Hp) (σ : L2.St), Gr m G0 H0 G H → Ok H0 G H τ σ → Wr X sts R σ H
section
variable {X : Cx} {m : Addr → Prop} {G0 H0 : Hp} {τ τ' : List Sl} {R : V → L2.St → Hp → Prop} {st : Stmt} {rest : List Stmt} {c : Expr} {a : List Stmt} {pos : Pos}
theorem ar_step (h : AB X m [st] τ { nx := fun t => AR X m G0 H0 rest t R, rt := fun _ _ => False }) : AR X m G0 H0 (st :: rest) τ R := fun G H σ g k =>
  wr_step (h G0 H0 G H σ g k) (fun σ' H' ⟨t, G', g', k', hr⟩ => hr G' H' σ' g' k') (fun v H' ⟨_, _, _, _, _, _, _, z⟩ => z) (fun σ' H' ⟨_, _, _, _, z⟩ => z) fun σ' H' ⟨_, _, _, _, z⟩ => z
theorem AR.le (h : AR X m G0 H0 rest τ R) (l : Le τ τ') : AR X m G0 H0 rest τ' R := fun G H σ g k => h G H σ g (k.le l)
theorem ar_if {b : Bool} (hc : Pt X c τ b) (h1 : b = true → AR X m G0 H0 a τ R) (h2 : b = false → AR X m G0 H0 rest τ R) : AR X m G0 H0 (.If c a [] pos :: rest) τ R := fun G H σ g k => ⟨fun pins s I => by
  refine wpAny_execs_cons (wpAny_If (thn ((hc H0 G H σ k (fun d H1 => d = b ∧ ∃ G', Gr m0 G H G' H1) fun G' H' g' => ⟨rfl, G', g'⟩).run pins s I) fun d s1 q => ?_))
  obtain ⟨H1, I1, rfl, G1, g1⟩ := q
  cases d with
  | true =>
    refine thn ((h1 rfl G1 H1 σ (g.trans g1.any) (k.gr g1)).run pins s1 I1) fun f s2 q => ?_
    obtain ⟨u, v, σ', H', rfl, q⟩ := q
    exact ⟨u, v, σ', H', rfl, q⟩
  | false => exact wpAny_execs_nil ((h2 rfl G1 H1 σ (g.trans g1.any) (k.gr g1)).run pins s1 I1)⟩
/-- the table changes, all else stays -/
theorem Ok.tab {G H H1 : Hp} {P : Addr} {qs : Array Value} {σ : L2.St} (k : Ok H0 G H τ σ) (hP : H P = some (.tbl qs)) (gP : G P = none) (st : ∀ b o, b ≠ P → H b = some o → H1 b = some o) : Ok H0 G H1 τ σ where
  ex := fun b o e => st b o (fun z => by rw [z, gP] at e; cases e) (k.ex b o e)
  len := k.len
  sh := k.sh
  ow := fun i ds e => let ⟨p, vs, h1, h2, h3, h0, h4⟩ := k.ow i ds e; ⟨p, vs, h1, st p _ (fun z => by rw [z, hP] at h2; cases h2) h2, h3, h0, h4⟩
  ap := k.ap
  sr := fun i a n e => let ⟨h1, h2, h3⟩ := k.sr i a n e; ⟨h1, h2, h3.ex fun o q => by
    obtain ⟨x, y, z, e2, _⟩ := h3
    exact st a o (fun w => by rw [w, hP] at e2; cases e2) q⟩
  aq := k.aq
  su := k.su
theorem tabS_gr {a P : Addr} {kk : Nat} {q : Str} {G H : Hp} (t : LamX.TabS H0 P q) (g : Gr (fun b => b = a) G0 H0 G H) (hs : Sk a kk H0) : LamX.TabS H P q := by
  obtain ⟨qs, h1, h2, h3⟩ := t
  obtain ⟨x, y, z, e, _⟩ := hs
  have ne : ∀ b o, H0 b = some o → (∀ xs, o ≠ .lst xs) → H b = some o := fun b o hb n => g.hh b o (fun w => by rw [w, e] at hb; exact n _ (Option.some.inj hb).symm) hb
  refine ⟨qs, ne P _ h1 (fun xs w => by cases w), h2, fun pos cv hc => ?_⟩
  obtain ⟨c, e1, e2⟩ := h3 pos cv hc
  exact ⟨c, e1, ne c _ e2 fun xs w => by unfold LamX.CodeO at w; cases w⟩
/-- the slots and the heap behind «return (lambda: .., e)» -/
structure Out (X : Cx) (P a : Addr) (G0 H0 : Hp) (τ : List Sl) (ps : Arguments) (body : Expr) (sc : Scope) (d : D) (v : V) (σ : L2.St) (H : Hp) : Prop where
  ex : ∃ G f c' T u, Gr (fun b => b = a ∨ ∃ qs, H0 b = some (.tbl qs)) G0 H0 G H ∧ Ok H0 G H τ σ ∧ v = .ref T ∧ H T = some (.tup [.ref f, u]) ∧ Rp G u d ∧ H f = some (LamO f (X.env.qual ++ "<lambda>") ps body sc (cloFrom X.env.cells sc.names []) c') ∧ H c' = some (LamX.CodeO c' (X.env.qual ++ "<lambda>")) ∧ LamX.TabS H P (X.env.qual ++ "<lambda>")
theorem ar_lam {P a c : Addr} {kk : Nat} {ps : Arguments} {body e : Expr} {sc : Scope} {p1 p2 : Pos} {k0 : Nat} {d : D} (TB : LamX.TabB X.base X.mg c P) (hcode : X.env.code = .ref c) (hsc : ∀ y ∈ sc.names, y.2 = .free → X.env.scope.names.lookup y.1 = some .cell ∨ X.env.scope.names.lookup y.1 = some .free)
    (hT : LamX.TabS H0 P (X.env.qual ++ "<lambda>")) (hP0 : G0 P = none) (hs : Sk a kk H0) (h : Pu X e τ d) (hst : noStar e = true := by rfl) (hdef : defaultsOf ps X.env = ([], []) := by rfl) : AR X (fun b => b = a) G0 H0 [.Return (some (.Tuple [.Lambda ps body sc p1, e] k0 p2)) pos] τ (Out X P a G0 H0 τ ps body sc d) := fun G H σ g k => by
  have hT1 := tabS_gr hT g hs
  have gP : G P = none := g.fr P hP0 (by obtain ⟨qs, e, _⟩ := hT; rw [e]; exact fun z => by cases z)
  have key : We X (.Tuple [.Lambda ps body sc p1, e] k0 p2) σ H (fun v H' => Out X P a G0 H0 τ ps body sc d v σ H') := by
    refine We.of (pe_tup (pa_cons (pe_lamM TB hcode hdef hsc) (pa_cons pe_we pa_nil (star_cons hst)) rfl)) ⟨hT1, fun f c' H1 s1 ⟨qs, hq⟩ t1 f0 hf hc => ?_⟩
    have k1 : Ok H0 G H1 τ σ := k.tab hq gP s1
    refine h H0 G H1 σ k1 _ fun u G2 H2 g2 r2 => ⟨Nat.le_trans (show 2 ≤ 1000 by decide) (sl1000 (Nat.le_refl _)), fun T hTn => ?_⟩
    have e2 : Ex H2 (upd H2 T (.tup [.ref f, u])) := .new hTn
    have g3 : Gr m0 G H1 G2 (upd H2 T (.tup [.ref f, u])) := g2.trans (.newO g2.gh hTn)
    refine ⟨G2, f, c', T, u, ?_, k1.gr g3, rfl, upd_same, r2, e2 _ _ (g2.ex _ _ hf), e2 _ _ (g2.ex _ _ hc), t1.ext g3.ex⟩
    refine ⟨g.gg.trans g3.gg, fun b o n e => ?_, g3.gh, fun b e n => g3.fr b (g.fr b e n) ?_, fun b n => g3.th b ?_⟩
    · have n1 : b ≠ a := fun z => n (.inl z)
      have e3 := g.hh b o n1 e
      have nP : b ≠ P := fun z => n (.inr ⟨qs, by
        rw [z, hq] at e3
        rw [e, ← e3]⟩)
      exact g3.ex b o (s1 b o nP e3)
    · have := g.th b n
      by_cases z : b = P
      · obtain ⟨q2, e3, _⟩ := t1
        rw [z, e3]; exact fun w => by cases w
      · cases e3 : H b with
        | none => exact absurd e3 this
        | some o => rw [s1 b o z e3]; exact fun w => by cases w
    · have := g.th b n
      by_cases z : b = P
      · obtain ⟨q2, e3, _⟩ := t1
        rw [z, e3]; exact fun w => by cases w
      · cases e3 : H b with
        | none => exact absurd e3 this
        | some o => rw [s1 b o z e3]; exact fun w => by cases w
  exact ⟨fun pins s I => wpAny_execs_cons (wpAny_Return_some (thn (key.run pins s I) fun u s1 ⟨v, H1, I1, r1, q1⟩ => ⟨u, v, σ, H1, rfl, I1, r1, q1⟩))⟩
end
/-- the cells of the frame, tracked from now on -/
def putC (H : Hp) (l : List (Addr × Value)) : Hp := fun a => match l.lookup a with
  | some u => some (CellO a u)
  | none => H a
structure CellsL (n : Nat) (H : Hp) (h : Heap) (l : List (Addr × Value)) : Prop where
  no : ∀ p ∈ l, H p.1 = none
  cell : ∀ p ∈ l, h.IsCell p.1 (some p.2)
  new : ∀ p ∈ l, n ≤ p.1
theorem lookup_in {l : List (Addr × Value)} {a : Addr} {u : Value} (h : l.lookup a = some u) : (a, u) ∈ l := by
  induction l with
  | nil => cases h
  | cons y l ih =>
    have h2 : (match a == y.1 with | true => some y.2 | false => l.lookup a) = some u := h
    cases q : (a == y.1) with
    | true =>
      rw [q] at h2
      have e1 := beq_iff_eq.1 q
      have e2 : y.2 = u := Option.some.inj h2
      rw [e1, ← e2]
      exact .head _
    | false =>
      rw [q] at h2
      exact .tail _ (ih h2)
theorem lookup_none {l : List (Addr × Value)} {a : Addr} (h : l.lookup a = none) : ∀ p ∈ l, p.1 ≠ a := by
  induction l with
  | nil => intro p hp; cases hp
  | cons y l ih =>
    have h2 : (match a == y.1 with | true => some y.2 | false => l.lookup a) = none := h
    cases q : (a == y.1) with
    | true => rw [q] at h2; cases h2
    | false =>
      rw [q] at h2
      intro p hp
      rcases List.mem_cons.1 hp with w | w
      · rw [w]
        intro e
        rw [e] at q
        simp at q
      · exact ih h2 p w
theorem putC_none {H : Hp} {l : List (Addr × Value)} {a : Addr} (h : l.lookup a = none) : putC H l a = H a := by
  unfold putC; rw [h]
theorem putC_some {H : Hp} {l : List (Addr × Value)} {a : Addr} {u : Value} (h : l.lookup a = some u) : putC H l a = some (CellO a u) := by
  unfold putC; rw [h]
section
variable {P : Program} {w : World} {n : Nat} {H H0 : Hp} {h : Heap} {l : List (Addr × Value)}
theorem CellsL.ex (L : CellsL n H h l) : Ex H (putC H l) := fun a o e => by
  cases q : l.lookup a with
  | none => rw [putC_none q]; exact e
  | some u => rw [L.no _ (lookup_in q)] at e; cases e
theorem CellsL.at_ (L : CellsL n H h l) {p : Addr × Value} (hp : p ∈ l) : putC H l p.1 = some (CellO p.1 p.2) := by
  cases q : l.lookup p.1 with
  | none => exact absurd rfl (lookup_none q p hp)
  | some u =>
    have h1 := L.cell _ (lookup_in q)
    obtain ⟨o, e1, e2⟩ := h1
    obtain ⟨o2, e3, e4⟩ := L.cell p hp
    rw [e1] at e3
    cases e3
    rw [e2] at e4
    injection e4 with e4
    have e5 : u = p.2 := Option.some.inj e4
    rw [putC_some q, e5]
theorem CellsL.hok (L : CellsL n H h l) (k : HOk P w H h) : HOk P w (putC H l) h := fun b o e => by
  cases q : l.lookup b with
  | none =>
    rw [putC_none q] at e
    exact (k b o e).stay (fun _ _ _ q => q) (fun d r => L.ex d _ r) fun d xs r => L.ex d _ r
  | some u =>
    rw [putC_some q] at e
    cases e
    exact cellO_ok (L.cell _ (lookup_in q))
theorem CellsL.gr {m : Addr → Prop} {G0 G : Hp} (L : CellsL n H h l) (g : Gr m G0 H0 G H) : Gr m G0 H0 G (putC H l) :=
  ⟨g.gg, fun a o nm e => L.ex a o (g.hh a o nm e), fun a o e => L.ex a o (g.gh a o e), g.fr, fun a e => by
    have := g.th a e
    cases q : H a with
    | none => exact absurd q this
    | some o => rw [L.ex a o q]; exact fun z => by cases z⟩
theorem CellsL.un {fs : List Addr} {h0 : Heap} (L : CellsL n H h l) (hn : h0.objs.size ≤ n) (u : Un fs [] H0 H h0 h) : Un fs [] H0 (putC H l) h0 h := by
  refine ⟨u.keep, u.slot, fun b o e q hx => ?_, u.there, fun b xs e => L.ex b _ (u.tups b xs e), fun b o xs e => L.ex b _ (u.frzs b o xs e), fun b qs e => ?_⟩
  · cases q2 : l.lookup b with
    | none => rw [putC_none q2]; exact u.free b o e q hx
    | some v =>
      have := L.new _ (lookup_in q2)
      have h2 := Heap.lt_size e
      exact absurd (Nat.lt_of_lt_of_le h2 (Nat.le_trans hn this)) (Nat.lt_irrefl _)
  · obtain ⟨more, e2⟩ := u.tbls b qs e
    exact ⟨more, L.ex b _ e2⟩
end
end R87
namespace R87
open PySem PySem.Spec PyProof.Rows L2
/-- a def of the text, with its code object and that object's table -/
structure FunL (K : PySem.W.Frag) (mg : Str → Option Value) (base : Heap) (x qual : Str) (st : Stmt) (f : Addr) (fd : FuncData) (Pt : Addr) : Prop where
  ex : ∃ (oc : Value) (od : Option Addr) (kV doc pm : Value) (an : Option Addr) (c : Addr) (ct : Value) (osl : Array (Option Value)),
    fd = PySem.W.fnOf x qual (defArgs st) (defBody st) (defScope st) .none kV doc pm an (.ref c) ct ∧ K.lookup f = some ⟨oc, od, .func fd, osl⟩ ∧ PySem.W.codeIn K (.ref c) qual = true ∧ LamX.TabB base mg c Pt
section
variable {P : Program} {w : World} {K : PySem.W.Frag} {mg : Str → Option Value} {base : Heap}
/-- a def by its body, the end told with the state -/
theorem fn_raw {x qual : Str} {st : Stmt} {f Pt : Addr} {fd : FuncData} {N ps : List Str} {k : Nat} {sp : Sp} (F : FunL K mg base x qual st f fd Pt) (S : FnScope N ps (defScope st)) (len : ∀ vs H Q E, sp vs H Q E → vs.length = ps.length)
    (hbody : ∀ (c : Addr) (A : Around) (outer : List Env) (s : Shared) (H : Hp) (vs : List V) (Q : VK) (E : XK), LamX.TabB base mg c Pt → Room k (A.deeper (envOfC qual (defScope st) s.heap.objs.size f (.ref c))) → sp vs H Q E →
      ∃ R, Wr (cxOf CX0 P w K mg base N qual (defScope st) f (.ref c) A outer s H E) (defBody st) R (L2.start N vs) H ∧
        ∀ v u σ' H' s', R v σ' H' → Inv (cxOf CX0 P w K mg base N qual (defScope st) f (.ref c) A outer s H E) [] σ' H' s' → RelV v u → CE outer P w H s Q u s') : FnOk P w K mg base CX0 (k + 1) f fd ps sp := by
  obtain ⟨oc, od, kV, doc, pm, an, c, ct, osl, rfl, lk, hcd, TB⟩ := F.ex
  refine ⟨len, fun A outer s H args us vs Q E hr e0 hb r hsp => ?_⟩
  have hl := len vs H Q E hsp
  have KX : K.In s.heap := e0.mod.kin.keeps (fun b o e => (e0.bs b o e).1)
  have lim : s.heap.NoLimit := e0.mod.nolimit.keeps (fun b o e => (e0.bs b o e).1)
  have kinds : ∀ y ∈ ps.zip us, (defScope st).names.lookup y.1 = some .local ∨ ((defScope st).names.lookup y.1 = some .cell ∧ ((cellsFrom (s.heap.objs.size + 1) (defScope st).names []).lookup y.1).isSome = true) := fun y hy => by
    rcases S.par y.1 (List.of_mem_zip (a := y.1) (b := y.2) hy).1 with q | q
    · exact .inl q
    · exact .inr ⟨q, PySem.W.cellsFrom_some _ _ _ (.inl q)⟩
  refine codeAny_call_function hr.depth (KX _ _ lk) rfl S.co S.gen rfl (PySem.W.codeRec_of KX hcd) (hb _ _ _ _ ?_)
  refine wpAny_newFunctionEnv_cells S.kind kinds fun env he s1 xx => ?_
  subst he
  refine ⟨lim.keeps xx.toInCall.keep, codeAny_func ?_⟩
  obtain ⟨R, hw, hend⟩ := hbody c A outer s H vs Q E TB (hr.deeper _) hsp
  have I := inv_start (CX := CX0) (P := P) (w := w) (K := K) (mg := mg) (base := base) (f := f) (cd := .ref c) (E := E) S hr.hd e0 hl r xx
  refine wpAny_mono (hw.run [] s1 I) (fun fl s' hs => ?_) fun e s' hs => hs
  obtain ⟨u, v, σ', H', rfl, J, rv, q⟩ := hs
  exact hend v u σ' H' s' q J rv
end
/-- gathered along the names -/
theorem gather {A : Str → D → Addr → V → Value → Prop} : ∀ (fr : List Str) (ds : List D), ds.length = fr.length → (∀ (i : Nat) (y : Str) (d : D), fr[i]? = some y → ds[i]? = some d → ∃ c v u, A y d c v u) →
    ∃ (l : List (Addr × Value)) (vs : List V), vs.length = fr.length ∧ (∀ (i : Nat) (y : Str) (d : D), fr[i]? = some y → ds[i]? = some d → ∃ c v u, A y d c v u ∧ vs[i]? = some v ∧ (c, u) ∈ l) ∧ ∀ p ∈ l, ∃ y d v, y ∈ fr ∧ A y d p.1 v p.2
  | [], _, _, _ => ⟨[], [], rfl, fun i y d h => by simp at h, fun p hp => by cases hp⟩
  | y :: fr, [], h, _ => by simp at h
  | y :: fr, d :: ds, hl, h => by
    obtain ⟨c, v, u, ha⟩ := h 0 y d rfl rfl
    obtain ⟨l, vs, h1, h2, h3⟩ := gather fr ds (by simpa using hl) fun i y d a b => h (i + 1) y d (by simpa using a) (by simpa using b)
    refine ⟨(c, u) :: l, v :: vs, by rw [List.length_cons, List.length_cons, h1], fun i y' d' a b => ?_, fun p hp => ?_⟩
    · cases i with
      | zero =>
        have a : some y = some y' := a
        have b : some d = some d' := b
        cases a; cases b
        exact ⟨c, v, u, ha, rfl, .head _⟩
      | succ i =>
        obtain ⟨c2, v2, u2, q1, q2, q3⟩ := h2 i y' d' (by simpa using a) (by simpa using b)
        exact ⟨c2, v2, u2, q1, by simpa using q2, .tail _ q3⟩
    · rcases List.mem_cons.1 hp with z | z
      · rw [z]; exact ⟨y, d, v, .head _, ha⟩
      · obtain ⟨y2, d2, v2, q1, q2⟩ := h3 p z
        exact ⟨y2, d2, v2, .tail _ q1, q2⟩
theorem rpa_of {G : Hp} : ∀ {vs : List V} {ds : List D}, vs.length = ds.length → (∀ (i : Nat) (d : D), ds[i]? = some d → ∃ v, vs[i]? = some v ∧ Rp G v d) → RpA G vs ds
  | [], [], _, _ => .nil
  | [], _ :: _, h, _ => by simp at h
  | _ :: _, [], h, _ => by simp at h
  | v :: vs, d :: ds, hl, h => by
    obtain ⟨v', e, r⟩ := h 0 d rfl
    have e : some v = some v' := e
    cases e
    exact .cons r (rpa_of (by simpa using hl) fun i d hd => by
      obtain ⟨v2, e2, r2⟩ := h (i + 1) d (by simpa using hd)
      exact ⟨v2, by simpa using e2, r2⟩)
/-- what is told behind the frame that made the lambda -/
structure Told (P : Program) (w : World) (K : PySem.W.Frag) (mg : Str → Option Value) (base : Heap) (k : Nat) (Pt a : Addr) (q : Str) (kk : Nat) (G0 H0 : Hp) (d : D) (res : D ⊕ Addr) (v : V) (H : Hp) : Prop where
  ex : ∃ G f T u, Gr (fun b => b = a ∨ ∃ qs, H0 b = some (.tbl qs)) G0 H0 G H ∧ v = .ref T ∧ H T = some (.tup [.ref f, u]) ∧ Rp G u d ∧ (∃ ps body sc cl c', H f = some (LamO f q ps body sc cl c')) ∧ LamX.TabS H Pt q ∧ G a = none ∧ Sk a kk H ∧ DeedR P w K mg base k f G H res
section
variable {P : Program} {w : World} {K : PySem.W.Frag} {mg : Str → Option Value} {base : Heap} {N : List Str} {qual : Str} {sco : Scope} {f0 : Addr} {cdv : Value} {A : Around} {outer : List Env} {s s' : Shared} {H0 G0 : Hp} {E : XK} {σ' : L2.St} {H' : Hp} {Pt a : Addr} {τ : List Sl} {ps : Arguments} {body : Expr} {sc : Scope} {d : D} {v : V} {u : Value} {Q : VK} {fr : List Str} {ds : List D} {k kk i0 : Nat} {res : D ⊕ Addr}
theorem done_end (J : Inv (cxOf CX0 P w K mg base N qual sco f0 cdv A outer s H0 E) [] σ' H' s') (rv : RelV v u) (o : Out (cxOf CX0 P w K mg base N qual sco f0 cdv A outer s H0 E) Pt a G0 H0 τ ps body sc d v σ' H') (S : NdefX.NScope fr [] fr sc) (hl : ds.length = fr.length)
    (hfr : ∀ (i : Nat) (y : Str) (d : D), fr[i]? = some y → ds[i]? = some d → ∃ j : Nat, N[j]? = some y ∧ τ[j]? = some (Sl.sh d) ∧ sco.names.lookup y = some .cell) (hsr : τ[i0]? = some (Sl.sr a kk))
    (hbind : ∀ pm cv ctv cl, bindArgs (PySem.W.kla_fn "<lambda>" (qual ++ ".<locals>." ++ "<lambda>") ps body sc cl pm cv ctv) ⟨[], []⟩ = pure [])
    (hbody : ∀ (f c' : Addr) (cl : List (Str × Addr)) (A : Around) (outer : List Env) (s : Shared) (Hm : Hp) (E : XK), Room k (A.deeper (NdefX.envF (nfL (qual ++ ".<locals>." ++ "<lambda>") ps sc cl c') f s.heap.objs.size)) → BodyR (NdefX.ncx (L2.CX P w) P w K mg base fr (nfL (qual ++ ".<locals>." ++ "<lambda>") ps sc cl c') f A outer s Hm E) body (ent fr ds) res)
    (hQ : ∀ v H, Told P w K mg base (k + 1) Pt a (qual ++ ".<locals>." ++ "<lambda>") kk G0 H0 d res v H → Q v H) : CE outer P w H0 s Q u s' := by
  obtain ⟨G, f, c', T, u2, g, ok, ev, hT, ru, hf, hc, tb⟩ := o.ex
  obtain ⟨m, hns, hloc⟩ := J.loc
  have one : ∀ (i : Nat) (y : Str) (d : D), fr[i]? = some y → ds[i]? = some d → ∃ c v u, (cellsFrom (s.heap.objs.size + 1) sco.names []).lookup y = some c ∧ Rp G v d ∧ RelV v u ∧ s'.heap.IsCell c (some u) := fun i y d h1 h2 => by
    obtain ⟨j, n1, n2, n3⟩ := hfr i y d h1 h2
    obtain ⟨v, e1, r1⟩ := ok.sh j d n2
    obtain ⟨u, r2, lk⟩ := hloc j y v n1 e1 (.inr (.inl n3))
    rcases lk with ⟨z, _⟩ | ⟨_, c, e2, e3⟩
    · have z : sco.names.lookup y = some .local := z
      rw [n3] at z; cases z
    · exact ⟨c, v, u, e2, r1, r2, e3⟩
  obtain ⟨l, vs, hvl, g1, g2⟩ := gather fr ds hl one
  have hfree : ∀ y ∈ sc.names, y.2 = .free → ∃ c, (cellsFrom (s.heap.objs.size + 1) sco.names []).lookup y.1 = some c := fun y hy e => by
    have hm := S.free y hy e
    obtain ⟨i, hi, e1⟩ := List.mem_iff_getElem.1 hm
    obtain ⟨d, hd⟩ : ∃ d, ds[i]? = some d := ⟨_, List.getElem?_eq_getElem (by omega)⟩
    obtain ⟨c, _, _, h1, _⟩ := one i y.1 d (by rw [List.getElem?_eq_getElem hi, e1]) hd
    exact ⟨c, h1⟩
  have L : CellsL s.heap.objs.size H' s'.heap l := by
    refine ⟨fun p hp => ?_, fun p hp => ?_, fun p hp => ?_⟩
    · obtain ⟨y, d, v, hy, h1, _⟩ := g2 p hp
      exact J.freeC y p.1 h1
    · obtain ⟨y, d, v, hy, _, _, _, h4⟩ := g2 p hp
      exact h4
    · obtain ⟨y, d, v, hy, h1, _⟩ := g2 p hp
      exact J.ok.cab y p.1 rfl h1
  have De : Deed (putC H' l) f c' (qual ++ ".<locals>." ++ "<lambda>") ps body sc (cloFrom (cellsFrom (s.heap.objs.size + 1) sco.names []) sc.names []) fr vs (l.map (·.1)) := by
    refine ⟨L.ex _ _ hf, L.ex _ _ hc, fun y c e => ?_, fun c hc => ?_, fun x y c e1 e2 => ?_, hvl, fun i y hy => ?_⟩
    · have e1 := NdefX.clo_cm hfree e
      have hy : y ∈ fr := by
        rcases cloFrom_mem (PySem.mem_of_lookup e) with hm | ⟨h1, _⟩
        · cases hm
        · exact S.free _ h1 rfl
      obtain ⟨i, hi, e2⟩ := List.mem_iff_getElem.1 hy
      obtain ⟨d, hd⟩ : ∃ d, ds[i]? = some d := ⟨_, List.getElem?_eq_getElem (by omega)⟩
      obtain ⟨c2, v, u, ⟨h1, _⟩, _, h3⟩ := g1 i y d (by rw [List.getElem?_eq_getElem hi, e2]) hd
      rw [e1] at h1
      cases h1
      exact List.mem_map.2 ⟨_, h3, rfl⟩
    · obtain ⟨p, hp, rfl⟩ := List.mem_map.1 hc
      exact ⟨_, L.at_ hp⟩
    · exact J.ok.inj x y c (NdefX.clo_cm hfree e1) (NdefX.clo_cm hfree e2)
    · have hi := (List.getElem?_eq_some_iff.1 hy).1
      obtain ⟨d, hd⟩ : ∃ d, ds[i]? = some d := ⟨_, List.getElem?_eq_getElem (by omega)⟩
      obtain ⟨c, v, u, ⟨h1, h2, h3, h4⟩, h5, h6⟩ := g1 i y d hy hd
      exact ⟨c, v, u, NdefX.clo_has hfree (PySem.mem_of_lookup (S.frk y (List.mem_of_getElem? hy))) h1, h5, h3, L.at_ h6⟩
  have ra : RpA G vs ds := rpa_of (by omega) fun i d hd => by
    have hi := (List.getElem?_eq_some_iff.1 hd).1
    obtain ⟨c, v, u, ⟨_, h2, _⟩, h5, _⟩ := g1 i _ d (List.getElem?_eq_getElem (by omega)) hd
    exact ⟨v, h5, h2⟩
  have g' := L.gr g
  have dr := deed_run (P := P) (w := w) (K := K) (mg := mg) (base := base) De S g'.gh (fun c hc => by
    obtain ⟨p, hp, rfl⟩ := List.mem_map.1 hc
    exact g.gh.back (L.no p hp)) ra (fun pm cv ctv => hbind pm cv ctv _) (fun A outer s E hr => hbody f c' _ A outer s _ E hr)
  obtain ⟨b1, b2, b3⟩ := ok.sr i0 a kk hsr
  refine ⟨v, putC H' l, J.os, J.bare, L.un (Nat.le_refl _) J.base, L.hok J.hok, rv, hQ _ _ ⟨G, f, T, u2, g', ev, L.ex _ _ hT, ru, ⟨_, _, _, _, _, L.ex _ _ hf⟩, tb.ext L.ex, b2, b3.ex fun o e => L.ex _ _ e, dr⟩⟩
end
end R87
namespace R87
open PySem PySem.Spec PyProof.Rows L2
open PySem.W (Tup T4 T3 DatumOrd Datum)
section
variable {so : Srts} {kd : Knds} {cs : List Str} {ls : Lgs} {js : List Jn}
theorem freshL_nm : ∀ z ∈ freshL, Nm z := by
  have h : freshL.all nmB = true := by decide +kernel
  exact fun z hz => nm_by (List.all_eq_true.1 h z hz)
theorem freshL_nd : freshL.Nodup := by decide +kernel
theorem filt_len (xs ys : List Str) (nd : xs.Nodup) : xs.length ≤ (xs.filter fun s => decide (s ∉ ys)).length + ys.length := by
  have h := List.length_eq_countP_add_countP (fun s => decide (s ∉ ys)) (l := xs)
  rw [List.countP_eq_length_filter, List.countP_eq_length_filter] at h
  have h2 : (xs.filter fun a => decide ¬decide (a ∉ ys) = true).length ≤ ys.length := nodup_subset_len (nd.filter _) fun x hx => by
    have := (List.mem_filter.1 hx).2
    simpa using this
  omega
theorem fresh_ok (h : ls.length ≤ 6) : ∃ a b, freshF ls = [a, b] ∧ Nm a ∧ Nm b ∧ a ≠ b ∧ a ∉ ls.map (·.1) ∧ b ∉ ls.map (·.1) := by
  have h1 := filt_len freshL (ls.map (·.1)) freshL_nd
  rw [List.length_map] at h1
  have h8 : freshL.length = 8 := rfl
  have hm : ∀ x ∈ freshL.filter fun s => decide (s ∉ ls.map (·.1)), x ∈ freshL ∧ x ∉ ls.map (·.1) := fun x hx => by
    obtain ⟨a, b⟩ := List.mem_filter.1 hx
    exact ⟨a, of_decide_eq_true b⟩
  have nd : (freshL.filter fun s => decide (s ∉ ls.map (·.1))).Nodup := freshL_nd.filter _
  unfold freshF
  generalize hF : (freshL.filter fun s => decide (s ∉ ls.map (·.1))) = F at *
  match F, hm, nd, h1 with
  | [], _, _, h1 => simp at h1; omega
  | [x], _, _, h1 => simp at h1; omega
  | x :: y :: r, hm, nd, _ =>
    obtain ⟨a1, a2⟩ := hm x (.head _)
    obtain ⟨b1, b2⟩ := hm y (.tail _ (.head _))
    exact ⟨x, y, rfl, freshL_nm x a1, freshL_nm y b1, fun e => (List.nodup_cons.1 nd).1 (by rw [e]; exact .head _), a2, b2⟩
/-- the names of a rival's legs -/
def freeL : List Str := ["ra", "rb", "rc", "rd", "re", "rf", "sa", "sb", "sc", "sd", "se", "sf"]
theorem freeL_nm : ∀ z ∈ freeL, Nm z := by
  have h : freeL.all nmB = true := by decide +kernel
  exact fun z hz => nm_by (List.all_eq_true.1 h z hz)
theorem freeL_nd : freeL.Nodup := by decide +kernel
theorem freeL_lt : freeL.Pairwise fun a b => DatumOrd.lt a b = true := by decide +kernel
def freeF (ls : Lgs) : List Str := freeL.filter fun s => decide (s ∉ ls.map (·.1))
/-- legs anew named -/
def namL (F : List Str) (l : Lgs) : Lgs := (List.range l.length).map fun i => (F.getD i eS, (l.getD i s00).2)
theorem namL_len (F : List Str) (l : Lgs) : (namL F l).length = l.length := by unfold namL; rw [List.length_map, List.length_range]
theorem namL_at {F : List Str} {l : Lgs} {i : Nat} (h : i < l.length) : (namL F l).getD i s00 = (F.getD i eS, (l.getD i s00).2) := by
  unfold namL
  rw [List.getD_eq_getElem?_getD, List.getElem?_map, List.getElem?_range h]; rfl
theorem namL_ends (F : List Str) (l : Lgs) : endsF kd cs (namL F l) = endsF kd cs l := by
  rw [endsF_eq, endsF_eq, namL_len]
  congr 1
  exact List.map_congr_left fun i hi => by rw [namL_at (List.mem_range.1 hi)]
theorem lt_asymm' {a b : Str} (h : DatumOrd.lt a b = true) : DatumOrd.lt b a = false := by
  rcases dle_total a b with z | z
  · have z : (!DatumOrd.lt b a) = true := z
    simpa using z
  · have z : (!DatumOrd.lt a b) = true := z
    rw [h] at z; cases z
theorem VD.named2 (V : VD so kd cs ls js) {F : List Str} (hF : ∀ z ∈ F, Nm z) (hs : F.Pairwise fun a b => DatumOrd.lt a b = true) (hl : ls.length ≤ F.length) : VD so kd cs (namL F ls) js := by
  have e1 : (namL F ls).map (·.1) = F.take ls.length := by
    unfold namL
    rw [List.map_map]
    apply List.ext_getElem?
    intro i
    rw [List.getElem?_map, List.getElem?_take]
    by_cases h : i < ls.length
    · rw [List.getElem?_range h, if_pos h, getD_some (d := eS) (by omega)]; rfl
    · rw [List.getElem?_eq_none (by rw [List.length_range]; omega), if_neg h]; rfl
  have hs2 : ((namL F ls).map (·.1)).Pairwise fun a b => DatumOrd.lt a b = true := by rw [e1]; exact hs.sublist (List.take_sublist _ _)
  rw [List.pairwise_map] at hs2
  have hp : ∀ a b : Str × Str, DatumOrd.lt a b = if a.1 = b.1 then DatumOrd.lt a.2 b.2 else DatumOrd.lt a.1 b.1 := fun a b => rfl
  refine ⟨V.s, V.c, ⟨by rw [namL_len]; exact V.l.l6, fun l h => ?_, sortT_id (hs2.imp fun {a b} h => ?_), ?_⟩, ⟨V.j.j, V.j.srt, by rw [namL_ends]; exact V.j.ends⟩⟩
  · have hm : l.1 ∈ (namL F ls).map (·.1) := List.mem_map.2 ⟨l, h, rfl⟩
    rw [e1] at hm
    refine ⟨hF _ ((List.take_sublist _ _).subset hm), ?_⟩
    unfold namL at h
    obtain ⟨i, hi, rfl⟩ := List.mem_map.1 h
    exact (V.l.mem _ (List.mem_of_getElem? (getD_some (d := s00) (List.mem_range.1 hi)))).2
  · have ne : b.1 ≠ a.1 := fun e => by rw [e, lt_irrefl] at h; cases h
    show (!DatumOrd.lt b a) = true
    rw [hp, if_neg ne, lt_asymm' h]; rfl
  · rw [List.Nodup, List.pairwise_map]
    exact hs2.imp fun {a b} h e => by rw [e, lt_irrefl] at h; cases h
theorem freeF_ok (h : ls.length ≤ 6) : (∀ z ∈ freeF ls, Nm z ∧ z ∉ ls.map (·.1)) ∧ (freeF ls).Pairwise (fun a b => DatumOrd.lt a b = true) ∧ 6 ≤ (freeF ls).length ∧ (freeF ls).length ≤ 12 := by
  have h1 := filt_len freeL (ls.map (·.1)) freeL_nd
  rw [List.length_map] at h1
  have h8 : freeL.length = 12 := rfl
  refine ⟨fun z hz => ?_, freeL_lt.filter _, ?_, ?_⟩
  · obtain ⟨a, b⟩ := List.mem_filter.1 hz
    exact ⟨freeL_nm z a, of_decide_eq_true b⟩
  · show 6 ≤ (freeL.filter _).length
    omega
  · have := List.length_filter_le (fun s => decide (s ∉ ls.map (·.1))) freeL
    show (freeL.filter _).length ≤ 12
    omega
theorem bes_of (V : VD so kd cs ls js) {c2 : List Str} {l2 : Lgs} {j2 : List Jn} (V2 : VD so kd c2 l2 j2) : BesOk so kd cs c2 ls (namL (freeF ls) l2) js j2 := by
  obtain ⟨f1, f2, f3, f4⟩ := freeF_ok V.l.l6
  have V3 := V2.named2 (fun z hz => (f1 z hz).1) f2 (Nat.le_trans V2.l.l6 f3)
  refine ⟨V, V3, ?_, V.vp.ac2, V3.vp.ac2⟩
  rw [List.map_append]
  refine List.nodup_append.2 ⟨V.l.nd, V3.l.nd, fun x hx y hy e => ?_⟩
  subst e
  unfold namL at hy
  rw [List.map_map] at hy
  obtain ⟨i, hi, e⟩ := List.mem_map.1 hy
  have hi := List.mem_range.1 hi
  have hm : (freeF ls).getD i eS ∈ freeF ls := List.mem_of_getElem? (getD_some (d := eS) (Nat.lt_of_lt_of_le hi (Nat.le_trans V2.l.l6 f3)))
  have e : (freeF ls).getD i eS = x := e
  rw [e] at hm
  exact (f1 x hm).2 hx
end
section
variable {X : Cx} {τ : List Sl} {e : Expr} {es : List Expr} {d : D} {ds : List D} {p pos : Pos} {n : Str} {R : List D → D → Prop} {Rx : List D → Addr → Prop} {j k : Nat}
/-- a def that may raise, and doesn't -/
theorem pu_callR (C : Cal X.prog X.w X.K X.mg X.base (L2.CX X.prog X.w) j n (spR R Rx)) (hr : Room k X.A) (hR : R ds d) (ha : Pa X (e :: es) τ ds) (hj : j ≤ k := by decide) (hg : Gl X n := by rfl) (hdb : (n == ("__debug__" : Str)) = false := by decide) (hs : (e :: es).all noStar = true := by rfl) :
    Pu X (.Call (.Name n p) (e :: es) [] pos) τ d := fun H0 G H σ ok Q q => by
  have hs' : noStar e = true ∧ es.all noStar = true := by rwa [List.all_cons, Bool.and_eq_true] at hs
  obtain ⟨f, fd, ps, F, hm, hk, hb⟩ := C.ex
  refine We.of (pe_call F (hr.mono hj) hg hm hk hb .nil (passes_call (E := fun _ _ _ => False) LamX.takes0 fun _ _ _ _ z => z.elim) pa_wa hdb (star_cons hs'.1) (plain_args hs'.2)) (ha H0 G H σ ok _ fun vs G1 H1 g1 r1 => ?_)
  rw [List.append_nil]
  exact ⟨G1, ds, g1.gh, r1, .inl ⟨d, hR, fun v G2 H2 g2 r2 => q v G2 H2 (g1.trans g2) r2⟩⟩
/-- .. and does -/
theorem rz_callR {C0 : Addr} (C : Cal X.prog X.w X.K X.mg X.base (L2.CX X.prog X.w) j n (spR R Rx)) (hr : Room k X.A) (hR : Rx ds C0) (ha : Pa X (e :: es) τ ds) (hj : j ≤ k := by decide) (hg : Gl X n := by rfl) (hdb : (n == ("__debug__" : Str)) = false := by decide) (hs : (e :: es).all noStar = true := by rfl) :
    Rz X (.Call (.Name n p) (e :: es) [] pos) τ C0 := fun H0 G H σ ok W tk hW Q => by
  have hs' : noStar e = true ∧ es.all noStar = true := by rwa [List.all_cons, Bool.and_eq_true] at hs
  obtain ⟨f, fd, ps, F, hm, hk, hb⟩ := C.ex
  refine We.of (pe_call F (hr.mono hj) hg hm hk hb .nil (passes_call (E := fun cls dx H' => cls = .ref C0 ∧ dx = none ∧ ∃ G', Gr m0 G H G' H') (W := fun cls dx σ' H' => (cls = .ref C0 ∧ dx = none ∧ ∃ G', Gr m0 G H G' H')) ?_ fun _ _ _ _ z => z) pa_wa hdb (star_cons hs'.1) (plain_args hs'.2)) (ha H0 G H σ ok _ fun vs G1 H1 g1 r1 => ?_)
  · exact tk.imp fun cls dx σ' H' ⟨e1, e2, G', g⟩ => by
      subst e1 e2
      exact hW σ' G' H' g
  · rw [List.append_nil]
    exact ⟨G1, ds, g1.gh, r1, .inr ⟨C0, hR, fun G2 H2 g2 => ⟨rfl, rfl, G2, g1.trans g2⟩⟩⟩
end
end R87
namespace R87
open PySem PySem.Spec PyProof.Rows L2
open PySem.W (Tup T4 T3 DatumOrd Datum)
theorem Wr.mono {X : Cx} {sts : List Stmt} {R R' : V → L2.St → Hp → Prop} {σ : L2.St} {H : Hp} (h : Wr X sts R σ H) (k : ∀ v σ H, R v σ H → R' v σ H) : Wr X sts R' σ H :=
  ⟨fun pins s I => thn (h.run pins s I) fun fl s' ⟨u, v, σ', H', e, J, rv, q⟩ => ⟨u, v, σ', H', e, J, rv, k v σ' H' q⟩⟩
theorem en2_inj : ∀ {a b : Str × Str}, En.e a = En.e b → a = b := fun {a b} e => by
  obtain ⟨a1, a2⟩ := a
  obtain ⟨b1, b2⟩ := b
  have e : D.tup [.str a1, .str a2] = D.tup [.str b1, .str b2] := e
  injection e with e
  injection e with e3 e4
  injection e4 with e4 _
  injection e3 with e3
  injection e4 with e4
  rw [e3, e4]
theorem str_inj : ∀ {a b : Str}, En.e a = En.e b → a = b := fun {a b} e => by
  have e : D.str a = D.str b := e
  injection e
theorem kd_inj : ∀ {a b : Str × Tup Str}, En.e a = En.e b → a = b := fun {a b} e => by
  obtain ⟨a1, ⟨a2⟩⟩ := a
  obtain ⟨b1, ⟨b2⟩⟩ := b
  have e : D.tup [.str a1, .tup (a2.map En.e)] = D.tup [.str b1, .tup (b2.map En.e)] := e
  injection e with e
  injection e with e3 e4
  injection e4 with e4 _
  injection e3 with e3
  injection e4 with e4
  rw [e3, map_inj (fun a b e => str_inj e) e4]
theorem sos_inj {a b : Srts} (e : sosD a = sosD b) : a = b := by
  have e : D.lst (a.map En.e) = D.lst (b.map En.e) := e
  injection e with e
  exact map_inj (fun a b e => en2_inj e) e
theorem kds_inj {a b : Knds} (e : kdsD a = kdsD b) : a = b := by
  have e : D.lst (a.map En.e) = D.lst (b.map En.e) := e
  injection e with e
  exact map_inj (fun a b e => kd_inj e) e
theorem enum_range (ls : Lgs) : enumD (ls.map En.e) = (List.range ls.length).map fun (i : Nat) => D.tup [.int (i : Int), En.e (ls.getD i s00)] := by
  show (List.zipIdx _).map _ = _
  rw [List.zipIdx_map, zip_range ls s00, List.map_map, List.map_map]
  rfl
section
variable {P : Program} {w : World} {K : PySem.W.Frag} {mg : Str → Option Value} {base : Heap}
def qL (q : Str) : Str := q ++ ".<locals>." ++ "<lambda>"
abbrev qDone : Str := qL "_law_done"
theorem qL_eq {N : List Str} {qual : Str} {sco : Scope} {f : Addr} {cd : Value} {A : Around} {outer : List Env} {s : Shared} {H : Hp} {E : XK} : (cxOf CX0 P w K mg base N qual sco f cd A outer s H E).env.qual ++ "<lambda>" = qL qual := rfl
def ifTest : Stmt → Expr
  | .If c _ _ _ => c
  | _ => .Constant .none 0 ⟨0, 0, 0, 0⟩
/-- the suite of a try's clause -/
def handB : Stmt → List Stmt
  | .Try _ [.ExceptHandler _ _ b _] _ _ _ => b
  | _ => []
/-- the block of an if -/
def ifBody : Stmt → List Stmt
  | .If _ b _ _ => b
  | _ => []
/-- what a deed tells: a drawing, as it is laid out; or what is due is none, and it is refused -/
def r_done (CD CS CT CN : Addr) (so : Srts) (kd : Knds) (d : D) (res : D ⊕ Addr) : Prop :=
  (∃ cs ls js, VD so kd cs ls js ∧ d = dnD cs ls js ∧ res = .inl (drD CD CS so kd cs ls js)) ∨ (d = .non ∧ ∃ C, (C = CT ∨ C = CN) ∧ res = .inr C)
def spDone (P : Program) (w : World) (K : PySem.W.Frag) (mg : Str → Option Value) (base : Heap) (CD CS CT CN Pt : Addr) : Sp := fun vs H Q _ => ∃ a us k G so kd cs ls js, vs = .ref a :: us ∧ Ex G H ∧ G a = none ∧ Sk a k H ∧ k + 700 ≤ lineB ∧ RpA G us [sosD so, kdsD kd, drD CD CS so kd cs ls js, dnD cs ls js] ∧ VD so kd cs ls js ∧ G Pt = none ∧ LamX.TabS H Pt qDone ∧
  ∀ v H' d res kk, kk ≤ k + 700 → r_done CD CS CT CN so kd d res → Told P w K mg base 9 Pt a qDone kk G H d res v H' → Q v H'
/-- the end of a deed's making -/
def DoneR (P : Program) (w : World) (K : PySem.W.Frag) (mg : Str → Option Value) (base : Heap) (X : Cx) (Pt a : Addr) (G0 H0 : Hp) (K0 : Nat) (Rd : D → D ⊕ Addr → Prop) (v : V) (σ : L2.St) (H : Hp) : Prop :=
  ∃ τ ps body sc d res fr ds kk, Out X Pt a G0 H0 τ ps body sc d v σ H ∧ NdefX.NScope fr [] fr sc ∧ ds.length = fr.length ∧ (∀ (i : Nat) (y : Str) (d : D), fr[i]? = some y → ds[i]? = some d → ∃ j : Nat, X.N[j]? = some y ∧ τ[j]? = some (Sl.sh d) ∧ X.env.scope.names.lookup y = some .cell) ∧
    τ[0]? = some (Sl.sr a kk) ∧ kk ≤ K0 ∧ (∀ (pm cv ctv : Value) (cl : List (Str × Addr)), bindArgs (PySem.W.kla_fn "<lambda>" qDone ps body sc cl pm cv ctv) ⟨[], []⟩ = pure []) ∧
    (∀ (f c' : Addr) (cl : List (Str × Addr)) (A : Around) (outer : List Env) (s : Shared) (Hm : Hp) (E : XK), Room 8 (A.deeper (NdefX.envF (nfL qDone ps sc cl c') f s.heap.objs.size)) → BodyR (NdefX.ncx (L2.CX P w) P w K mg base fr (nfL qDone ps sc cl c') f A outer s Hm E) body (ent fr ds) res) ∧ Rd d res
theorem ar_done {X : Cx} {τ : List Sl} {Pt a c : Addr} {G0 H0 : Hp} {K0 kk kk0 : Nat} {Rd : D → D ⊕ Addr → Prop} {ps : Arguments} {body e : Expr} {sc : Scope} {p1 p2 pos : Pos} {k0 : Nat} {d : D} (res : D ⊕ Addr) (fr : List Str) (ds : List D) (TB : LamX.TabB X.base X.mg c Pt) (hq : X.env.qual ++ "<lambda>" = qDone) (hcode : X.env.code = .ref c)
    (hT : LamX.TabS H0 Pt qDone) (gP : G0 Pt = none) (sk : Sk a kk0 H0) (h : Pu X e τ d) (hsc : NdefX.ndefB X.env.scope sc fr = true) (S : NdefX.nscB fr [] fr sc = true) (hl : ds.length = fr.length)
    (hfr : ∀ (i : Nat) (y : Str) (d : D), fr[i]? = some y → ds[i]? = some d → ∃ j : Nat, X.N[j]? = some y ∧ τ[j]? = some (Sl.sh d) ∧ X.env.scope.names.lookup y = some .cell) (hsr : τ[0]? = some (Sl.sr a kk)) (hk : kk ≤ K0)
    (hbind : ∀ (pm cv ctv : Value) (cl : List (Str × Addr)), bindArgs (PySem.W.kla_fn "<lambda>" qDone ps body sc cl pm cv ctv) ⟨[], []⟩ = pure [])
    (hbody : ∀ (f c' : Addr) (cl : List (Str × Addr)) (A : Around) (outer : List Env) (s : Shared) (Hm : Hp) (E : XK), Room 8 (A.deeper (NdefX.envF (nfL qDone ps sc cl c') f s.heap.objs.size)) → BodyR (NdefX.ncx (L2.CX P w) P w K mg base fr (nfL qDone ps sc cl c') f A outer s Hm E) body (ent fr ds) res) (hd : Rd d res)
    (hst : noStar e = true := by rfl) (hdef : defaultsOf ps X.env = ([], []) := by rfl) : AR X (fun b => b = a) G0 H0 [.Return (some (.Tuple [.Lambda ps body sc p1, e] k0 p2)) pos] τ (DoneR P w K mg base X Pt a G0 H0 K0 Rd) := fun G H σ g k =>
  (ar_lam TB hcode (NdefX.ndef_free hsc) (by rw [hq]; exact hT) gP sk h hst hdef G H σ g k).mono fun v σ H o => ⟨τ, ps, body, sc, d, res, fr, ds, kk, o, NdefX.nscope_by S, hl, hfr, hsr, hk, hbind, hbody, hd⟩
end
end R87
namespace R87
open PySem PySem.Spec PyProof.Rows L2
open PySem.W (Tup T4 T3 DatumOrd Datum)
section
variable {P : Program} {w : World} {K : PySem.W.Frag} {mg : Str → Option Value} {base : Heap}
abbrev dN : List Str := ["_law_source", "_law_sorts", "_law_kinds", "_law_drawing_here", "_law_drawn", "_law_way", "_law_inner_here", "_law_names_here", "_law_due", "_law_free", "_law_moved_here", "_law_fresh_here", "_law_join", "_law_one_here", "_law_order", "_law_rival", "_law_two", "_law_name", "_law_sort", "_law_k", "_law_leg"]
theorem ok_law_done (B : Bf mg) {CD CS CT CN Pt : Addr} (SD : DrF K CD) (c1 : Cal P w K mg base CX0 1 "_law_next" sp_next) (c2 : Cal P w K mg base CX0 2 "_law_one" (spZ 1 p_one r_one)) (c4 : Cal P w K mg base CX0 2 "_law_mixed" (spZ 100 (p_mix Str) r_mix)) (c4n : Cal P w K mg base CX0 2 "_law_mixed" (spZ 100 (p_mix Nat) r_mix))
    (c5 : Cal P w K mg base CX0 4 "_law_drawing" (spZ 500 p_drawing r_drawing)) (i1 : CalP P w K mg base 1 "_law_inner" r_linner) (i2 : CalP P w K mg base 1 "_law_fresh" r_lfresh) (i3 : CalP P w K mg base 2 "_law_cut_of" r_lcut) (i4 : CalP P w K mg base 3 "_law_sewn_or_not" r_lson) (i5 : CalP P w K mg base 1 "_law_both" r_lboth)
    (i6 : CalP P w K mg base 1 "_law_moved" r_lmoved) (i7 : CalP P w K mg base 7 "_law_made" (r_lmade CD CS)) (i8 : CalP P w K mg base 7 "renamed" (r_renamed CD CS)) (x1 : Cal P w K mg base (L2.CX P w) 8 "cut" (spR (r_cut CD CS) (x_cut CT CD CS))) (x2 : Cal P w K mg base (L2.CX P w) 8 "join_legs" (spR (r_sew CD CS) (x_sew CN CD CS)))
    (x3 : Cal P w K mg base (L2.CX P w) 7 "beside" (spR (r_beside CD CS) (x_beside CT CD CS))) {f : Addr} {fd : FuncData} (F : FunL K mg base "_law_done" "_law_done" s_law_done f fd Pt) :
    FnOk P w K mg base CX0 5 f fd ["_law_source", "_law_sorts", "_law_kinds", "_law_drawing_here", "_law_drawn"] (spDone P w K mg base CD CS CT CN Pt) := by
  have hN : (dN).Nodup := by decide
  refine fn_raw F (N := dN) (C8.fnScope_by (by decide +kernel)) (fun vs H Q E ⟨a, us, k, G, so, kd, cs, ls, js, e, _, _, _, _, r, _⟩ => by rw [e, List.length_cons, r.length]; rfl) fun c A outer s H vs Q E TB hr h => ?_
  obtain ⟨a, us, k0, G, so, kd, cs, ls, js, rfl, ex, ga, sk, hl, r, V, gP, hT, hQ⟩ := h
  have hl' : k0 + 700 ≤ 1000000 := hl
  refine ⟨DoneR P w K mg base (cxOf CX0 P w K mg base dN "_law_done" (defScope s_law_done) f (.ref c) A outer s H E) Pt a G H (k0 + 700) (r_done CD CS CT CN so kd), ?_, fun v u σ' H' s' ⟨τ, ps, body, sc, d, res, fr, ds, kk, o, S, hfl, hfr, hsr, hk, hbind, hbody, hd⟩ J rv => done_end J rv o S hfl hfr hsr hbind hbody fun v H' ht => hQ v H' d res kk hk hd ht⟩
  suffices key : AR (cxOf CX0 P w K mg base dN "_law_done" (defScope s_law_done) f (.ref c) A outer s H E) (fun b => b = a) G H (defBody s_law_done) (entZ dN a k0 [sosD so, kdsD kd, drD CD CS so kd cs ls js, dnD cs ls js]) (DoneR P w K mg base (cxOf CX0 P w K mg base dN "_law_done" (defScope s_law_done) f (.ref c) A outer s H E) Pt a G H (k0 + 700) (r_done CD CS CT CN so kd)) from key G H _ (.refl ex) (ok_entZ ex ga sk r)
  have vp := V.vp
  have c6 := V.c.l6
  have l6 := V.l.l6
  have j18 := vp.l
  have ll : (ls.map (·.1)).length = ls.length := List.length_map ..
  refine ar_step (abe_set 5 (ef_draw 0 c1 hr ⟨_, _, rfl⟩ (ea_pa (pas_cons pu_int pas_nil) ⟨⟨6, rfl, by decide, by decide⟩, a, k0, rfl, rfl, (by show _ ≤ 1000000; omega), fun d hR => ab_nil ?_⟩)))
  obtain ⟨_, way, e1, hway, rfl⟩ := hR
  refine ar_step (ab_set 6 (pu_call i1 hr ⟨cs, ls, js, rfl, j18, rfl⟩ (pas_cons (pu_var 4 rfl) pas_nil)) (ab_nil ?_) hN)
  refine ar_step (ab_set 7 (d := .lst ((ls.map (·.1)).map En.e)) ((nu_map2 [("_law_name", 17), ("_law_sort", 18)] 17 18 ls (fun l => .str l.1) (fun l => .str l.2) (fun l => .str l.1) (pi_lst (pu_ixT (k := 1) (d := lgD ls) (pu_var 4 rfl) pu_int rfl)) (fun l hl s H C cl fp => pu_var 17 rfl) (hl := by omega) (hN := hN)).pu.is (by rw [List.map_map]; rfl)) (ab_nil ?_) hN)
  have il : (innF cs.length js).length ≤ 18 := Nat.le_trans (List.length_filter_le ..) j18
  refine ar_if (b := decide ((way : Int) < 2) && decide (innF cs.length js ≠ [])) (pw_and' (pt_lt (pu_var 5 rfl) pu_int) fun _ => pw_and1' (pt_neT (innF cs.length js) [] hr (pu_var 6 rfl) (nu_lst pas_nil).pu)).pt (fun z => ?_) (fun z => ?_)
  · -- cut
    have hne : innF cs.length js ≠ [] := by
      rw [Bool.and_eq_true] at z
      exact of_decide_eq_true z.2
    have hpos := List.length_pos_iff.2 hne
    have iml : ((innF cs.length js).map (En.e (α := Jn))).length = (innF cs.length js).length := List.length_map ..
    refine ar_step (abe_set 12 (ef_draw 0 c2 hr ⟨_, _, rfl⟩ (ea_pa (pas_cons (pu_var 6 rfl) pas_nil) ⟨⟨_, rfl, by rw [iml]; exact hpos, by rw [iml]; omega⟩, a, k0 + 1, rfl, rfl, (by show _ ≤ 1000000; omega), fun d hR => ab_nil ?_⟩)))
    obtain ⟨es, ix, e2, hix⟩ := hR
    rw [← toL e2, List.getElem?_map] at hix
    obtain ⟨j, hj, rfl⟩ := Option.map_eq_some_iff.1 hix
    have hj := List.mem_of_getElem? hj
    obtain ⟨x, y, ef, nx, ny, xy, hx, hy⟩ := fresh_ok l6
    have C : CutOk so kd cs ls js j x y := ⟨V, vp.ac2, hj, nx, ny, xy, hx, hy⟩
    obtain ⟨hj1, hj2⟩ := inn_mem hj
    have hjs := (V.j.j j hj1).p
    refine ar_step (ab_set 11 (d := En.e (x, y)) ((pu_call i2 hr ⟨cs, ls, js, rfl, l6, rfl⟩ (pas_cons (pu_var 4 rfl) pas_nil)).is (by rw [ef]; rfl)) (ab_nil ?_) hN)
    refine ar_step (ab_set 8 pu_non (ab_nil ?_) hN)
    have fin : ∀ (d : D) (res : D ⊕ Addr), r_done CD CS CT CN so kd d res → (∀ (X : Cx) (τ : List Sl) (e1 e2 e3 : Expr) (p pos : Pos), Cal X.prog X.w X.K X.mg X.base (L2.CX X.prog X.w) 8 "cut" (spR (r_cut CD CS) (x_cut CT CD CS)) → Room 8 X.A → Pa X [e1, e2, e3] τ [drD CD CS so kd cs ls js, En.e j, En.e (x, y)] → Gl X "cut" → [e1, e2, e3].all noStar = true → BodyR X (.Call (.Name "cut" p) [e1, e2, e3] [] pos) τ res) →
        AR (cxOf CX0 P w K mg base dN "_law_done" (defScope s_law_done) f (.ref c) A outer s H E) (fun b => b = a) G H ((ifBody ((defBody s_law_done).getD 3 (.Pass ⟨0, 0, 0, 0⟩))).drop 4)
          [.sr a (k0 + 1 + 1), .sh (sosD so), .sh (kdsD kd), .sh (drD CD CS so kd cs ls js), .sh (dnD cs ls js), .no, .no, .no, .sh d, .no, .no, .sh (En.e (x, y)), .sh (En.e j), .no, .no, .no, .no, .no, .no, .no, .no] (DoneR P w K mg base (cxOf CX0 P w K mg base dN "_law_done" (defScope s_law_done) f (.ref c) A outer s H E) Pt a G H (k0 + 700) (r_done CD CS CT CN so kd)) := fun d res hd hb => by
      refine ar_done res ["_law_drawing_here", "_law_fresh_here", "_law_join"] [drD CD CS so kd cs ls js, En.e (x, y), En.e j] TB qL_eq rfl hT gP sk (pu_var 8 rfl) (by kernel_rfl) (by decide +kernel) rfl (fun i y' d' h1 h2 => ?_) rfl (by omega) (fun _ _ _ _ => rfl) (fun f' c' cl A' outer' s' Hm E' hr' => ?_) hd
      · match i, h1, h2 with
        | 0, h1, h2 => cases h1; cases h2; exact ⟨3, rfl, rfl, by kernel_rfl⟩
        | 1, h1, h2 => cases h1; cases h2; exact ⟨11, rfl, rfl, by kernel_rfl⟩
        | 2, h1, h2 => cases h1; cases h2; exact ⟨12, rfl, rfl, by kernel_rfl⟩
      · exact hb _ _ _ _ _ _ _ x1 hr' (pas_cons (pu_var 0 rfl) (pas_cons (pu_var 2 rfl) (pas_cons (pu_var 1 rfl) pas_nil))) (by rfl) rfl
    by_cases h5 : ls.length < 5
    · refine ar_step (ab_if (pt_lt (pu_lenL B.len (pu_var 7 rfl)) pu_int) (fun _ => ab_set 8 (pu_call i3 hr ⟨so, cs, ls, js, j, x, y, rfl, c6, l6, j18, vp.ac2, hj1, V.s.s.nd, hjs, V.s.s.sy _ hjs, rfl⟩ (pas_cons (pu_var 1 rfl) (pas_cons (pu_var 4 rfl) (pas_cons (pu_var 12 rfl) (pas_cons (pu_var 11 rfl) pas_nil))))) (ab_nil (ab_nil ?_)) hN) (fun z => ?_))
      · refine (fin (dnD cs (cutL ls j x y) (lcutJ cs.length ls js j x y)) (.inl (drD CD CS so kd cs (cutL ls j x y) (withF cs.length (cutL ls j x y) (cutNJ cs.length ls js j x y)))) (.inl ⟨_, _, _, VD.cut C (by omega), by rw [lcut_eq C], rfl⟩) fun X τ e1 e2 e3 p pos hc hr ha hg hs => ?_).le ?_
        · exact pu_callR hc hr ⟨so, kd, cs, ls, js, j, x, y, rfl, C, by omega, fun p hp => plOk_of (cut_flat C) hp, VD.cut C (by omega), rfl⟩ ha (by decide) hg (by decide) hs
        · exact .eq (.eq (.eq (.eq (.eq (.no (.no (.no (.eq (.no (.no (.eq (.eq (.no (.no (.no (.no (.no (.no (.no (.no .nil))))))))))))))))))))
      · exfalso
        have z := of_decide_eq_false z
        rw [List.length_map, List.length_map] at z
        omega
    · refine ar_step (ab_if (pt_lt (pu_lenL B.len (pu_var 7 rfl)) pu_int) (fun z => ?_) (fun _ => ab_nil (ab_nil ?_)))
      · exfalso
        have z := of_decide_eq_true z
        rw [List.length_map, List.length_map] at z
        omega
      · refine (fin .non (.inr CT) (.inr ⟨rfl, CT, .inl rfl, rfl⟩) fun X τ e1 e2 e3 p pos hc hr ha hg hs => ?_).le ?_
        · exact rz_callR hc hr ⟨so, kd, cs, ls, js, j, x, y, rfl, C, by omega, rfl⟩ ha (by decide) hg (by decide) hs
        · exact .eq (.eq (.eq (.eq (.eq (.no (.no (.no (.eq (.no (.no (.eq (.eq (.no (.no (.no (.no (.no (.no (.no (.no .nil))))))))))))))))))))
  clear z
  refine ar_if (b := decide ((way : Int) < 4) && decide ((1 : Int) < (ls.length : Int))) (pw_and' (pt_lt (pu_var 5 rfl) pu_int) fun _ => pw_and1' ((pt_gt (pu_lenL B.len (pu_var 7 rfl)) pu_int).is (by rw [List.length_map, List.length_map]))).pt (fun z => ?_) (fun z => ?_)
  · -- two legs joined
    have h2 : 1 < ls.length := by
      rw [Bool.and_eq_true] at z
      have := of_decide_eq_true z.2
      omega
    refine ar_step (abe_unpack (ef_slL (ol := none) (oh := some 2) (ef_draw 0 c4 hr ⟨_, _, rfl⟩ (ea_pa (pas_cons (pu_var 7 rfl) pas_nil) ⟨⟨ls.map (·.1), rfl, by omega⟩, a, k0 + 1, rfl, rfl, (by show _ ≤ 1000000; omega), fun d hR => ?_⟩)) (fun _ => po_n) (fun _ => po_s pu_int)))
    obtain ⟨fs, gs, e2, hpm, rfl⟩ := hR
    obtain ⟨ns, rfl, hpn⟩ := perm_map_ex En.e hpm (toL e2).symm
    have nd : ns.Nodup := hpn.nodup_iff.2 V.l.nd
    have nl : ns.length = ls.length := by rw [hpn.length_eq, ll]
    match ns, nl, nd, hpn with
    | [], nl, _, _ => exfalso; simp at nl; omega
    | [_], nl, _, _ => exfalso; simp at nl; omega
    | x :: y :: rs, nl, nd, hpn =>
    have xm : x ∈ ls.map (·.1) := hpn.mem_iff.1 (.head _)
    have ym : y ∈ ls.map (·.1) := hpn.mem_iff.1 (.tail _ (.head _))
    have xy : x ≠ y := fun e => (List.nodup_cons.1 nd).1 (by rw [e]; exact .head _)
    have nmx : Nm x := by
      obtain ⟨l, hl, e⟩ := List.mem_map.1 xm
      rw [← e]; exact (V.l.mem l hl).1
    have nmy : Nm y := by
      obtain ⟨l, hl, e⟩ := List.mem_map.1 ym
      rw [← e]; exact (V.l.mem l hl).1
    obtain ⟨_, _, _, _, e1', _, f1, g1, _, q, hq⟩ := leg_end V xm
    obtain ⟨_, _, _, _, e2', _, f2, g2, _, _⟩ := leg_end V ym
    have e3 : cutD ((x :: y :: rs).map En.e) none (some 2) = [.str x, .str y] := by
      rw [show (2 : Int) = ((2 : Nat) : Int) from rfl, cut_take]; rfl
    refine ⟨_, rfl, ?_⟩
    rw [e3]
    refine ⟨_, _, tg_lst (ds := [.str x, .str y]) (tgs_cons (tg_name 13 hN) (tgs_cons (tg_name 16 hN) tgs_nil)), ab_nil ?_⟩
    have C : SewOk so kd cs ls js x y e1' e2' q := ⟨V, vp.ac2, nmx, nmy, xy, xm, ym, f1, f2, hq⟩
    have fin : ∀ (d : D) (res : D ⊕ Addr), r_done CD CS CT CN so kd d res → r_lson [sosD so, dnD cs ls js, .str x, .str y] d → (∀ (X : Cx) (τ : List Sl) (e1 e2 e3 : Expr) (p pos : Pos), Cal X.prog X.w X.K X.mg X.base (L2.CX X.prog X.w) 8 "join_legs" (spR (r_sew CD CS) (x_sew CN CD CS)) → Room 8 X.A → Pa X [e1, e2, e3] τ [drD CD CS so kd cs ls js, .str x, .str y] → Gl X "join_legs" → [e1, e2, e3].all noStar = true → BodyR X (.Call (.Name "join_legs" p) [e1, e2, e3] [] pos) τ res) →
        AR (cxOf CX0 P w K mg base dN "_law_done" (defScope s_law_done) f (.ref c) A outer s H E) (fun b => b = a) G H ((ifBody ((defBody s_law_done).getD 4 (.Pass ⟨0, 0, 0, 0⟩))).drop 1)
          [.sr a (k0 + 1 + 100), .sh (sosD so), .sh (kdsD kd), .sh (drD CD CS so kd cs ls js), .sh (dnD cs ls js), .no, .no, .no, .no, .no, .no, .no, .no, .sh (.str x), .no, .no, .sh (.str y), .no, .no, .no, .no] (DoneR P w K mg base (cxOf CX0 P w K mg base dN "_law_done" (defScope s_law_done) f (.ref c) A outer s H E) Pt a G H (k0 + 700) (r_done CD CS CT CN so kd)) := fun d res hd hs hb => by
      refine ar_done res ["_law_drawing_here", "_law_one_here", "_law_two"] [drD CD CS so kd cs ls js, .str x, .str y] TB qL_eq rfl hT gP sk (pu_call i4 hr hs (pas_cons (pu_var 1 rfl) (pas_cons (pu_var 4 rfl) (pas_cons (pu_var 13 rfl) (pas_cons (pu_var 16 rfl) pas_nil))))) (by kernel_rfl) (by decide +kernel) rfl (fun i y' d' h1 h2 => ?_) rfl (by omega) (fun _ _ _ _ => rfl) (fun f' c' cl A' outer' s' Hm E' hr' => ?_) hd
      · match i, h1, h2 with
        | 0, h1, h2 => cases h1; cases h2; exact ⟨3, rfl, rfl, by kernel_rfl⟩
        | 1, h1, h2 => cases h1; cases h2; exact ⟨13, rfl, rfl, by kernel_rfl⟩
        | 2, h1, h2 => cases h1; cases h2; exact ⟨16, rfl, rfl, by kernel_rfl⟩
      · exact hb _ _ _ _ _ _ _ x2 hr' (pas_cons (pu_var 0 rfl) (pas_cons (pu_var 1 rfl) (pas_cons (pu_var 2 rfl) pas_nil))) (by rfl) rfl
    have le : Le [.sr a (k0 + 1 + 100), .sh (sosD so), .sh (kdsD kd), .sh (drD CD CS so kd cs ls js), .sh (dnD cs ls js), .no, .no, .no, .no, .no, .no, .no, .no, .sh (.str x), .no, .no, .sh (.str y), .no, .no, .no, .no]
        [.sr a (k0 + 1 + 100), .sh (sosD so), .sh (kdsD kd), .sh (drD CD CS so kd cs ls js), .sh (dnD cs ls js), .sh (.int (way : Int)), .sh (jsD (innF cs.length js)), .sh (.lst ((ls.map (·.1)).map En.e)), .no, .no, .no, .no, .no, .sh (.str x), .no, .no, .sh (.str y), .no, .no, .no, .no] :=
      .eq (.eq (.eq (.eq (.eq (.no (.no (.no (.eq (.eq (.eq (.eq (.eq (.eq (.eq (.eq (.eq (.eq (.eq (.eq (.eq .nil))))))))))))))))))))
    by_cases hc : e1'.1 ≠ .nm y ∧ (e1'.2, e2'.2) ∈ so
    · have hq2 : q = e2'.2 := (sew_test V.s.s hq).1 hc.2
      have sf := sew_flat V xy xm ym f1 f2 hc.1
      have V' := VD.sew V xy xm ym f1 f2 hc.1 hc.2
      refine (fin (dnD cs (sewL ls x y) (lsewJ cs.length (sewL ls x y) (sewNJ cs.length ls js x y e1' e2'))) (.inl (drD CD CS so kd cs (sewL ls x y) (withF cs.length (sewL ls x y) (sewNJ cs.length ls js x y e1' e2')))) (.inl ⟨_, _, _, V', by rw [spots_res sf], rfl⟩)
        ⟨so, cs, ls, js, x, y, e1', e2', rfl, c6, l6, j18, vp.ac2, g1, g2, .inl ⟨hc.1, hc.2, fun p hp => spots_in sf hp, rfl⟩⟩ fun X τ e1 e2 e3 p pos hcl hr ha hg hs => ?_).le le
      exact pu_callR hcl hr ⟨so, kd, cs, ls, js, x, y, e1', e2', q, rfl, C, hc.1, hq2, fun p hp => plOk_of sf hp, V', rfl⟩ ha (by decide) hg (by decide) hs
    · have hc2 : ¬ (e1'.1 ≠ .nm y ∧ q = e2'.2) := fun h => hc ⟨h.1, (sew_test V.s.s hq).2 h.2⟩
      refine (fin .non (.inr CN) (.inr ⟨rfl, CN, .inr rfl, rfl⟩) ⟨so, cs, ls, js, x, y, e1', e2', rfl, c6, l6, j18, vp.ac2, g1, g2, .inr ⟨hc, rfl⟩⟩ fun X τ e1 e2 e3 p pos hcl hr ha hg hs => ?_).le le
      exact rz_callR hcl hr ⟨so, kd, cs, ls, js, x, y, e1', e2', q, rfl, C, hc2, rfl⟩ ha (by decide) hg (by decide) hs
  clear z
  refine ar_if (b := decide ((way : Int) = 4)) (pt_eqI hr (pu_var 5 rfl) pu_int) (fun z => ?_) (fun z => ?_)
  · -- another drawing beside
    refine ar_step (abe_set 15 (ef_draw 0 c5 hr ⟨_, _, rfl⟩ (ea_pa (pas_cons (pu_var 1 rfl) (pas_cons (pu_var 2 rfl) (pas_cons pu_int pas_nil))) ⟨⟨so, kd, 2, rfl, V.s, by omega⟩, a, k0 + 1, rfl, rfl, (by show _ ≤ 1000000; omega), fun d hR => ab_nil ?_⟩)))
    obtain ⟨so', kd', most, c2', l2', j2, e2, V2, hm2, rfl⟩ := hR
    injection e2 with e2 e3
    injection e3 with e3 _
    obtain rfl := sos_inj e2
    obtain rfl := kds_inj e3
    have v2 := V2.vp
    have k6 := V2.c.l6
    have m6 := V2.l.l6
    have i18 := v2.l
    have BO := bes_of V V2
    have V3 := BO.v2
    obtain ⟨f1, f2, f3, f4⟩ := freeF_ok (ls := ls) l6
    refine ar_step (ab_set 9 (d := .lst (freeL.map En.e)) ((nu_lst (pas_cons pu_str (pas_cons pu_str (pas_cons pu_str (pas_cons pu_str (pas_cons pu_str (pas_cons pu_str (pas_cons pu_str (pas_cons pu_str (pas_cons pu_str (pas_cons pu_str (pas_cons pu_str (pas_cons pu_str pas_nil)))))))))))) (show 12 ≤ 1000 by decide)).pu.is rfl) (ab_nil ?_) hN)
    refine ar_step (ab_set 9 (d := .lst ((freeF ls).map En.e)) (nu_filN [("_law_name", 17)] 17 freeL En.e (fun s => decide (s ∉ ls.map (·.1))) En.e (pi_lst (pu_var 9 rfl)) (fun s hs s' H C cl fp => pt_niT s (ls.map (·.1)) hr (pu_var 17 rfl) (pu_var 7 rfl)) (fun s hs hf s' H C cl fp => pu_var 17 rfl) (hl := (show 12 ≤ 1000 by decide)) (hN := hN)).pu (ab_nil ?_) hN)
    let l2 := namL (freeF ls) l2'
    have l2l : l2.length = l2'.length := namL_len _ _
    refine ar_step (ab_set 15 (d := dnD c2' l2 j2) (pu_tup (pas_cons (pu_ixT (k := 0) (pu_var 15 rfl) pu_int rfl) (pas_cons ((nu_map2 [("_law_k", 19), ("_law_leg", 20)] 19 20 (List.range l2'.length) (fun (i : Nat) => .int (i : Int)) (fun i => En.e (l2'.getD i s00)) (fun i => En.e (((freeF ls).getD i eS, (l2'.getD i s00).2) : Str × Str)) ((pi_enumL B.enumerate (pu_ixT (k := 1) (d := lgD l2') (pu_var 15 rfl) pu_int rfl)).is (enum_range l2')) (fun i hi s H C cl fp => ?_) (hl := by rw [List.length_range]; omega) (hN := hN)).pu.is (d' := lgD l2) ?_) (pas_cons (pu_ixT (k := 2) (pu_var 15 rfl) pu_int rfl) pas_nil)))) (ab_nil ?_) hN)
    · have hi := List.mem_range.1 hi
      exact pu_tup (pas_cons (pu_ixL (k := i) (pu_var 9 rfl) (pu_var 19 rfl) (by rw [List.getElem?_map, getD_some (d := eS) (by omega)]; rfl)) (pas_cons (pu_ixT (k := 1) (ds := [.str (l2'.getD i s00).1, .str (l2'.getD i s00).2]) (pu_var 20 rfl) pu_int rfl) pas_nil))
    · show D.lst _ = D.lst ((namL (freeF ls) l2').map _)
      unfold namL
      rw [List.map_map]; rfl
    refine ar_step (ab_set 8 pu_non (ab_nil ?_) hN)
    have cl : (cs ++ c2').length = cs.length + c2'.length := List.length_append ..
    have lln : (ls ++ l2).length = ls.length + l2.length := List.length_append ..
    have fin : ∀ (d : D) (res : D ⊕ Addr), r_done CD CS CT CN so kd d res → (∀ (X : Cx) (τ : List Sl) (e1 e2 : Expr) (p pos : Pos), Cal X.prog X.w X.K X.mg X.base (L2.CX X.prog X.w) 7 "beside" (spR (r_beside CD CS) (x_beside CT CD CS)) → Room 8 X.A → Pa X [e1, e2] τ [drD CD CS so kd cs ls js, drD CD CS so kd c2' l2 j2] → Gl X "beside" → [e1, e2].all noStar = true → BodyR X (.Call (.Name "beside" p) [e1, e2] [] pos) τ res) →
        AR (cxOf CX0 P w K mg base dN "_law_done" (defScope s_law_done) f (.ref c) A outer s H E) (fun b => b = a) G H ((ifBody ((defBody s_law_done).getD 5 (.Pass ⟨0, 0, 0, 0⟩))).drop 6)
          [.sr a (k0 + 1 + 500), .sh (sosD so), .sh (kdsD kd), .sh (drD CD CS so kd cs ls js), .sh (dnD cs ls js), .no, .no, .no, .sh d, .no, .no, .no, .no, .no, .no, .sh (dnD c2' l2 j2), .no, .no, .no, .no, .no] (DoneR P w K mg base (cxOf CX0 P w K mg base dN "_law_done" (defScope s_law_done) f (.ref c) A outer s H E) Pt a G H (k0 + 700) (r_done CD CS CT CN so kd)) := fun d res hd hb => by
      refine ar_done res ["_law_drawing_here", "_law_rival"] [drD CD CS so kd cs ls js, dnD c2' l2 j2] TB qL_eq rfl hT gP sk (pu_var 8 rfl) (by kernel_rfl) (by decide +kernel) rfl (fun i y' d' h1 h2 => ?_) rfl (by omega) (fun _ _ _ _ => rfl) (fun f' c' cl A' outer' s' Hm E' hr' => ?_) hd
      · match i, h1, h2 with
        | 0, h1, h2 => cases h1; cases h2; exact ⟨3, rfl, rfl, by kernel_rfl⟩
        | 1, h1, h2 => cases h1; cases h2; exact ⟨15, rfl, rfl, by kernel_rfl⟩
      · exact hb _ _ _ _ _ _ x3 hr' (pas_cons (pu_var 0 rfl) (pas_cons (pu_call i7 hr' ⟨so, kd, c2', l2, j2, rfl, V3, rfl⟩ (pas_cons (pu_fld SD.cl SD.stock (pu_var 0 rfl) rfl) (pas_cons (pu_var 1 rfl) pas_nil))) pas_nil)) (by rfl) rfl
    have le : ∀ d, Le [.sr a (k0 + 1 + 500), .sh (sosD so), .sh (kdsD kd), .sh (drD CD CS so kd cs ls js), .sh (dnD cs ls js), .no, .no, .no, .sh d, .no, .no, .no, .no, .no, .no, .sh (dnD c2' l2 j2), .no, .no, .no, .no, .no]
        [.sr a (k0 + 1 + 500), .sh (sosD so), .sh (kdsD kd), .sh (drD CD CS so kd cs ls js), .sh (dnD cs ls js), .sh (.int (way : Int)), .sh (jsD (innF cs.length js)), .sh (.lst ((ls.map (·.1)).map En.e)), .sh d, .sh (.lst ((freeF ls).map En.e)), .no, .no, .no, .no, .no, .sh (dnD c2' l2 j2), .no, .no, .no, .no, .no] := fun d =>
      .eq (.eq (.eq (.eq (.eq (.no (.no (.no (.eq (.no (.eq (.eq (.eq (.eq (.eq (.eq (.eq (.eq (.eq (.eq (.eq .nil))))))))))))))))))))
    have test : R87.Pt (cxOf CX0 P w K mg base dN "_law_done" (defScope s_law_done) f (.ref c) A outer s H E) (ifTest ((ifBody ((defBody s_law_done).getD 5 (.Pass ⟨0, 0, 0, 0⟩))).getD 5 (.Pass ⟨0, 0, 0, 0⟩)))
        [.sr a (k0 + 1 + 500), .sh (sosD so), .sh (kdsD kd), .sh (drD CD CS so kd cs ls js), .sh (dnD cs ls js), .sh (.int (way : Int)), .sh (jsD (innF cs.length js)), .sh (.lst ((ls.map (·.1)).map En.e)), .sh .non, .sh (.lst ((freeF ls).map En.e)), .no, .no, .no, .no, .no, .sh (dnD c2' l2 j2), .no, .no, .no, .no, .no] (decide ((cs ++ c2').length ≤ 6) && decide ((ls ++ l2).length ≤ 6)) := by
      refine (pw_and' ((pt_lt (pu_lenL B.len (nu_cat (ds := cs.map En.e) (es := c2'.map En.e) (pu_ixT (k := 0) (pu_var 4 rfl) pu_int rfl) (pu_ixT (k := 0) (pu_var 15 rfl) pu_int rfl) ?_).pu) pu_int).is ?_) fun _ => pw_and1' ((pt_lt (pu_lenL B.len (nu_cat (ds := (ls.map (·.1)).map En.e) (es := l2.map En.e) (pu_var 7 rfl) (pu_ixT (k := 1) (pu_var 15 rfl) pu_int rfl) ?_).pu) pu_int).is ?_)).pt
      · rw [List.length_map, List.length_map]; omega
      · rw [List.length_append, List.length_map, List.length_map]
        exact decide_eq_decide.2 (by omega)
      · rw [List.length_map, List.length_map, List.length_map]; omega
      · rw [List.length_append, List.length_map, List.length_map, List.length_map]
        exact decide_eq_decide.2 (by omega)
    by_cases hc : (cs ++ c2').length ≤ 6 ∧ (ls ++ l2).length ≤ 6
    · have hb : (decide ((cs ++ c2').length ≤ 6) && decide ((ls ++ l2).length ≤ 6)) = true := by rw [decide_eq_true hc.1, decide_eq_true hc.2]; rfl
      have V' := VD.beside BO hc.1 hc.2
      refine ar_step (ab_if test (fun _ => ab_set 8 (pu_call i5 hr ⟨cs, c2', ls, l2, js, j2, rfl, hc.1, hc.2, j18, i18, vp.ac2, V3.vp.ac2, rfl⟩ (pas_cons (pu_var 4 rfl) (pas_cons (pu_var 15 rfl) pas_nil))) (ab_nil (ab_nil ((fin _ (.inl (drD CD CS so kd (cs ++ c2') (besL ls l2) (besJ cs ls js c2' l2 j2))) (.inl ⟨_, _, _, V', rfl, rfl⟩) fun X τ e1 e2 p pos hcl hr ha hg hs => ?_).le (le _)))) hN) (fun z => by rw [hb] at z; cases z))
      exact pu_callR hcl hr ⟨so, kd, cs, c2', ls, l2, js, j2, rfl, BO, hc.1, hc.2, V', rfl⟩ ha (by decide) hg (by decide) hs
    · have hb : (decide ((cs ++ c2').length ≤ 6) && decide ((ls ++ l2).length ≤ 6)) = false := by
        rw [Bool.and_eq_false_iff, decide_eq_false_iff_not, decide_eq_false_iff_not]
        by_cases h1 : (cs ++ c2').length ≤ 6
        · exact .inr fun h2 => hc ⟨h1, h2⟩
        · exact .inl h1
      refine ar_step (ab_if test (fun z => by rw [hb] at z; cases z) (fun _ => ab_nil (ab_nil ((fin .non (.inr CT) (.inr ⟨rfl, CT, .inl rfl, rfl⟩) fun X τ e1 e2 p pos hcl hr ha hg hs => ?_).le (le _)))))
      exact rz_callR hcl hr ⟨so, kd, cs, c2', ls, l2, js, j2, rfl, BO, hc, rfl⟩ ha (by decide) hg (by decide) hs
  · -- renamed
    refine ar_step (abe_set 14 (ef_callTy call_tupF B.tuple (ea_cons (ef_draw 0 c4n hr ⟨_, _, rfl⟩ (ea_pa (pas_cons (nu_listRange1 (k := cs.length) B.range B.list ((pu_lenL B.len (pu_ixT (k := 0) (d := csD cs) (pu_var 4 rfl) pu_int rfl)).is (by rw [List.length_map])) (by omega)).pu pas_nil) ⟨⟨List.range cs.length, rfl, by rw [List.length_range]; omega⟩, a, k0 + 1, rfl, rfl, (by show _ ≤ 1000000; omega), fun d hR => ?_⟩)))))
    obtain ⟨fs, gs, e2, hpm, rfl⟩ := hR
    obtain ⟨ns, rfl, hpn⟩ := perm_map_ex (En.e (α := Nat)) hpm (toL e2).symm
    refine ea_nil ⟨_, dc_tupF, ab_nil ?_⟩
    have nl : ns.length = cs.length := by rw [hpn.length_eq, List.length_range]
    have V' := V.renamed hpn
    have er := renF_eq (cs := cs) hpn
    have hs2 : sortT ns = List.range cs.length := by
      rw [sortT_uniq hpn]
      exact sortT_id ((range_lt _).imp fun {a b} h => by
        show (!DatumOrd.lt b a) = true
        have e : DatumOrd.lt b a = decide (b < a) := rfl
        rw [e, decide_eq_false (by omega)]; rfl)
    refine ar_step (ab_set 10 (pu_call i6 hr ⟨cs, ls, js, ns, rfl, c6, l6, j18, nl, fun k hk => hpn.mem_iff.2 (List.mem_range.2 hk), vp.ac2, rfl⟩ (pas_cons (pu_ixT (k := 0) (d := csD cs) (pu_var 4 rfl) pu_int rfl) (pas_cons (pu_ixT (k := 1) (d := lgD ls) (pu_var 4 rfl) pu_int rfl) (pas_cons (pu_ixT (k := 2) (d := jsD js) (pu_var 4 rfl) pu_int rfl) (pas_cons (pu_var 14 rfl) pas_nil))))) (ab_nil ?_) hN)
    refine ar_done (.inl (drD CD CS so kd (movC cs ns) ls (movedF js (movP cs.length ls.length ns)))) ["_law_drawing_here", "_law_order"] [drD CD CS so kd cs ls js, .tupF (ns.map En.e)] TB qL_eq rfl hT gP sk (d := dnD (movC cs ns) ls (movedF js (movP cs.length ls.length ns)))
      (pu_tup (pas_cons (pu_ixT (k := 0) (pu_var 10 rfl) pu_int rfl) (pas_cons (pu_ixT (k := 1) (d := lgD ls) (pu_var 4 rfl) pu_int rfl) (pas_cons (pu_ixT (k := 1) (pu_var 10 rfl) pu_int rfl) pas_nil)))) (by kernel_rfl) (by decide +kernel) rfl (fun i y' d' h1 h2 => ?_) rfl (by omega) (fun _ _ _ _ => rfl) (fun f' c' cl A' outer' s' Hm E' hr' => ?_) (.inl ⟨_, _, _, V', rfl, rfl⟩)
    · match i, h1, h2 with
      | 0, h1, h2 => cases h1; cases h2; exact ⟨3, rfl, rfl, by kernel_rfl⟩
      | 1, h1, h2 => cases h1; cases h2; exact ⟨14, rfl, rfl, by kernel_rfl⟩
    · exact pu_call i8 hr' ⟨so, kd, cs, ls, js, ns, rfl, V, hs2, vp.ac2, by rw [er]; exact V', by rw [er]⟩ (pas_cons (pu_var 0 rfl) (pas_cons (pu_var 1 rfl) pas_nil))
end
end R87
namespace R87
open PySem PySem.Spec PyProof.Rows L2
open PySem.W (Tup T4 T3 DatumOrd Datum)
/-- isinstance(e, (C1, ..)) of the exception that the suite holds -/
def rIsET (K : PySem.W.Frag) (C0 a : Addr) : List V → Hp → VK → Prop := fun xs H Q => ∃ (tp : Addr) (cs : List V) (us : List Value) (b : Bool), xs = [.ref a, .ref tp] ∧ H tp = some (.tup cs) ∧ Paired ClsV cs us ∧ PySem.W.kitAny K (.ref C0) us = some b ∧ Q (.bl b) H
theorem call_isET {X : Cx} {a C0 : Addr} {oe : Obj} {pn : List (Addr × Obj)} (C : ExcC X.K C0) (hz : Zc (.ref C0) none oe) (hf : ∃ vs, oe.data = .fields vs) : CallR (X.suite a ((a, oe) :: pn)) (.builtin "isinstance") (rIsET X.K C0 a) := by
  intro pins s σ H xs us Q I r h
  obtain ⟨tp, cs, ws, b, rfl, hT, k, e, q⟩ := h
  obtain ⟨u1, u2, rfl, r1, r2⟩ := vals2 r
  cases (show u1 = Value.ref a from r1)
  cases (show u2 = Value.ref tp from r2)
  have hget := (I.pin (a, oe) (List.mem_append.mpr (.inl List.mem_cons_self))).1
  obtain ⟨vs, hv⟩ := hf
  have J : PySem.W.InstAt s.heap a oe C0 none := by
    obtain ⟨oc, od, oda, osl⟩ := oe
    obtain ⟨h1, h2⟩ := hz
    dsimp only at h1 h2 hv
    subst h1 h2 hv
    exact ⟨hget, rfl, rfl, trivial⟩
  obtain ⟨_, its, rv, o, h1, h2, n, h3⟩ := I.hok tp _ hT
  have e3 := ClsV.all k rv
  subst e3
  obtain ⟨oc, od, dt, sl⟩ := o
  simp only at h2 h3
  subst h2 h3
  exact PySem.W.kia_tup (PySem.W.handS_kitx_exc C.hg C.hk C.hs C.hd C.ha C.hn C.ht C.hm) I.kIn J h1 e (fun z => nomatch z) fun tk => ⟨.bl b, H, I.kept (t' := tk) fun _ _ z => z, rfl, q⟩
/-- no slot is known -/
theorem ok_no {G H : Hp} {σ : L2.St} (e : Ex G H) : Ok H G H (List.replicate σ.length .no) σ := by
  have key : ∀ (i : Nat) (x : Sl), (List.replicate σ.length Sl.no)[i]? = some x → x = .no := fun i x h => by
    rw [List.getElem?_replicate] at h
    split at h
    · exact (Option.some.inj h).symm
    · cases h
  exact ⟨e, List.length_replicate .., fun i d h => (nomatch key i _ h), fun i d h => (nomatch key i _ h), fun i j ds es p n h1 => (nomatch key i _ h1), fun i a k h => (nomatch key i _ h), fun i j ds a k h1 => (nomatch key i _ h1), fun i j a b k n h1 => (nomatch key i _ h1)⟩
/-- x(), x a name that holds a deed -/
def tDeed (X : Cx) (W : WX) (k i : Nat) : TE := fun σ H Q => ∃ f G res, σ[i]? = some (some (.ref f)) ∧ (∃ q ps body sc cl c', H f = some (LamO f q ps body sc cl c')) ∧ DeedR X.prog X.w X.K X.mg X.base k f G H res ∧ Comes G H Q (fun cls d H' => W cls d σ H') res
theorem pe_deed {X : Cx} {W : WX} {k i : Nat} {x : Str} {p1 p2 : Pos} (tk : Takes X W) (hr : Room k X.A) (hN : X.N[i]? = some x) (hv : Vis X.env.scope x) (hd : (x == ("__debug__" : Str)) = false := by decide) (hcd : (x == ("__classdict__" : Str)) = false := by decide) : PE X (.Call (.Name x p1) [] [] p2) (tDeed X W k i) := by
  refine ⟨fun pins s σ H Q I ⟨f, G, res, hs, hf, dr, hc⟩ => ?_⟩
  refine wpAny_Call_Name_kw (thn ((pe_var (pos := p1) (i := i) hN hv hd hcd).run pins s σ H (fun v H1 => v = .ref f ∧ H1 = H) I ⟨.ref f, hs, rfl, rfl⟩) fun u s1 q => ?_)
  obtain ⟨v, H1, I1, r1, ev, eH⟩ := q
  subst ev
  rw [eH] at I1
  obtain rfl : u = Value.ref f := r1
  obtain ⟨qq, ps, body, sc, cl, c', e1⟩ := hf
  obtain ⟨⟨pm, ctv, hget⟩, _, _⟩ := I1.hok f _ e1
  refine PySem.W.callWith_F0 ⟨_, _, _, _, hget⟩ (wpAny_call (codeAny_mono (dr X.A X.stack s1 Q (fun cls d H' => W cls d σ H') hr I1.env0 hc) fun r s' hq => ?_))
  cases r with
  | error e => exact tk e s' (XE.of_call I1 (fun cls d H' h => h) hq)
  | ok fl =>
    cases fl with
    | ret u => exact I1.after hq
    | next => exact False.elim hq
    | brk => exact False.elim hq
    | cont => exact False.elim hq
/-- the refusals' classes -/
structure ErrF (K : PySem.W.Frag) (mg : Str → Option Value) (CE CT CN : Addr) : Prop where
  e : mg "EndError" = some (.ref CE)
  t : mg "TooMany" = some (.ref CT)
  n : mg "NoJoin" = some (.ref CN)
  exm : ∀ C, C = CT ∨ C = CN → PySem.W.exmOne K (.ref C) (.ref CE) = some true
  exc : ∀ C, C = CT ∨ C = CN → ExcC K C
  kit : ∀ C, C = CT ∨ C = CN → PySem.W.kitAny K (.ref C) [.ref CN, .ref CT] = some true
def toldD : D ⊕ Addr → D
  | .inl d => d
  | .inr _ => .non
section
variable {P : Program} {w : World} {K : PySem.W.Frag} {mg : Str → Option Value} {base : Heap}
def spTold (P : Program) (w : World) (K : PySem.W.Frag) (mg : Str → Option Value) (base : Heap) (CT CN : Addr) : Sp := fun vs H Q _ => ∃ f G res, vs = [.ref f] ∧ Ex G H ∧ (∃ q ps body sc cl c', H f = some (LamO f q ps body sc cl c')) ∧ DeedR P w K mg base 9 f G H res ∧ (∀ C, res = .inr C → C = CT ∨ C = CN) ∧ ∀ v G' H', Gr m0 G H G' H' → Rp G' v (toldD res) → Q v H'
theorem ok_law_told (B : Bf mg) {CE CT CN : Addr} (ER : ErrF K mg CE CT CN) {f : Addr} {fd : FuncData} (F : Fun K "_law_told" "_law_told" s_law_told f fd) : FnOk P w K mg base CX0 10 f fd ["_law_deed"] (spTold P w K mg base CT CN) := by
  refine F.ok (N := ["_law_deed", "_law_found", "e"]) (C8.fnScope_by (by decide +kernel)) (fun vs H Q E ⟨_, _, _, e, _⟩ => by rw [e]; rfl) fun cdv A outer s H vs Q E hr ⟨g, G, res, e, ex, hl, dr, hC, hQ⟩ => ?_
  subst e
  have hN : (["_law_deed", "_law_found", "e"] : List Str).Nodup := by decide
  let X := (cxOf CX0 P w K mg base ["_law_deed", "_law_found", "e"] "_law_told" (defScope s_law_told) f cdv A outer s H E).nox
  -- the suite
  have suite : ∀ (a : Addr) (oe : Obj) (pn : List (Addr × Obj)) (C : Addr) (D : Ends) (σ : L2.St) (G1 H1 : Hp), Ex G1 H1 → (C = CT ∨ C = CN) → Zc (.ref C) none oe → (∃ vs, oe.data = .fields vs) → σ[2]? = some (some (.ref a)) → (∀ G2 H2, Gr m0 G1 H1 G2 H2 → D.rt .non H2) →
      Wb (X.suite a ((a, oe) :: pn)) (handB ((defBody s_law_told).getD 0 (.Pass ⟨0, 0, 0, 0⟩))) D σ H1 := fun a oe pn C D σ G1 H1 ex1 hC hz hf hσ hD => by
    refine Wb.of (pss_one (ps_ret pe_we)) (We.of (pe_ix ix_list pe_we pe_we (by exact fun _ _ => rfl)) ((nu_lst (pas_cons pu_non (pas_cons pu_str pas_nil)) (show 2 ≤ 1000 by decide)) H1 G1 H1 σ (ok_no ex1) _ fun p us G2 H2 g2 n1 n2 n3 r => ?_))
    refine We.of (pe_callTy call_int1 (by rfl) B.int boot_nm_int (pa_cons (pe_not pe_we) pa_nil)) ?_
    refine We.of (pe_callB (call_isET (ER.exc C hC) hz hf) (by rfl) B.isinstance (by decide +kernel) (pa_cons (pe_var (i := 2) rfl (.inl rfl)) (pa_cons (pe_tup (pa_cons (pe_glob (v := .ref CN) (by rfl) ER.n rfl) (pa_cons (pe_glob (v := .ref CT) (by rfl) ER.t rfl) pa_nil))) pa_nil))) ?_
    refine ⟨.ref a, hσ, Nat.le_trans (show 2 ≤ 1000 by decide) (sl1000 (Nat.le_refl _)), fun T hT => ⟨T, _, [.ref CN, .ref CT], true, rfl, upd_same, .cons (.own CN) (.cons (.own CT) .nil), ER.kit C hC, true, rfl, .inr ⟨false, rfl, ?_⟩⟩⟩
    cases r with
    | cons ra r =>
      cases ra
      have g3 := g2.trans (.newO (o := .tup [.ref CN, .ref CT]) g2.gh hT)
      refine ⟨p, _, 0, .non, rfl, rfl, SqL.of (by rw [upd_ne (ne_of_none n3 hT)]; exact n3), atI_nat (j := 0) rfl, hD _ _ g3⟩
  have hst : defBody s_law_told = [(defBody s_law_told).getD 0 (.Pass ⟨0, 0, 0, 0⟩), (defBody s_law_told).getD 1 (.Pass ⟨0, 0, 0, 0⟩)] := by rfl
  refine ⟨_, pss_cons (ps_try_as (X := X) (c := .ref CE) (i := 2) (Wout := fun _ _ _ _ => False) (tb := fun W D σ H => tDeed X W 9 0 σ H fun v H' => D.nx (σ.set 1 (some v)) H') (ts := fun a cls d D σ H1 => ∃ C G1, cls = .ref C ∧ d = none ∧ Ex G1 H1 ∧ (C = CT ∨ C = CN) ∧ σ[2]? = some (some (.ref a)) ∧ ∀ G2 H2, Gr m0 G1 H1 G2 H2 → D.rt .non H2) rfl rfl hN rfl rfl ⟨by rfl, by decide, .inl ER.e⟩ LamX.takes0 (fun W pn xe tk _ => ?_) (fun a oe cls d pn hz hf => ?_)) (pss_one (ps_ret (pv 1))), ?_⟩
  · refine ⟨fun pins s' σ H' D I h => ?_⟩
    exact (pss_one (ps_set (i := 1) (X := X.tr pn xe) hN rfl (.inl rfl) (pe_deed (X := X.tr pn xe) (W := W) (k := 9) (i := 0) (x := "_law_deed") tk hr rfl (.inl rfl)) rfl (.inl rfl))).run pins s' σ H' D I h
  · refine ⟨fun pins s' σ H1 D I ⟨C, G1, e1, e2, ex1, hC, hσ, hD⟩ => ?_⟩
    subst e1 e2
    exact (suite a oe pn C D σ G1 H1 ex1 hC hz hf hσ hD).run pins s' I
  · refine ⟨g, G, res, rfl, hl, dr, ?_⟩
    cases res with
    | inl d => exact fun v G' H' gr rv => ⟨v, rfl, hQ v G' H' gr rv⟩
    | inr C =>
      intro G' H' gr
      refine ⟨true, ER.exm C (hC C rfl), fun _ a _ => ⟨C, G', rfl, rfl, gr.gh, hC C rfl, rfl, fun G2 H2 g2 => ?_⟩, fun z => by cases z⟩
      exact hQ .non G2 H2 (gr.trans g2) .non
end
end R87
namespace R87
open PySem PySem.Spec PyProof.Rows L2
abbrev hE : Hp := fun _ => none
theorem Ok.toE {H0 G H : Hp} {τ : List Sl} {σ : L2.St} (k : Ok H0 G H τ σ) : Ok hE G H τ σ :=
  ⟨k.ex, k.len, k.sh, fun i ds e => let ⟨p, vs, h1, h2, h3, h0, h4⟩ := k.ow i ds e; ⟨p, vs, h1, h2, h3, rfl, h4⟩, k.ap, k.sr, k.aq, k.su⟩
/-- what holds between the law's statements -/
structure LS (Pt a : Addr) (Gb G H : Hp) (τ : List Sl) (σ : L2.St) : Prop where
  ok : Ok hE G H τ σ
  tab : LamX.TabS H Pt qDone
  gP : G Pt = none
  gb : Ex Gb G
  s0 : σ[0]? = some (some (.ref a))
def LB (X : Cx) (Pt a : Addr) (Gb : Hp) (sts : List Stmt) (τ : List Sl) (Dn : Ends) : Prop := ∀ G H σ, LS Pt a Gb G H τ σ → Wb X sts Dn σ H
section
variable {Pt a : Addr} {Gb G H G' H' : Hp} {τ t : List Sl} {σ σ' : L2.St} {m : Addr → Prop}
theorem LS.np (L : LS Pt a Gb G H τ σ) : H Pt ≠ none := by
  obtain ⟨qs, h, _⟩ := L.tab
  rw [h]; exact fun z => by cases z
theorem LS.gr (L : LS Pt a Gb G H τ σ) (g : Gr m0 G H G' H') : LS Pt a Gb G' H' τ σ :=
  ⟨L.ok.gr g, L.tab.ext g.ex, g.fr Pt L.gP L.np, L.gb.trans g.gg, L.s0⟩
theorem LS.set {i : Nat} {v : V} {d : D} (L : LS Pt a Gb G H τ σ) (r : Rp G v d) (hi : i ≠ 0) : LS Pt a Gb G H (τ.set i (.sh d)) (σ.set i (some v)) :=
  ⟨L.ok.setSh r, L.tab, L.gP, L.gb, by rw [List.getElem?_set_ne hi]; exact L.s0⟩
theorem LS.base (L : LS Pt a Gb G H τ σ) : ∃ H0, Gr m G H0 G H ∧ Ok H0 G H τ σ ∧ ∀ b o, H b = some o → (∀ us, o ≠ .lst us) → H0 b = some o := by
  have key : ∃ H0 : Hp, ∀ b, ((∃ (i : Nat) (ds : List D), τ[i]? = some (Sl.ow ds) ∧ σ[i]? = some (some (V.ref b))) → H0 b = none) ∧ ((¬ ∃ (i : Nat) (ds : List D), τ[i]? = some (Sl.ow ds) ∧ σ[i]? = some (some (V.ref b))) → H0 b = H b) :=
    ⟨fun b => @ite _ (∃ (i : Nat) (ds : List D), τ[i]? = some (Sl.ow ds) ∧ σ[i]? = some (some (V.ref b))) (Classical.propDecidable _) none (H b), fun b => ⟨fun h => if_pos h, fun h => if_neg h⟩⟩
  obtain ⟨H0, hH⟩ := key
  have sub : ∀ b o, H0 b = some o → H b = some o := fun b o e => by
    by_cases z : ∃ (i : Nat) (ds : List D), τ[i]? = some (Sl.ow ds) ∧ σ[i]? = some (some (V.ref b))
    · rw [(hH b).1 z] at e; cases e
    · rw [(hH b).2 z] at e; exact e
  refine ⟨H0, ⟨.refl _, fun b o _ e => sub b o e, L.ok.ex, fun b e _ => e, fun b n => ?_⟩, ⟨L.ok.ex, L.ok.len, L.ok.sh, fun i ds e => ?_, L.ok.ap, L.ok.sr, L.ok.aq, L.ok.su⟩, fun b o e n => ?_⟩
  · cases z : H0 b with
    | none => exact absurd z n
    | some o => rw [sub b o z]; exact fun w => by cases w
  · obtain ⟨p, us, h1, h2, h3, _, h4⟩ := L.ok.ow i ds e
    exact ⟨p, us, h1, h2, h3, (hH p).1 ⟨i, ds, e, h1⟩, h4⟩
  · rw [(hH b).2 fun ⟨i, ds, h1, h2⟩ => ?_]
    · exact e
    · obtain ⟨p, us, q1, q2, _⟩ := L.ok.ow i ds h1
      rw [h2] at q1
      cases q1
      rw [e] at q2
      exact n us (Option.some.inj q2)
theorem LS.next {H0 : Hp} (L : LS Pt a Gb G H τ σ) (n0 : ∀ b o, H b = some o → (∀ us, o ≠ .lst us) → H0 b = some o) (hm : ∀ b, m b → ∃ us, H b = some (.lst us)) (g : Gr m G H0 G' H') (k : Ok H0 G' H' t σ') (s0 : σ'[0]? = σ[0]?) : LS Pt a Gb G' H' t σ' := by
  have ne : ∀ b o, H b = some o → (∀ us, o ≠ .lst us) → H' b = some o := fun b o e n => g.hh b o (fun z => by
    obtain ⟨us, e2⟩ := hm b z
    rw [e] at e2
    exact n us (Option.some.inj e2)) (n0 b o e n)
  obtain ⟨qs, h1, h2, h3⟩ := L.tab
  refine ⟨k.toE, ⟨qs, ne Pt _ h1 (fun us w => by cases w), h2, fun pos c hc => ?_⟩, g.fr Pt L.gP (by rw [n0 Pt _ h1 fun us w => by cases w]; exact fun w => by cases w), L.gb.trans g.gg, s0.trans L.s0⟩
  obtain ⟨c', e1, e2⟩ := h3 pos c hc
  exact ⟨c', e1, ne c' _ e2 fun us w => by unfold LamX.CodeO at w; cases w⟩
theorem LS.src {j k : Nat} {b : Addr} (L : LS Pt a Gb G H τ σ) (h : τ[j]? = some (Sl.sr b k)) : ∀ c, (c = b) → ∃ us, H c = some (.lst us) := fun c e => by
  obtain ⟨_, _, x, y, z, q, _⟩ := L.ok.sr j b k h
  exact ⟨_, by rw [e]; exact q⟩
end
section
variable {X : Cx} {Pt a : Addr} {Gb : Hp} {τ : List Sl} {Dn : Ends} {rest : List Stmt} {e c : Expr} {d : D} {pos p : Pos} {n : Str}
theorem lb_nil (h : ∀ G H σ, LS Pt a Gb G H τ σ → Dn.nx σ H) : LB X Pt a Gb [] τ Dn := fun G H σ L => Wb.of pss_nil (h G H σ L)
theorem lb_set (i : Nat) (h : Pu X e τ d) (k : LB X Pt a Gb rest (τ.set i (.sh d)) Dn) (h0 : i ≠ 0 := by decide) (hN : X.N.Nodup := by assumption) (hi : X.N[i]? = some n := by rfl) (hx : Loc X.env.scope n := by first | exact Or.inl rfl | exact Or.inr rfl) (hs : swapsWith e (some (.Name n p)) pos.line X.env = pure false := by rfl)
    (hf : X.fn n = true ∨ X.env.scope.names.lookup n = some .local := by first | exact .inl rfl | exact .inr rfl) : LB X Pt a Gb (.Assign [.Name n p] e pos :: rest) τ Dn := fun G H σ L =>
  Wb.of (pss_cons (ps_set hN hi hx pe_we hs hf) pss_wb) (h hE G H σ L.ok _ fun v G1 H1 g1 r1 => k G1 H1 _ ((L.gr g1).set r1 h0))
theorem lb_setE (i : Nat) {b : Addr} (hb : ∃ (j k : Nat), τ[j]? = some (Sl.sr b k)) (h : Ef X (fun c => c = b) e τ fun d t => LB X Pt a Gb rest (t.set i (.sh d)) Dn) (h0 : i ≠ 0 := by decide) (hN : X.N.Nodup := by assumption) (hi : X.N[i]? = some n := by rfl) (hx : Loc X.env.scope n := by first | exact Or.inl rfl | exact Or.inr rfl)
    (hs : swapsWith e (some (.Name n p)) pos.line X.env = pure false := by rfl) (hf : X.fn n = true ∨ X.env.scope.names.lookup n = some .local := by first | exact .inl rfl | exact .inr rfl) : LB X Pt a Gb (.Assign [.Name n p] e pos :: rest) τ Dn := fun G H σ L => by
  obtain ⟨j, k, hj⟩ := hb
  obtain ⟨H0, g0, k0, n0⟩ := L.base (m := fun c => c = b)
  exact Wb.of (pss_cons (ps_set hN hi hx pe_we hs hf) pss_wb) (h G H0 G H σ g0 k0 _ fun v d t G1 H1 g1 e1 k1 r1 h2 => h2 G1 H1 _ ((L.next n0 (L.src hj) g1 k1 rfl).set r1 h0))
theorem lb_unpackE {b : Addr} {tg : Expr} (hb : ∃ (j k : Nat), τ[j]? = some (Sl.sr b k)) (h : Ef X (fun c => c = b) e τ fun d t => ∃ τ1 is, Tg X tg d t τ1 is ∧ 0 ∉ is ∧ LB X Pt a Gb rest τ1 Dn) (hs : swapsWithSole [tg] e pos.line X.env = pure false := by rfl) (hw : swappedStores [tg] e X.env = pure none := by rfl)
    (h1 : (assignEach [tg] X.env).map (·.2) = [assign tg X.env] := by rfl) : LB X Pt a Gb (.Assign [tg] e pos :: rest) τ Dn := fun G H σ L => by
  obtain ⟨j, k, hj⟩ := hb
  obtain ⟨H0, g0, k0, n0⟩ := L.base (m := fun c => c = b)
  refine Wb.of (pss_cons (ps_asg pe_we pg_wg hs hw h1) pss_wb) (h G H0 G H σ g0 k0 _ fun v d t G1 H1 g1 e1 k1 r1 ⟨τ1, is, ht, hi, h2⟩ => ?_)
  have L1 := L.next n0 (L.src hj) g1 k1 rfl
  exact ht hE G1 H1 σ v L1.ok r1 _ fun σ' k' l' f' => h2 G1 H1 σ' ⟨k', L1.tab, L1.gP, L1.gb, (f' 0 hi).trans L1.s0⟩
/-- a new list, in a slot -/
theorem lb_setO (i : Nat) {ds : List D} (h : Nu X e τ ds) (k : LB X Pt a Gb rest (τ.set i (.ow ds)) Dn) (h0 : i ≠ 0 := by decide) (hN : X.N.Nodup := by assumption) (hi : X.N[i]? = some n := by rfl) (hx : Loc X.env.scope n := by first | exact Or.inl rfl | exact Or.inr rfl) (hs : swapsWith e (some (.Name n p)) pos.line X.env = pure false := by rfl)
    (hf : X.fn n = true ∨ X.env.scope.names.lookup n = some .local := by first | exact .inl rfl | exact .inr rfl) : LB X Pt a Gb (.Assign [.Name n p] e pos :: rest) τ Dn := fun G H σ L =>
  Wb.of (pss_cons (ps_set hN hi hx pe_we hs hf) pss_wb) (h hE G H σ L.ok _ fun q us G1 H1 g1 h1 h3 h4 r1 => by
    have L1 := L.gr g1
    refine k G1 H1 _ ⟨L1.ok.setOw h4 h1 rfl r1 (fun j es hj he hq => ?_) (fun j n e => (L.ok.sr j q n e).2.2.ne h3), L1.tab, L1.gP, L1.gb, by rw [List.getElem?_set_ne h0]; exact L.s0⟩
    obtain ⟨p', vs', a, b, _⟩ := L.ok.ow j es he
    rw [hq] at a; cases a
    rw [h3] at b; cases b)
/-- what an expression tells between the law's statements -/
def PuL (X : Cx) (Pt a : Addr) (Gb : Hp) (e : Expr) (τ : List Sl) (d : D) : Prop := ∀ G H σ, LS Pt a Gb G H τ σ → ∀ Q : VK, (∀ v G' H', Gr m0 G H G' H' → Rp G' v d → Q v H') → We X e σ H Q
theorem Pu.l (h : Pu X e τ d) : PuL X Pt a Gb e τ d := fun G H σ L Q q => h hE G H σ L.ok Q q
/-- a source anew -/
theorem lb_src (i : Nat) {z : Int} {f : Str} {j k : Nat} {p1 p2 : Pos} (C : Cal X.prog X.w X.K X.mg X.base CX0 j f (spNu r_src)) (hr : Room k X.A) (h : PuL X Pt a Gb e τ (.int z)) (hk : ∀ b, LB X Pt a Gb rest (τ.set i (.sr b 0)) Dn) (hno : ∀ j a k, j ≠ i → τ[j]? ≠ some (Sl.sr a k)) (hj : j ≤ k := by decide) (hg : Gl X f := by rfl) (hdb : (f == ("__debug__" : Str)) = false := by decide) (he : noStar e = true := by rfl)
    (h0 : i ≠ 0 := by decide) (hN : X.N.Nodup := by assumption) (hi : X.N[i]? = some n := by rfl) (hx : Loc X.env.scope n := by first | exact Or.inl rfl | exact Or.inr rfl) (hs : swapsWith (.Call (.Name f p1) [e] [] p2) (some (.Name n p)) pos.line X.env = pure false := by rfl)
    (hf : X.fn n = true ∨ X.env.scope.names.lookup n = some .local := by first | exact .inl rfl | exact .inr rfl) : LB X Pt a Gb (.Assign [.Name n p] (.Call (.Name f p1) [e] [] p2) pos :: rest) τ Dn := fun G H σ L => by
  obtain ⟨fa, fd, ps, F, hm, hkp, hb⟩ := C.ex
  refine Wb.of (pss_cons (ps_set hN hi hx (pe_call F (hr.mono hj) hg hm hkp hb .nil pass0 (pa_cons pe_we pa_nil (star_cons he)) hdb (star_cons he) rfl) hs hf) pss_wb) (h G H σ L _ fun v G1 H1 g1 r1 => ?_)
  obtain ⟨b1, b2, b3⟩ := src_bounds z
  refine ⟨G1, [.int z], _, g1.gh, .cons r1 .nil, ⟨z, _, _, rfl, b1, b2, b3, rfl, rfl, rfl⟩, fun q us G2 H2 g2 q1 q2 q3 r => ?_⟩
  have g := g1.trans g2
  have L2 := L.gr g
  have h3 : H q = none := g1.ex.back q2
  have hs3 : Sk q 0 H2 := by
    cases r with
    | cons a1 r1 => cases r1 with
      | cons a2 r2 => cases r2 with
        | cons a3 r3 =>
          cases r3
          cases a1; cases a2; cases a3
          exact ⟨_, _, 0, q3, b1, b2, b3, Int.le_refl _, Int.le_refl _⟩
  refine hk q G2 H2 _ ⟨L2.ok.setSr q1 hs3 (fun j es hj he hq => ?_) hno, L2.tab, L2.gP, L2.gb, by rw [List.getElem?_set_ne h0]; exact L.s0⟩
  obtain ⟨u, us, a1, a2, a3, a4, a5⟩ := L.ok.ow j es he
  rw [a1] at hq
  cases hq
  rw [h3] at a2
  cases a2
theorem lb_if {sts : List Stmt} {b : Bool} (hc : R87.Pt X c τ b) (h1 : b = true → ∀ Dm : Ends, Dm.rt = Dn.rt → (∀ σ H, Wb X rest Dn σ H → Dm.nx σ H) → LB X Pt a Gb (sts ++ []) τ Dm) (h2 : b = false → LB X Pt a Gb rest τ Dn) : LB X Pt a Gb (.If c sts [] pos :: rest) τ Dn := fun G H σ L => by
  refine Wb.of (pss_cons (ps_if pt_wt (pss_wb (sts := sts)) pss_nil) pss_wb) (hc hE G H σ L.ok _ fun G1 H1 g1 => ?_)
  cases b with
  | true =>
    rw [if_pos rfl]
    have := h1 rfl { Dn with nx := Wb X rest Dn } rfl (fun _ _ z => z) G1 H1 σ (L.gr g1)
    rw [List.append_nil] at this
    exact this
  | false =>
    rw [if_neg Bool.false_ne_true]
    exact h2 rfl G1 H1 σ (L.gr g1)
theorem lb_ifF {sts : List Stmt} (hc : R87.Pt X c τ false) (h2 : LB X Pt a Gb rest τ Dn) : LB X Pt a Gb (.If c sts [] pos :: rest) τ Dn := lb_if hc (fun z => by cases z) fun _ => h2
/-- x, y = e, f, stored from the right -/
theorem lb_par (i j : Nat) {x y : Str} {e1 e2 : Expr} {d1 d2 : D} {px py pt : Pos} {kt k2 : Nat} {pt2 : Pos} (h : Pa X [e1, e2] τ [d1, d2]) (k : LB X Pt a Gb rest ((τ.set i (.sh d1)).set j (.sh d2)) Dn)
    (hw : swappedStores [.Tuple [.Name x px, .Name y py] kt pt] (.Tuple [e1, e2] k2 pt2) X.env = pure (some [x, y])) (hi0 : i ≠ 0 := by decide) (hj0 : j ≠ 0 := by decide) (hij : i ≠ j := by decide) (hc : X.calm = true := by rfl) (hN : X.N.Nodup := by assumption) (hi : X.N[i]? = some x := by rfl) (hj : X.N[j]? = some y := by rfl)
    (hx : X.env.scope.names.lookup x = some .local := by rfl) (hy : X.env.scope.names.lookup y = some .local := by rfl) (hs : swapsWithSole [.Tuple [.Name x px, .Name y py] kt pt] (.Tuple [e1, e2] k2 pt2) pos.line X.env = pure false := by rfl) :
    LB X Pt a Gb (.Assign [.Tuple [.Name x px, .Name y py] kt pt] (.Tuple [e1, e2] k2 pt2) pos :: rest) τ Dn := fun G H σ L =>
  Wb.of (pss_cons (ps_par hc hN hi hj hij hx hy pa_wa hw hs) pss_wb) (h hE G H σ L.ok _ fun ws G1 H1 g1 r1 => by
    cases r1 with
    | cons r1 r2 => cases r2 with
      | cons r2 r3 =>
        cases r3
        exact ⟨_, _, rfl, k G1 H1 _ (((L.gr g1).set r1 hi0).set r2 hj0)⟩)
/-- x.append(e), x the law's own list -/
theorem lb_append (i : Nat) {es : List D} {p2 p3 : Pos} (hs : τ[i]? = some (Sl.ow es)) (h : Pu X e τ d) (h2 : LB X Pt a Gb rest (τ.set i (.ow (es ++ [d]))) Dn) (hl : es.length < 1000)
    (hN : X.N[i]? = some n := by rfl) (hv : Vis X.env.scope n := by first | exact Or.inl rfl | exact Or.inr (Or.inl rfl) | exact Or.inr (Or.inr rfl)) (hd : (n == ("__debug__" : Str)) = false := by decide) (hcd : (n == ("__classdict__" : Str)) = false := by decide)
    (hst : noStar e = true := by rfl)
    (he : PE X (.Call (.Attribute (.Name n p) "append" p2) [e] [] p3) (tBM X.K "list" rAppend (tVar i) (tCons (We X e) tNil)) := by exact pe_bm PySem.F.plainAttrs_list PySem.F.slot_list_append PySem.F.type_list_append mt_append (pv _) (pa_cons pe_we pa_nil))
    (hsw : swapsWith (.Call (.Attribute (.Name n p) "append" p2) [e] [] p3) none pos.line X.env = pure false := by rfl) :
    LB X Pt a Gb (.Expr (.Call (.Attribute (.Name n p) "append" p2) [e] [] p3) pos :: rest) τ Dn := fun G H σ L => by
  obtain ⟨q, us, h1, h3, h4, h5, r⟩ := L.ok.ow i es hs
  refine Wb.of (pss_cons (ps_expr he hsw) pss_wb) ⟨_, h1, Or.inl ⟨rfl, _, SqL.of h3⟩, ?_⟩
  show We X e σ H (fun x H1 => rAppend (V.ref q) [x] H1 fun _ H2 => Wb X rest Dn σ H2)
  refine h hE G H σ L.ok _ fun v G1 H1 g1 r1 => ⟨q, us, v, rfl, rfl, g1.ex _ _ h3, ?_, ?_⟩
  · rw [r.length]; exact Nat.lt_of_lt_of_le hl (by decide)
  · have L1 := L.gr g1
    have g0 : Gr mT hE hE G1 H1 := ⟨(fun b o (z : none = some o) => nomatch z), (fun b o _ (z : none = some o) => nomatch z), g1.gh, (fun b _ z => absurd rfl z), (fun b z => absurd rfl z)⟩
    obtain ⟨g2, k2⟩ := L1.ok.change g0 hs h1 ((r.ex g1.gg).append (.one r1))
    have e1 := g1.ex _ _ h3
    have ne : ∀ b o, H1 b = some o → (∀ xs, o ≠ .lst xs) → upd H1 q (.lst (us ++ [v])) b = some o := fun b o hb n => by
      rw [upd_ne (fun w => by rw [w, e1] at hb; exact n _ (Option.some.inj hb).symm)]; exact hb
    obtain ⟨qs, t1, t2, t3⟩ := L1.tab
    refine h2 G1 _ σ ⟨k2, ⟨qs, ne Pt _ t1 (fun us w => by cases w), t2, fun pos c hc => ?_⟩, L1.gP, L1.gb, L1.s0⟩
    obtain ⟨c', q1, q2⟩ := t3 pos c hc
    exact ⟨c', q1, ne c' _ q2 fun us w => by unfold LamX.CodeO at w; cases w⟩
/-- for x in .., the state told by J -/
theorem lb_for {tg : Expr} {body : List Stmt} {ds : List D} (J : Nat → List Sl → Prop) (hp : PassesOwn (model X.prog X.w) X.A X.env X.xe)
    (hi : ∀ G H σ, LS Pt a Gb G H τ σ → ∀ R : It → Hp → Prop, (∀ I G' H', Gr m0 G H G' H' → ItD I G' ds → R I H') → Wi X tg e σ H R) (h0 : J 0 τ)
    (hs : ∀ i d t, ds[i]? = some d → J i t → ∃ τ1 is, Tg X tg d t τ1 is ∧ 0 ∉ is ∧ ∀ (Gc : Hp) (Dm : Ends), Dm.rt = Dn.rt → (∀ G H t' σ, LS Pt a Gc G H t' σ → J (i + 1) t' → Dm.nx σ H) → LB X Pt a Gc body τ1 Dm)
    (h2 : ∀ t, J ds.length t → LB X Pt a Gb rest t Dn) (hc : X.calm = true := by rfl) (hfs : ∀ x, foldedSetIterable e X.env x = pure x := by intro _; rfl) : LB X Pt a Gb (.For tg e body [] pos :: rest) τ Dn := fun G H σ L => by
  refine Wb.of (pss_cons (ps_for hp hc pi_wi pg_wg pss_wb hfs) pss_wb) (hi G H σ L _ fun I G1 H1 g1 it => ?_)
  have L1 := L.gr g1
  refine ⟨fun i mm σ' H' => mm = ds.length - i ∧ i ≤ ds.length ∧ ∃ G' t, LS Pt a G1 G' H' t σ' ∧ J i t, ⟨_, rfl, Nat.zero_le _, G1, τ, ⟨L1.ok, L1.tab, L1.gP, .refl _, L1.s0⟩, h0⟩, ?_⟩
  rintro i mm σ2 H2 ⟨rfl, hle, G2, t, L2, hj⟩
  by_cases hlt : i < ds.length
  · obtain ⟨d, hd⟩ : ∃ d, ds[i]? = some d := ⟨_, List.getElem?_eq_getElem hlt⟩
    obtain ⟨a1, b1⟩ := it.go i d G2 H2 hd L2.gb L2.ok.ex
    refine .inr ⟨a1, fun σ' H' => ∃ G' t, LS Pt a G1 G' H' t σ' ∧ J (i + 1) t, fun σ' H' w => ⟨ds.length - (i + 1), by omega, rfl, hlt, w⟩, fun x H3 y => ?_⟩
    obtain ⟨G3, g3, r3⟩ := b1 x H3 y
    obtain ⟨τ1, is, ht, hz, hb⟩ := hs i d t hd hj
    have L3 := L2.gr g3
    refine ht hE G3 H3 σ2 x L3.ok r3 _ fun σ4 k4 l4 f4 => ?_
    refine ⟨fun pins s I4 => ?_⟩
    refine thn ((hb G1 ⟨fun σ' H' => ∃ G' t, LS Pt a G1 G' H' t σ' ∧ J (i + 1) t, Dn.rt, fun _ _ => False, fun _ _ => False⟩ rfl (fun G' H' t' σ' w1 w2 => ⟨G', t', w1, w2⟩) G3 H3 σ4 ⟨k4, L3.tab, L3.gP, L3.gb, (f4 0 hz).trans L3.s0⟩) pins s I4) fun f s1 q => sp_mono q (fun _ _ z => z) (fun _ _ z => z) (fun _ _ z => z.elim) (fun _ _ z => z.elim)
  · have e : i = ds.length := by omega
    subst e
    exact .inl ⟨it.stop G2 H2 L2.gb L2.ok.ex, h2 t hj G2 H2 σ2 ⟨L2.ok, L2.tab, L2.gP, L1.gb.trans L2.gb, L2.s0⟩⟩
end
end R87
namespace R87
open PySem PySem.Spec PyProof.Rows L2
def rCatQ (K : PySem.W.Frag) : R2 := fun x y H Q => ∃ l b xs zs, x = .ref l ∧ y = .ref b ∧ SqL K H l xs ∧ SqL K H b zs ∧ xs.length + zs.length ≤ sizeLine ∧ ∀ p, H p = none → Q (.ref p) (upd H p (.lst (xs ++ zs)))
theorem op_catQ {X : Cx} : OpR X (binaryOp .Add) (rCatQ X.K) := by
  intro pins s σ H x y v u Q I rx ry h
  obtain ⟨l, b, xs, zs, rfl, rfl, hH, hB, hz, q⟩ := h
  cases rx
  cases ry
  obtain ⟨its, r, ⟨o, n, e, oc, odi, oda⟩, z1⟩ := I.list hH
  obtain ⟨its2, r2, ⟨o2, n2, e2, oc2, odi2, oda2⟩, z2⟩ := I.list hB
  have hl := r.length
  have hl2 := r2.length
  obtain ⟨c1, d1, t1, sl⟩ := o
  obtain ⟨c2, d2, t2, sl2⟩ := o2
  dsimp only at oc odi oda oc2 odi2 oda2
  subst oc odi oda oc2 odi2 oda2
  have hz' : its.toArray.size + its2.toArray.size ≤ sizeLine := by rw [List.size_toArray, List.size_toArray, ← hl, ← hl2]; exact hz
  refine PySem.concat_meets ⟨_, e, rfl⟩ ⟨_, e2, rfl⟩ noFill_list_add seq_list_add PySem.F.slot_list_add PySem.F.entry_list_add (PySem.F.args_list_add_2 _ _) (PyProof.Rows.list_addW l b its.toArray its2.toArray n n2 none none sl sl2 hz') ⟨e, e2, ?_⟩
  have ea : its.toArray ++ its2.toArray = (its ++ its2).toArray := by simp
  rw [ea]
  exact ⟨.ref _, _, I.lnew (t' := s.toks) (r.append r2) (by rw [List.length_append]; omega), rfl, q _ I.fresh⟩
/-- none or not -/
def isNonD : D → Bool
  | .non => true
  | _ => false
theorem Rp.isNon {G : Hp} {v : V} {d : D} (r : Rp G v d) : decide (v = .non) = isNonD d := by
  cases r <;> first | rfl | exact decide_eq_true rfl | exact decide_eq_false (fun z => by cases z)
section
variable {X : Cx} {τ : List Sl} {e : Expr} {d : D} {pos p : Pos}
theorem pt_isN {j : Nat} (h : Pu X e τ d) : Pt X (.Compare e [.Is] [.Constant .none j p] pos) τ (isNonD d) := fun H0 G H σ k Q q =>
  Wt.of (pt_cmp (pc_isN pe_we)) (h H0 G H σ k _ fun v G1 H1 g1 r1 => ⟨_, rfl, by rw [r1.isNon]; exact q G1 H1 g1⟩)
theorem pt_notN {j : Nat} (h : Pu X e τ d) : Pt X (.Compare e [.IsNot] [.Constant .none j p] pos) τ (!isNonD d) := fun H0 G H σ k Q q =>
  Wt.of (pt_cmp (pc_notN pe_we)) (h H0 G H σ k _ fun v G1 H1 g1 r1 => ⟨_, rfl, by rw [r1.isNon]; exact q G1 H1 g1⟩)
end
/-- behind a deed's making -/
theorem Ok.deed {G H G' H' : Hp} {τ : List Sl} {σ : L2.St} {i kk kk' : Nat} {b : Addr} (k : Ok hE G H τ σ) (hs : τ[i]? = some (Sl.sr b kk)) (g : Gr (fun c => c = b ∨ ∃ qs, H c = some (.tbl qs)) G H G' H') (gb : G' b = none) (sk : Sk b kk' H') : Ok hE G' H' (τ.set i (.sr b kk')) σ := by
  obtain ⟨s1, s2, s3⟩ := k.sr i b kk hs
  have hi : i < τ.length := (List.getElem?_eq_some_iff.mp hs).1
  refine ⟨g.gh, by rw [List.length_set]; exact k.len, fun j d h => ?_, fun j ds h => ?_, fun j l ds es p n h1 h2 => ?_, fun j c n h => ?_, fun j l ds c n h1 h2 => ?_, fun j l c c' n n' h1 h2 => ?_⟩
  · rcases set_at h with ⟨z, w, _⟩ | ⟨_, h⟩
    · cases w
    · obtain ⟨v, e1, r1⟩ := k.sh j d h
      exact ⟨v, e1, r1.ex g.gg⟩
  · rcases set_at h with ⟨z, w, _⟩ | ⟨_, h⟩
    · cases w
    · obtain ⟨p, us, e1, e2, e3, e4, r⟩ := k.ow j ds h
      refine ⟨p, us, e1, g.hh p _ (fun z => ?_) e2, g.fr p e3 (by rw [e2]; exact fun z => by cases z), rfl, r.ex g.gg⟩
      rcases z with z | ⟨qs, z⟩
      · rw [z] at e1
        exact k.aq j i ds b kk h hs e1
      · rw [e2] at z; cases z
  · rcases set_at h1 with ⟨_, w, _⟩ | ⟨_, h1⟩
    · cases w
    · rcases set_at h2 with ⟨_, w, _⟩ | ⟨_, h2⟩
      · cases w
      · exact k.ap j l ds es p n h1 h2
  · rcases set_at h with ⟨z, w, _⟩ | ⟨z, h⟩
    · cases w
      rw [← z]
      exact ⟨s1, gb, sk⟩
    · exact absurd (k.su i j b c kk n hs h) z
  · rcases set_at h1 with ⟨_, w, _⟩ | ⟨_, h1⟩
    · cases w
    · rcases set_at h2 with ⟨z, w, _⟩ | ⟨z, h2⟩
      · cases w
        exact k.aq j i ds b kk h1 hs
      · exact k.aq j l ds c n h1 h2
  · rcases set_at h1 with ⟨z1, w, _⟩ | ⟨z1, h1⟩
    · rcases set_at h2 with ⟨z2, w, _⟩ | ⟨z2, h2⟩
      · rw [← z1, ← z2]
      · exact absurd (k.su i l b c' kk n' hs h2) z2
    · exact absurd (k.su i j b c kk n hs h1) z1
section
variable {X : Cx} {Pt a : Addr} {Gb : Hp} {τ : List Sl} {Dn : Ends} {rest : List Stmt}
theorem lb_deed {CD CS CT CN b : Addr} {so : Srts} {kd : Knds} {cs : List Str} {ls : Lgs} {js : List Jn} {kk k0 : Nat} {es : List Expr} {p1 p2 p3 p4 p5 p6 p7 p8 p9 q1 q2 q3 : Pos} (c1 : Cal X.prog X.w X.K X.mg X.base CX0 5 "_law_done" (spDone X.prog X.w X.K X.mg X.base CD CS CT CN Pt)) (c2 : Cal X.prog X.w X.K X.mg X.base CX0 10 "_law_told" (spTold X.prog X.w X.K X.mg X.base CT CN)) (hr : Room 10 X.A)
    (V : VD so kd cs ls js) (hs : τ[1]? = some (Sl.sr b kk)) (hk : kk + 700 ≤ lineB) (ha : Pa X es τ [sosD so, kdsD kd, drD CD CS so kd cs ls js, dnD cs ls js])
    (k : ∀ d res kk', r_done CD CS CT CN so kd d res → kk' ≤ kk + 700 → LB X Pt a Gb rest ((((τ.set 1 (.sr b kk')).set 8 .no).set 9 (.sh d)).set 10 (.sh (toldD res))) Dn)
    (hl : 8 < τ.length) (hst : es.all noStar = true := by rfl) (hN : X.N.Nodup := by assumption) (n1 : X.N[1]? = some ("_law_source" : Str) := by rfl) (n8 : X.N[8]? = some ("_law_deed" : Str) := by rfl) (n9 : X.N[9]? = some ("_law_due" : Str) := by rfl) (n10 : X.N[10]? = some ("_law_found" : Str) := by rfl) (x1 : Loc X.env.scope "_law_source" := by exact Or.inl rfl) (x8 : Loc X.env.scope "_law_deed" := by exact Or.inl rfl) (x9 : Loc X.env.scope "_law_due" := by exact Or.inl rfl) (x10 : Loc X.env.scope "_law_found" := by exact Or.inl rfl)
    (v1 : Vis X.env.scope "_law_source" := by exact Or.inl rfl) (v8 : Vis X.env.scope "_law_deed" := by exact Or.inl rfl) (l8 : X.env.scope.names.lookup ("_law_deed" : Str) = some NameKind.local := by rfl) (l9 : X.env.scope.names.lookup ("_law_due" : Str) = some NameKind.local := by rfl) (l10 : X.env.scope.names.lookup ("_law_found" : Str) = some NameKind.local := by rfl)
    (g1 : Gl X "_law_done" := by rfl) (g2 : Gl X "_law_told" := by rfl) (hc : X.calm = true := by rfl) (hs1 : swapsWithSole [.Tuple [.Name "_law_deed" p1, .Name "_law_due" p2] k0 p3] (.Call (.Name "_law_done" p4) (.Name "_law_source" p5 :: es) [] p6) p7.line X.env = pure false := by rfl)
    (hw : swappedStores [.Tuple [.Name "_law_deed" p1, .Name "_law_due" p2] k0 p3] (.Call (.Name "_law_done" p4) (.Name "_law_source" p5 :: es) [] p6) X.env = pure none := by rfl) (hs2 : swapsWith (.Call (.Name "_law_told" p9) [.Name "_law_deed" q1] [] q2) (some (.Name "_law_found" p8)) q3.line X.env = pure false := by rfl) :
    LB X Pt a Gb (.Assign [.Tuple [.Name "_law_deed" p1, .Name "_law_due" p2] k0 p3] (.Call (.Name "_law_done" p4) (.Name "_law_source" p5 :: es) [] p6) p7 :: .Assign [.Name "_law_found" p8] (.Call (.Name "_law_told" p9) [.Name "_law_deed" q1] [] q2) q3 :: rest) τ Dn := fun G H σ L => by
  obtain ⟨f, fd, ps, F, hm, hkp, hb⟩ := c1.ex
  obtain ⟨f2, fd2, ps2, F2, hm2, hkp2, hb2⟩ := c2.ex
  obtain ⟨s1, s2, s3⟩ := L.ok.sr 1 b kk hs
  refine Wb.of (pss_cons (ps_asg (pe_call F (hr.mono (by decide)) g1 hm hkp hb .nil pass0 (pa_cons (pe_var n1 v1) pa_wa) (by decide) rfl (plain_args hst)) (pg_tup hc (pgs_cons (pg_name hN n8 x8 (.inr l8)) (pgs_cons (pg_name hN n9 x9 (.inr l9)) pgs_nil))) hs1 hw)
    (pss_cons (ps_set hN n10 x10 (pe_call F2 (hr.mono (by decide)) g2 hm2 hkp2 hb2 .nil pass0 (pa_cons (pe_var n8 v8) pa_nil) (by decide) rfl rfl) hs2 (.inr l10)) pss_wb)) ⟨_, s1, ha hE G H σ L.ok _ fun us G1 H1 gr1 r1 => ?_⟩
  have L1 := L.gr gr1
  obtain ⟨t1, t2, t3⟩ := L1.ok.sr 1 b kk hs
  show spDone X.prog X.w X.K X.mg X.base CD CS CT CN Pt ((L2.V.ref b :: us) ++ []) H1 _ E0
  rw [List.append_nil]
  refine ⟨b, us, kk, G1, so, kd, cs, ls, js, rfl, L1.ok.ex, t2, t3, hk, r1, V, L1.gP, L1.tab, fun v H2 d res kk' hkk hd ⟨⟨G2, f3, T, u, gr2, ev, hT, ru, hf, tb, gb, sk, dr⟩⟩ => ?_⟩
  subst ev
  have k2 := L1.ok.deed hs gr2 gb sk
  refine ⟨T, [.ref f3, u], rfl, SqT.of hT, rfl, .ref f3, [u], rfl, u, [], rfl, rfl, ?_⟩
  have L2' : LS Pt a Gb G2 H2 (((τ.set 1 (.sr b kk')).set 8 .no).set 9 (.sh d)) ((σ.set 8 (some (.ref f3))).set 9 (some u)) :=
    ⟨k2.setNo.setSh ru, tb, gr2.fr Pt L1.gP L1.np, L1.gb.trans gr2.gg, by rw [List.getElem?_set_ne (by decide), List.getElem?_set_ne (by decide)]; exact L1.s0⟩
  have s8 : ((σ.set 8 (some (L2.V.ref f3))).set 9 (some u))[8]? = some (some (.ref f3)) := by
    rw [List.getElem?_set_ne (by decide)]
    refine List.getElem?_set_self ?_
    rw [← L.ok.len]; exact hl
  refine ⟨.ref f3, s8, ?_⟩
  show spTold X.prog X.w X.K X.mg X.base CT CN [.ref f3] H2 _ E0
  obtain ⟨ps3, body, sc, cl, c', hf⟩ := hf
  refine ⟨f3, G2, res, rfl, gr2.gh, ⟨_, _, _, _, _, _, hf⟩, dr, fun C hC => ?_, fun v G3 H3 gr3 rv => ?_⟩
  · rcases hd with ⟨_, _, _, _, _, e⟩ | ⟨_, C', h, e⟩
    · rw [e] at hC; cases hC
    · rw [e] at hC; cases hC; exact h
  · exact k d res kk' hd hkk G3 H3 _ ((L2'.gr gr3).set rv (by decide))
end
end R87
namespace R87
open PySem PySem.Spec PyProof.Rows L2
open PySem.W (Tup T4 T3 DatumOrd Datum)
section
variable {Pt a : Addr} {Gb G H : Hp} {τ τ' : List Sl} {σ : L2.St}
theorem LS.le (L : LS Pt a Gb G H τ σ) (l : Le τ' τ) : LS Pt a Gb G H τ' σ := ⟨L.ok.le l, L.tab, L.gP, L.gb, L.s0⟩
end
section
variable {X : Cx} {Pt a : Addr} {Gb : Hp} {τ τ' : List Sl} {Dn Dm : Ends} {rest : List Stmt} {e : Expr}
theorem LB.le {sts : List Stmt} (h : LB X Pt a Gb sts τ' Dn) (l : Le τ' τ) : LB X Pt a Gb sts τ Dn := fun G H σ L => h G H σ (L.le l)
theorem lb_end (h : LB X Pt a Gb rest τ Dn) (hnx : ∀ σ H, Wb X rest Dn σ H → Dm.nx σ H) : LB X Pt a Gb [] τ Dm := lb_nil fun G H σ L => hnx σ H (h G H σ L)
/-- return e, a list of one's own handed out -/
theorem lb_retO (i : Nat) {ds : List D} {d : D} {pos : Pos} (h : τ[i]? = some (Sl.ow ds)) (hp : Pu X e (τ.set i (.sh (.lst ds))) d) (q : ∀ v G H, Rp G v d → Dn.rt v H) : LB X Pt a Gb (.Return (some e) pos :: rest) τ Dn := fun G H σ L => by
  obtain ⟨G2, g2, k2⟩ := L.ok.share (m := mT) (i := i) (G0 := hE) (H0 := hE) ⟨(fun b o (z : none = some o) => nomatch z), (fun b o _ (z : none = some o) => nomatch z), L.ok.ex, (fun b _ z => absurd rfl z), (fun b z => absurd rfl z)⟩ h
  exact Wb.of (pss_cons (ps_ret pe_we) pss_wb) (hp hE G2 H σ k2 _ fun v G3 H3 g3 r3 => q v G3 H3 r3)
theorem pi_we {tg : Expr} {ds : List D} {G H : Hp} {σ : L2.St} (h : ∀ Q : VK, (∀ v G' H', Gr m0 G H G' H' → Rp G' v (.lst ds) → Q v H') → We X e σ H Q) : ∀ R : It → Hp → Prop, (∀ I G' H', Gr m0 G H G' H' → ItD I G' ds → R I H') → Wi X tg e σ H R := fun R q =>
  Wi.of (pi_list pe_we) (h _ fun v G1 H1 g1 r1 => by
    cases r1 with
    | lst h1 r1 =>
      refine ⟨_, rfl, ⟨_, SqL.of (g1.gh _ _ h1)⟩, q _ G1 H1 g1 ⟨fun i d G2 H2 hi e1 e2 => ?_, fun G2 H2 e1 e2 => ?_⟩⟩
      · obtain ⟨v, hv, rv⟩ := r1.get hi
        refine ⟨⟨_, v, SqL.of (e2 _ _ (e1 _ _ h1)), hv⟩, fun x H3 ⟨z, y⟩ => ?_⟩
        subst z
        have := y _ (SqL.of (e2 _ _ (e1 _ _ h1)))
        rw [hv] at this; cases this
        exact ⟨G2, .refl e2, rv.ex e1⟩
      · exact ⟨_, SqL.of (e2 _ _ (e1 _ _ h1)), Nat.le_of_eq r1.length⟩)
/-- the script's first number, or three -/
theorem pu_first {ns : List Int} {p1 p2 p3 p4 p5 p6 : Pos} {k1 k2 : Nat} (hS : SqL X.K Gb a (ns.map V.int)) (h63 : ns.length ≤ 63) (hN : X.N[0]? = some ("_law_script" : Str)) (hv : Vis X.env.scope ("_law_script" : Str)) : ∃ z, PuL X Pt a Gb (.Subscript (.BinOp (.Name "_law_script" p1) .Add (.List [.Constant (.int 3) k1 p2] p3) p4) (.Constant (.int 0) k2 p5) p6) τ (.int z) := by
  obtain ⟨z, zs, ez⟩ : ∃ z zs, ns ++ [3] = z :: zs := by
    cases ns with
    | nil => exact ⟨3, [], rfl⟩
    | cons n ns => exact ⟨n, ns ++ [3], rfl⟩
  refine ⟨z, fun G H σ L Q q => We.of (pe_ix ix_list (pe_op op_catQ (pe_var hN hv) pe_we) pe_int (by exact fun _ _ => rfl)) ⟨.ref a, L.s0, (nu_lst (pas_cons pu_int pas_nil) (show 1 ≤ 1000 by decide)) hE G H σ L.ok _ fun p us G1 H1 g1 h1 h2 h3 r => ?_⟩⟩
  cases r with
  | cons r1 r2 =>
    cases r1; cases r2
    refine ⟨a, p, _, _, rfl, rfl, (hS.ext (L.gb.trans g1.gg)).ext g1.gh, SqL.of h3, Nat.le_trans (show _ ≤ 1000 by rw [List.length_map]; show ns.length + 1 ≤ 1000; omega) (by decide), fun t ht => ?_⟩
    have e : ns.map V.int ++ [V.int 3] = V.int z :: zs.map V.int := by
      have := congrArg (List.map V.int) ez
      rwa [List.map_append] at this
    rw [e]
    exact ⟨t, _, 0, .int z, rfl, rfl, SqL.of upd_same, atI_nat (j := 0) rfl, q _ G1 _ (g1.trans (.newO g1.gh ht)) (.int z)⟩
/-- what the law walks -/
theorem pu_walk {ns : List Int} {e : Expr} {p1 p2 p3 p4 p5 p6 : Pos} {k1 k2 : Nat} (hS : SqL X.K Gb a (ns.map V.int)) (h63 : ns.length ≤ 63) (hN : X.N[0]? = some ("_law_script" : Str)) (hv : Vis X.env.scope ("_law_script" : Str)) (he : Nu X e τ ([1, 4, 9].map D.int)) :
    ∃ zs : List Int, zs.length ≤ 100 ∧ PuL X Pt a Gb (.BinOp e .Add (.Subscript (.Name "_law_script" p1) (.Slice (some (.Constant (.int 1) k1 p2)) (some (.Constant (.int 15) k2 p3)) none p4) p5) p6) τ (.lst (zs.map D.int)) := by
  obtain ⟨ms, em, hl⟩ : ∃ ms : List Int, cutV (ns.map V.int) (some 1) (some 15) = ms.map V.int ∧ ms.length ≤ 63 := by
    refine ⟨(ns.drop (HT.sIx (ns.map V.int).length 0 (some 1))).take (HT.sIx (ns.map V.int).length (ns.map V.int).length (some 15) - HT.sIx (ns.map V.int).length 0 (some 1)), ?_, ?_⟩
    · unfold cutV
      rw [List.map_take, List.map_drop]
    · rw [List.length_take, List.length_drop]; omega
  refine ⟨[1, 4, 9] ++ ms, by rw [List.length_append]; show 3 + ms.length ≤ 100; omega, fun G H σ L Q q => We.of (pe_op op_catQ pe_we (pe_slice sl_list (pe_var hN hv) (po_some pe_int) (po_some pe_int))) (he hE G H σ L.ok _ fun p us G1 H1 g1 h1 h2 h3 r => ?_)⟩
  refine ⟨.ref a, L.s0, ⟨1, rfl, ⟨15, rfl, a, _, rfl, (hS.ext (L.gb.trans g1.gg)).ext g1.gh, fun t ht => ?_⟩⟩⟩
  rw [em]
  have g2 := g1.trans (.newO (o := .lst (ms.map V.int)) g1.gh ht)
  have hu : us.length = 3 := r.length
  refine ⟨p, t, us, _, rfl, rfl, SqL.of (by rw [upd_ne (ne_of_none h3 ht)]; exact h3), SqL.of upd_same, Nat.le_trans (show _ ≤ 1000 by rw [List.length_map]; omega) (by decide), fun w hw => ?_⟩
  have gw := g2.gh.back hw
  have g3 := (g2.trans (.newO (o := .lst (us ++ ms.map V.int)) g2.gh hw)).known gw (g2.ex.back hw) upd_same
  refine q _ _ _ g3 (.lst upd_same ?_)
  rw [List.map_append]
  exact ((r.append (rpa_ints ms)).ex (.new gw))
end
abbrev lN : List Str := ["_law_script", "_law_source", "_law_sorts", "_law_kinds", "_law_drawn", "_law_drawing_here", "_law_ahead", "_law_cell", "_law_deed", "_law_due", "_law_found", "_law_some", "_law_at", "_law_one_here", "_law_two"]
abbrev Dn3 := T3 (List Str) Lgs (List Jn)
def ahD (CD CS : Addr) (so : Srts) (kd : Knds) (T : Dn3) : D := .tup [drD CD CS so kd T.a T.b T.c, dnD T.a T.b T.c]
def lT (CD CS : Addr) (so : Srts) (kd : Knds) (cs : List Str) (ls : Lgs) (js : List Jn) (xs : List Dn3) : List Sl := [.no, .no, .sh (sosD so), .sh (kdsD kd), .sh (dnD cs ls js), .sh (drD CD CS so kd cs ls js), .ow (xs.map (ahD CD CS so kd)), .no, .no, .no, .no, .no, .no, .no, .no]
def forB : Stmt → List Stmt
  | .For _ _ b _ _ => b
  | _ => []
/-- how a Stock is made -/
structure MkS (P : Program) (w : World) (K : PySem.W.Frag) (mg : Str → Option Value) (base : Heap) (CS : Addr) : Prop where
  ex : ∃ g fd ps, Mk K CS g ∧ FnOk P w K mg base CX0 4 g fd ps (spI CS ri_stock) ∧ Binds K fd ps []
  nm : mg "Stock" = some (.ref CS)
section
variable {P : Program} {w : World} {K : PySem.W.Frag} {mg : Str → Option Value} {base : Heap}
theorem pu_stockI {X : Cx} {τ : List Sl} {e1 e2 : Expr} {pos p : Pos} {CS : Addr} {so : Srts} {kd : Knds} {k : Nat} (M : MkS X.prog X.w X.K X.mg X.base CS) (hr : Room (k + 1) X.A) (V : VS so kd) (ha : Pa X [e1, e2] τ [sosD so, kdsD kd]) (hk : 5 ≤ k + 1 := by decide) (hg : Gl X "Stock" := by rfl) (hs : [e1, e2].all noStar = true := by rfl) :
    Pu X (.Call (.Name "Stock" p) [e1, e2] [] pos) τ (stD CS so kd) := by
  obtain ⟨g, fd, ps, M1, F, hb⟩ := M.ex
  exact pu_make M1 F hr M.nm hb ⟨so, kd, rfl, V.s, V.k, rfl⟩ ha hk hg (by decide) hs
def spLaw (K : PySem.W.Frag) (Pt : Addr) : Sp := fun vs H Q _ => ∃ (s : Addr) (ns : List Int), vs = [.ref s] ∧ H Pt = some (.tbl #[]) ∧ SqL K H s (ns.map V.int) ∧ ns.length ≤ 63 ∧ ∀ H', Q (.bl true) H'
theorem ok_law (B : Bf mg) {CD CS CT CN Pt : Addr} (SC : ClsI K CD) (nD : mg "Drawing" = some (.ref CD)) (MS : MkS P w K mg base CS) (c1 : Cal P w K mg base CX0 1 "_law_source_of" (spNu r_src)) (c2 : Cal P w K mg base CX0 4 "_law_stock" (spZ 150 p_stock r_stock)) (c3 : Cal P w K mg base CX0 4 "_law_drawing" (spZ 500 p_drawing r_drawing))
    (c4 : CalP P w K mg base 7 "_law_made" (r_lmade CD CS)) (c5 : Cal P w K mg base CX0 5 "_law_done" (spDone P w K mg base CD CS CT CN Pt)) (c6 : Cal P w K mg base CX0 10 "_law_told" (spTold P w K mg base CT CN)) (c7 : CalP P w K mg base 2 "_law_parts" r_lparts) (c8 : CalP P w K mg base 8 "parts" (r_parts CD CS))
    (c9 : Cal P w K mg base CX0 1 "_law_next" sp_next) (d1 : CalP P w K mg base 9 "_law_right" (r_lright CD CS)) (d2 : CalP P w K mg base 1 "_law_of" (r_lof CD CS)) {f : Addr} {fd : FuncData} (F : Fun K "law" "law" s_law f fd) : FnOk P w K mg base CX0 11 f fd ["_law_script"] (spLaw K Pt) := by
  have hN : (lN).Nodup := by decide
  refine F.ok (N := lN) (C8.fnScope_by (by decide +kernel)) (fun vs H Q E ⟨_, _, e, _⟩ => by rw [e]; rfl) fun cdv A outer s H vs Q E hr ⟨a, ns, e, hT, hS, h63, hQ⟩ => ?_
  subst e
  let X := (cxOf CX0 P w K mg base lN "law" (defScope s_law) f cdv A outer s H E).nox
  obtain ⟨G0, ex0, sq0, gP0⟩ : ∃ G0 : Hp, Ex G0 H ∧ SqL K G0 a (ns.map V.int) ∧ G0 Pt = none := by
    rcases hS with h | h
    · refine ⟨fun b => if b = a then H b else none, fun b o e => ?_, .inl ?_, if_neg fun z => ?_⟩
      · by_cases z : b = a
        · have e : (if b = a then H b else none) = some o := e
          rwa [if_pos z] at e
        · have e : (if b = a then H b else none) = some o := e
          rw [if_neg z] at e; cases e
      · rcases h with h | ⟨o, h⟩
        · exact .inl (by show (if a = a then H a else none) = _; rw [if_pos rfl]; exact h)
        · exact .inr ⟨o, by show (if a = a then H a else none) = _; rw [if_pos rfl]; exact h⟩
      · rw [z] at hT
        rcases h with h | ⟨o, h⟩
        · rw [hT] at h; cases h
        · rw [hT] at h; cases h
    · exact ⟨hE, fun b o (z : none = some o) => (nomatch z), .inr h, rfl⟩
  have L0 : LS Pt a G0 G0 H (List.replicate 15 .no) (L2.start lN [.ref a]) := ⟨(ok_no (σ := L2.start lN [.ref a]) ex0).toE, LamX.TabS.nil hT, gP0, .refl _, rfl⟩
  suffices key : LB X Pt a G0 (defBody s_law) (List.replicate 15 .no) { nx := fun _ H' => Q .non H', rt := Q } from ⟨_, pss_wb, key G0 H _ L0⟩
  obtain ⟨z0, hz0⟩ : ∃ z, PuL X Pt a G0 (.Subscript (.BinOp (.Name "_law_script" ⟨482, 34, 482, 45⟩) .Add (.List [.Constant (.int 3) 0 ⟨482, 49, 482, 50⟩] ⟨482, 48, 482, 51⟩) ⟨482, 34, 482, 51⟩) (.Constant (.int 0) 0 ⟨482, 53, 482, 54⟩) ⟨482, 33, 482, 55⟩) (List.replicate 15 .no) (.int z) := pu_first sq0 h63 rfl (.inl rfl)
  refine lb_src 1 c1 hr hz0 (fun b => ?_) (fun j a k h z => by
    rw [List.getElem?_replicate] at z
    split at z <;> cases z)
  refine lb_unpackE ⟨1, 0, rfl⟩ (ef_draw 1 c2 hr ⟨_, _, rfl⟩ (ea_pa (pas_cons pu_int pas_nil) ⟨rfl, b, 0, rfl, rfl, (by show _ ≤ 1000000; omega), fun d hR => ?_⟩))
  obtain ⟨so, kd, V, rfl⟩ := hR
  refine ⟨_, _, tg_tup (ds := [sosD so, kdsD kd]) (tgs_cons (tg_name 2 hN) (tgs_cons (tg_name 3 hN) tgs_nil)), by decide, ?_⟩
  refine lb_setE 4 ⟨1, _, rfl⟩ (ef_draw 1 c3 hr ⟨_, _, rfl⟩ (ea_pa (pas_cons (pu_var 2 rfl) (pas_cons (pu_var 3 rfl) (pas_cons pu_int pas_nil))) ⟨⟨so, kd, 3, rfl, V, by omega⟩, b, _, rfl, rfl, (by show _ ≤ 1000000; omega), fun d hR => ?_⟩))
  obtain ⟨so', kd', most, cs, ls, js, e2, VV, _, rfl⟩ := hR
  injection e2 with e2 e3
  injection e3 with e3 _
  obtain rfl := sos_inj e2
  obtain rfl := kds_inj e3
  refine lb_set 5 (pu_call c4 hr ⟨so, kd, cs, ls, js, rfl, VV, rfl⟩ (pas_cons (pu_stockI MS hr V (pas_cons (pu_var 2 rfl) (pas_cons (pu_var 3 rfl) pas_nil))) (pas_cons (pu_var 4 rfl) pas_nil))) ?_
  refine lb_setO 6 (ds := [(⟨cs, ls, js⟩ : Dn3)].map (ahD CD CS so kd)) (nu_lst (pas_cons (pu_tup (pas_cons (pu_var 5 rfl) (pas_cons (pu_var 4 rfl) pas_nil))) pas_nil) (show 1 ≤ 1000 by decide)) ?_
  refine LB.le (τ' := lT CD CS so kd cs ls js [⟨cs, ls, js⟩]) ?_ (.no (.no (.eq (.eq (.eq (.eq (.eq (.no (.no (.no (.no (.no (.no (.no (.no .nil)))))))))))))))
  obtain ⟨zs, zl, hzs⟩ : ∃ zs : List Int, zs.length ≤ 100 ∧ PuL X Pt a G0 _ (lT CD CS so kd cs ls js [⟨cs, ls, js⟩]) (.lst (zs.map D.int)) := pu_walk (e := .List [.Constant (.int 1) 0 ⟨487, 22, 487, 23⟩, .Constant (.int 4) 0 ⟨487, 25, 487, 26⟩, .Constant (.int 9) 0 ⟨487, 28, 487, 29⟩] ⟨487, 21, 487, 30⟩) (p1 := ⟨487, 33, 487, 44⟩) (p2 := ⟨487, 45, 487, 46⟩) (p3 := ⟨487, 47, 487, 49⟩) (p4 := ⟨487, 45, 487, 49⟩) (p5 := ⟨487, 33, 487, 50⟩) (p6 := ⟨487, 21, 487, 50⟩) (k1 := 0) (k2 := 0) sq0 h63 rfl (.inl rfl)
    (nu_lst (pas_cons pu_int (pas_cons pu_int (pas_cons pu_int pas_nil))) (show 3 ≤ 1000 by decide))
  refine lb_for (ds := zs.map D.int) (fun i t => ∃ (cs : List Str) (ls : Lgs) (js : List Jn) (xs : List Dn3), VD so kd cs ls js ∧ xs.length ≤ i + 1 ∧ t = lT CD CS so kd cs ls js xs) PassesOwn.never (fun G H σ L => pi_we (hzs G H σ L)) ⟨cs, ls, js, _, VV, Nat.le_refl _, rfl⟩ (fun i d t hd ⟨cs, ls, js, xs, V', hxl, et⟩ => ?_) (fun t ⟨cs, ls, js, xs, V', hxl, et⟩ => ?_)
  · subst et
    clear VV
    have hi : i < zs.length := by
      have := (List.getElem?_eq_some_iff.1 hd).1
      rwa [List.length_map] at this
    rw [List.getElem?_map] at hd
    obtain ⟨z, hz, rfl⟩ := Option.map_eq_some_iff.1 hd
    refine ⟨_, _, tg_name 7 hN, by decide, fun Gc Dm hrt hnx => ?_⟩
    have tail : ∀ (cs : List Str) (ls : Lgs) (js : List Jn) (xs : List Dn3), VD so kd cs ls js → xs.length ≤ i + 1 + 1 → LB X Pt a Gc ((forB ((defBody s_law).getD 5 (.Pass ⟨0, 0, 0, 0⟩))).drop 5) (lT CD CS so kd cs ls js xs) Dm := fun cs ls js xs V hx => by
      obtain ⟨q1, q2, q3, q4, q5, q6⟩ := V.right
      refine lb_ifF ?_ ?_
      · exact (pt_nt (t := true) (pu_call d1 hr ⟨so, kd, cs, ls, js, rfl, V, V.vp, q1, q2, q3, q4, q5, q6, rfl⟩ (pas_cons (pu_var 5 rfl) (pas_cons (pu_var 4 rfl) pas_nil))))
      · exact (lb_nil fun G H σ L => hnx G H _ σ L ⟨cs, ls, js, xs, V, hx, rfl⟩)
    refine lb_src 1 c1 hr (pu_var 7 rfl).l (fun b => ?_) (fun j a k h w => ?_)
    · refine lb_deed c5 c6 hr V' rfl (by show _ ≤ 1000000; omega) (pas_cons (pu_var 2 rfl) (pas_cons (pu_var 3 rfl) (pas_cons (pu_var 5 rfl) (pas_cons (pu_var 4 rfl) pas_nil)))) (fun d res kk hd hk => ?_) (by show 8 < 15; decide)
      rcases hd with ⟨cs2, ls2, js2, V2, rfl, rfl⟩ | ⟨rfl, C, hC, rfl⟩
      · refine lb_ifF ((pw_or' (pw_and' (pt_isN (pu_var 9 rfl)) (fun z => by cases z)).pt fun _ => pw_or1' (pw_and' (pt_notN (pu_var 9 rfl)) fun _ => pw_and1' (pt_not' (t := true) (pt_pu (pu_isC SC B.isinstance nD (pu_var 10 rfl))))).pt).pt.is (show (isNonD (dnD cs2 ls2 js2) && true || (!isNonD (dnD cs2 ls2 js2)) && !true) = false by rfl)) ?_
        refine lb_if (pt_notN (pu_var 9 rfl)) (fun _ Dm2 hrt2 hnx2 => ?_) (fun z => by cases z)
        refine lb_par 5 4 (pas_cons (pu_var 10 rfl) (pas_cons (pu_var 9 rfl) pas_nil)) ?_ (by rfl)
        obtain ⟨q1, q2, q3, q4, q5, q6⟩ := V2.right
        refine lb_set 11 (pu_call c7 hr ⟨cs2, ls2, js2, rfl, V2.vp, q2, rfl⟩ (pas_cons (pu_var 4 rfl) pas_nil)) ?_
        let gs := groupsF (cs2.length + ls2.length) js2
        have gl : (gs.map (lprtD cs2 ls2 js2)).length = gs.length := List.length_map ..
        have fin : ∀ (cs : List Str) (ls : Lgs) (js : List Jn) (τ : List Sl), VD so kd cs ls js → Le [.no, .no, .sh (sosD so), .sh (kdsD kd), .sh (dnD cs ls js), .sh (drD CD CS so kd cs ls js), .ow (xs.map (ahD CD CS so kd)), .no, .no, .no, .no, .no, .no, .no, .no] τ → LB X Pt a Gc ((ifBody ((forB ((defBody s_law).getD 5 (.Pass ⟨0, 0, 0, 0⟩))).getD 4 (.Pass ⟨0, 0, 0, 0⟩))).drop 3 ++ []) τ Dm2 := fun cs ls js τ V hle => by
          refine LB.le ?_ hle
          refine lb_append 6 rfl (pu_tup (pas_cons (pu_var 5 rfl) (pas_cons (pu_var 4 rfl) pas_nil))) (lb_end (LB.le (tail cs ls js (xs ++ [⟨cs, ls, js⟩]) V (by rw [List.length_append]; show xs.length + 1 ≤ _; omega)) ?_) hnx2) (by rw [List.length_map]; omega)
          have e6 : (xs ++ [(⟨cs, ls, js⟩ : Dn3)]).map (ahD CD CS so kd) = xs.map (ahD CD CS so kd) ++ [.tup [drD CD CS so kd cs ls js, dnD cs ls js]] := by rw [List.map_append]; rfl
          unfold lT
          rw [e6]
          exact Le.refl _
        refine lb_if (pw_and' (pt_gt (pu_lenL B.len (pu_ixT (k := 0) (d := csD cs2) (pu_var 4 rfl) pu_int rfl)) pu_int) fun _ => pw_and1' (pt_gt (pu_lenL B.len (pu_var 11 rfl)) pu_int)).pt (fun hb Dm3 hrt3 hnx3 => ?_) (fun _ => fin cs2 ls2 js2 _ V2 ?_)
        · rw [gl] at hb
          have h1 : 1 < gs.length := by
            rw [Bool.and_eq_true] at hb
            have := of_decide_eq_true hb.2
            omega
          have hgl : gs.length ≤ 1000 := by
            show (groupsF (cs2.length + ls2.length) js2).length ≤ 1000
            rw [V2.rows]
            unfold clss
            rw [List.length_map]
            have h7 := sset_len (marksF (cs2.length + ls2.length) js2)
            rw [marksF_len] at h7
            have := V2.c.l6
            have := V2.l.l6
            omega
          refine lb_setE 12 ⟨1, _, rfl⟩ (ef_draw 1 c9 hr ⟨_, _, rfl⟩ (ea_pa (pas_cons (pu_lenL B.len (pu_var 11 rfl)) pas_nil) ⟨⟨_, rfl, by rw [gl]; omega, by rw [gl]; exact hgl⟩, b, _, rfl, rfl, (by show _ ≤ 1000000; omega), fun d hR => ?_⟩))
          obtain ⟨many, r, e5, hr5, rfl⟩ := hR
          have er : r < gs.length := by
            injection e5 with e5 _
            injection e5 with e5
            rw [gl] at e5
            omega
          obtain ⟨ps, hps⟩ : ∃ ps, gs[r]? = some ps := ⟨_, List.getElem?_eq_getElem er⟩
          have hps2 : (clss (marksF (cs2.length + ls2.length) js2))[r]? = some ps := by rw [← V2.rows]; exact hps
          have V3 := V2.part (clss_rw V2 (List.mem_of_getElem? hps2))
          refine lb_par 5 4 (d1 := prtD CD CS so kd cs2 ls2 js2 ps) (d2 := lprtD cs2 ls2 js2 ps) (pas_cons (pu_ixL (k := r) (pu_call c8 hr ⟨so, kd, cs2, ls2, js2, rfl, V2, V2.vp, q1, rfl⟩ (pas_cons (pu_var 5 rfl) pas_nil)) (pu_var 12 rfl) (by rw [List.getElem?_map, hps2]; rfl)) (pas_cons (pu_ixL (k := r) (pu_var 11 rfl) (pu_var 12 rfl) (by rw [List.getElem?_map, hps]; rfl)) pas_nil)) ?_ (by rfl)
          refine lb_end (fin _ _ _ _ V3 ?_) hnx3
          exact .no (.no (.eq (.eq (.eq (.eq (.eq (.no (.no (.no (.no (.no (.no (.no (.no .nil))))))))))))))
        · exact .no (.no (.eq (.eq (.eq (.eq (.eq (.no (.no (.no (.no (.no (.no (.no (.no .nil))))))))))))))
      · refine lb_ifF ((pw_or' (pw_and' (pt_isN (pu_var 9 rfl)) fun _ => pw_and1' (pt_notN (pu_var 10 rfl))).pt fun _ => pw_or1' (pw_and' (t := true) (pt_notN (pu_var 9 rfl)) (fun z => by cases z)).pt).pt.is (by rfl)) ?_
        refine lb_if (pt_notN (pu_var 9 rfl)) (fun z => by cases z) (fun _ => ?_)
        refine LB.le (tail cs ls js xs V' (by omega)) ?_
        exact .no (.no (.eq (.eq (.eq (.eq (.eq (.no (.no (.no (.no (.no (.no (.no (.no .nil))))))))))))))
    · match j, h, w with
      | 0, h, w => cases w
      | 1, h, w => exact h rfl
      | 2, h, w => cases w
      | 3, h, w => cases w
      | 4, h, w => cases w
      | 5, h, w => cases w
      | 6, h, w => cases w
      | 7, h, w => cases w
      | 8, h, w => cases w
      | 9, h, w => cases w
      | 10, h, w => cases w
      | 11, h, w => cases w
      | 12, h, w => cases w
      | 13, h, w => cases w
      | 14, h, w => cases w
      | n + 15, h, w => cases w
  · subst et
    have xl : xs.length ≤ 1000 := by rw [List.length_map] at hxl; omega
    refine lb_retO 6 (ds := xs.map (ahD CD CS so kd)) (d := .bl true) rfl (pu_allT (xs := xs) B.all ((nu_map2 [("_law_one_here", 13), ("_law_two", 14)] 13 14 xs (fun T : Dn3 => drD CD CS so kd T.a T.b T.c) (fun T : Dn3 => dnD T.a T.b T.c) (fun _ => D.bl true) (pi_lst (pu_var 6 rfl)) (fun T hT s H C cl fp => ?_) (hl := xl) (hN := hN)))) (fun v G H' r => ?_)
    · exact (pu_eqT T T hr ((pu_call d2 hr ⟨so, kd, T.a, T.b, T.c, rfl, rfl⟩ (pas_cons (pu_var 13 rfl) pas_nil)).is (d' := En.e T) rfl) (pu_var 14 rfl)).is (by rw [decide_eq_true rfl])
    · cases r
      exact hQ H'
end
end R87
namespace R87
open PySem PySem.Spec PyProof.Rows L2 R87H
structure Hd (K : PySem.W.Frag) (mg : Str → Option Value) (h : Heap) : Prop where
  X : K.In h
  G : h.Ns mainGlobals mg
  c : He.SaysD fa fn K
  x : exB K = true
theorem funD_fun {K : PySem.W.Frag} {x qual : Str} {st : Stmt} {f : Addr} {fd : FuncData} (F : FunD K x qual (defArgs st) (defBody st) (defScope st) [] [] f fd) : Fun K x qual st f fd := by
  obtain ⟨⟨oc, od, dV, kV, doc, pm, an, cdv, ct, osl, e, lk, hcd, hD, hK⟩, kp⟩ := F
  rcases hD with ⟨_, e2⟩ | ⟨e2, _⟩
  · subst e2
    exact ⟨⟨oc, od, kV, doc, pm, an, cdv, ct, osl, e, lk, hcd⟩, kp⟩
  · exact absurd rfl e2
section
variable {P : Program} {w : World} {K : PySem.W.Frag} {mg : Str → Option Value} {base h : Heap}
theorem fun_at {d : He.DefD} {nm ql : Str} {st : Stmt} {at_ : Str × Option Str} (A : Hd K mg h) (i : Nat) (hd : d = ⟨at_, nm, ql, defArgs st, defBody st, defScope st, [], []⟩) (hi : fn[i]? = some d := by rfl) : ∃ fd, Fun K nm ql st (He.fAd K at_) fd := by
  subst hd
  obtain ⟨fd, F⟩ := A.c.def_ i hi
  exact ⟨fd, funD_fun F⟩
theorem cal_of {CX : CXT} {d : He.DefD} {x nm ql : Str} {st : Stmt} {k : Nat} {sp : Sp} {ps : List Str} (A : Hd K mg h) (i j : Nat) (hd : d = ⟨(x, none), nm, ql, defArgs st, defBody st, defScope st, [], []⟩) (hok : ∀ f fd, Fun K nm ql st f fd → FnOk P w K mg base CX k f fd ps sp)
    (hb : ∀ (kV doc pm : Value) (an : Option Addr) (cdv ct : Value) (us : List Value), us.length = ps.length → bindArgs (PySem.W.fnOf nm ql (defArgs st) (defBody st) (defScope st) .none kV doc pm an cdv ct) ⟨us, []⟩ = pure (ps.zip us)) (hi : fn[i]? = some d := by rfl) (hj : fa[j]? = some (.glo x) := by rfl) : Cal P w K mg base CX k x sp := by
  obtain ⟨fd, F⟩ := fun_at A i hd hi
  exact ⟨_, fd, ps, hok _ _ F, He.glo_ok A.X A.G (A.c.fact j hj), F.kp, F.binds hb⟩
theorem tB (A : Hd K mg h) : Bf mg := ⟨He.free_ok A.X A.G (A.c.fact 0), He.free_ok A.X A.G (A.c.fact 1), He.free_ok A.X A.G (A.c.fact 2), He.free_ok A.X A.G (A.c.fact 3), He.free_ok A.X A.G (A.c.fact 4), He.free_ok A.X A.G (A.c.fact 5), He.free_ok A.X A.G (A.c.fact 6), He.free_ok A.X A.G (A.c.fact 7), He.free_ok A.X A.G (A.c.fact 8), He.free_ok A.X A.G (A.c.fact 9), He.free_ok A.X A.G (A.c.fact 10), He.free_ok A.X A.G (A.c.fact 11), He.free_ok A.X A.G (A.c.fact 12), He.free_ok A.X A.G (A.c.fact 13), He.free_ok A.X A.G (A.c.fact 15), He.free_ok A.X A.G (A.c.fact 14), He.str_ok A.X A.G (A.c.fact 103), He.int_ok A.X A.G (A.c.fact 102)⟩
theorem gS (A : Hd K mg h) : mg "Stock" = some (.ref (He.ga K "Stock")) := He.glo_ok A.X A.G (A.c.fact 83)
theorem gD (A : Hd K mg h) : mg "Drawing" = some (.ref (He.ga K "Drawing")) := He.glo_ok A.X A.G (A.c.fact 87)
theorem tS (A : Hd K mg h) : StF K (He.ga K "Stock") := ⟨He.cls_ok (A.c.fact 84), He.noat_ok (A.c.fact 91), He.noat_ok (A.c.fact 92)⟩
theorem tD (A : Hd K mg h) : DrF K (He.ga K "Drawing") := ⟨He.cls_ok (A.c.fact 88), He.noat_ok (A.c.fact 93), He.noat_ok (A.c.fact 94), He.noat_ok (A.c.fact 95), He.noat_ok (A.c.fact 96)⟩
theorem clsB_ok {C : Addr} (c : Cls K C) (e : clsB K C = true) : ClsI K C := by
  obtain ⟨h1, e⟩ := He.ba e
  obtain ⟨h2, e⟩ := He.ba e
  obtain ⟨h3, h4⟩ := He.ba e
  exact ⟨c, He.eqO_ok h1, He.eqO_ok h2, of_decide_eq_true h3, of_decide_eq_true h4⟩
theorem excB_ok {C : Addr} (e : excB K C = true) : ExcC K C := by
  obtain ⟨h1, e⟩ := He.ba e
  obtain ⟨h2, e⟩ := He.ba e
  obtain ⟨h3, e⟩ := He.ba e
  obtain ⟨h4, e⟩ := He.ba e
  obtain ⟨g1, e⟩ := He.ba e
  obtain ⟨g2, e⟩ := He.ba e
  obtain ⟨g3, g4⟩ := He.ba e
  exact ⟨He.eqO_ok h1, He.eqO_ok h2, of_decide_eq_true h3, h4, He.eqO_ok g1, He.eqO_ok g2, of_decide_eq_true g3, of_decide_eq_true g4⟩
theorem ex_ok (A : Hd K mg h) : ClsI K (He.ga K "Stock") ∧ ClsI K (He.ga K "Drawing") ∧ ExcC K (He.ga K "TooMany") ∧ ExcC K (He.ga K "NoJoin") ∧ PySem.W.kitAny K (.ref (He.ga K "TooMany")) [.ref (He.ga K "NoJoin"), .ref (He.ga K "TooMany")] = some true ∧ PySem.W.kitAny K (.ref (He.ga K "NoJoin")) [.ref (He.ga K "NoJoin"), .ref (He.ga K "TooMany")] = some true := by
  have e := A.x
  obtain ⟨h1, e⟩ := He.ba e
  obtain ⟨h2, e⟩ := He.ba e
  obtain ⟨h3, e⟩ := He.ba e
  obtain ⟨h4, e⟩ := He.ba e
  obtain ⟨h5, h6⟩ := He.ba e
  exact ⟨clsB_ok (tS A).cl h1, clsB_ok (tD A).cl h2, excB_ok h3, excB_ok h4, of_decide_eq_true h5, of_decide_eq_true h6⟩
theorem tCI (A : Hd K mg h) : ClsI K (He.ga K "Stock") := (ex_ok A).1
theorem tCD (A : Hd K mg h) : ClsI K (He.ga K "Drawing") := (ex_ok A).2.1
theorem tTM (A : Hd K mg h) : ExF K mg "TooMany" (He.ga K "TooMany") := let ⟨q, k, b, t⟩ := He.exc_ok (A.c.fact 104); ⟨He.glo_ok A.X A.G (A.c.fact 97), q, k, b, t⟩
theorem tNJ (A : Hd K mg h) : ExF K mg "NoJoin" (He.ga K "NoJoin") := let ⟨q, k, b, t⟩ := He.exc_ok (A.c.fact 105); ⟨He.glo_ok A.X A.G (A.c.fact 99), q, k, b, t⟩
theorem tER (A : Hd K mg h) : ErrF K mg (He.ga K "EndError") (He.ga K "TooMany") (He.ga K "NoJoin") := ⟨He.glo_ok A.X A.G (A.c.fact 101), He.glo_ok A.X A.G (A.c.fact 97), He.glo_ok A.X A.G (A.c.fact 99), fun C h => h.elim (fun e => by rw [e]; exact He.exm_ok (A.c.fact 98)) (fun e => by rw [e]; exact He.exm_ok (A.c.fact 100)), fun C h => h.elim (fun e => by rw [e]; exact (ex_ok A).2.2.1) (fun e => by rw [e]; exact (ex_ok A).2.2.2.1), fun C h => h.elim (fun e => by rw [e]; exact (ex_ok A).2.2.2.2.1) (fun e => by rw [e]; exact (ex_ok A).2.2.2.2.2)⟩
theorem t_is_name (A : Hd K mg h) : Cal P w K mg base CX0 1 "is_name" ((spP r_name)) := cal_of (d := d_is_name) (st := s_is_name) A 1 17 rfl (fun f fd F => ok_is_name (tB A) F) (fun _ _ _ _ _ _ us hl => match us, hl with | [_], _ => rfl)
theorem t_is_sort_row (A : Hd K mg h) : Cal P w K mg base CX0 2 "is_sort_row" ((spP r_row)) := cal_of (d := d_is_sort_row) (st := s_is_sort_row) A 2 18 rfl (fun f fd F => ok_is_sort_row (tB A) (t_is_name A) F) (fun _ _ _ _ _ _ us hl => match us, hl with | [_], _ => rfl)
theorem t_are_sorts (A : Hd K mg h) : Cal P w K mg base CX0 3 "are_sorts" ((spP r_sorts)) := cal_of (d := d_are_sorts) (st := s_are_sorts) A 3 19 rfl (fun f fd F => ok_are_sorts (tB A) (t_is_sort_row A) F) (fun _ _ _ _ _ _ us hl => match us, hl with | [_], _ => rfl)
theorem t_is_kind_row (A : Hd K mg h) : Cal P w K mg base CX0 2 "is_kind_row" ((spP r_krow)) := cal_of (d := d_is_kind_row) (st := s_is_kind_row) A 4 20 rfl (fun f fd F => ok_is_kind_row (tB A) (t_is_name A) F) (fun _ _ _ _ _ _ us hl => match us, hl with | [_, _], _ => rfl)
theorem t_are_kinds (A : Hd K mg h) : Cal P w K mg base CX0 3 "are_kinds" ((spP r_kinds)) := cal_of (d := d_are_kinds) (st := s_are_kinds) A 5 21 rfl (fun f fd F => ok_are_kinds (tB A) (t_is_kind_row A) F) (fun _ _ _ _ _ _ us hl => match us, hl with | [_, _], _ => rfl)
theorem tMS (A : Hd K mg h) : MkS P w K mg base (He.ga K "Stock") := by
  obtain ⟨fd, F⟩ := fun_at (d := d_Stock_init) (st := s_Stock_init) A 6 rfl
  exact ⟨⟨_, fd, _, He.mkr_ok (A.c.fact 85), ok_Stock_init (tB A) (tS A) (t_are_sorts A) (t_are_kinds A) F, F.binds (fun _ _ _ _ _ _ us hl => match us, hl with | [_, _, _], _ => rfl)⟩, gS A⟩
theorem t_law_source_of (A : Hd K mg h) : Cal P w K mg base CX0 1 "_law_source_of" ((spNu r_src)) := cal_of (d := d_law_source_of) (st := s_law_source_of) A 42 54 rfl (fun f fd F => ok_law_source_of (tB A) F) (fun _ _ _ _ _ _ us hl => match us, hl with | [_], _ => rfl)
theorem t_law_next (A : Hd K mg h) : Cal P w K mg base CX0 1 "_law_next" (sp_next) := cal_of (d := d_law_next) (st := s_law_next) A 43 55 rfl (fun f fd F => ok_law_next F) (fun _ _ _ _ _ _ us hl => match us, hl with | [_, _], _ => rfl)
theorem t_law_one (A : Hd K mg h) : Cal P w K mg base CX0 2 "_law_one" ((spZ 1 p_one r_one)) := cal_of (d := d_law_one) (st := s_law_one) A 44 56 rfl (fun f fd F => ok_law_one (tB A) (t_law_next A) F) (fun _ _ _ _ _ _ us hl => match us, hl with | [_, _], _ => rfl)
theorem t_law_names (A : Hd K mg h) : Cal P w K mg base CX0 3 "_law_names" ((spZ 60 p_names r_names')) := cal_of (d := d_law_names) (st := s_law_names) A 45 57 rfl (fun f fd F => ok_law_names (tB A) (t_law_next A) (t_law_one A) F) (fun _ _ _ _ _ _ us hl => match us, hl with | [_, _], _ => rfl)
theorem t_law_stock (A : Hd K mg h) : Cal P w K mg base CX0 4 "_law_stock" ((spZ 150 p_stock r_stock)) := cal_of (d := d_law_stock) (st := s_law_stock) A 46 58 rfl (fun f fd F => ok_law_stock (tB A) (t_law_next A) (t_law_one A) (t_law_names A) F) (fun _ _ _ _ _ _ us hl => match us, hl with | [_, _], _ => rfl)
theorem t_law_mixedStr (A : Hd K mg h) : Cal P w K mg base CX0 2 "_law_mixed" (spZ 100 (p_mix Str) r_mix) := cal_of (d := d_law_mixed) (st := s_law_mixed) A 49 61 rfl (fun f fd F => ok_law_mixed (by decide) (tB A) (t_law_next A) F) (fun _ _ _ _ _ _ us hl => match us, hl with | [_, _], _ => rfl)
theorem t_law_mixedNat (A : Hd K mg h) : Cal P w K mg base CX0 2 "_law_mixed" (spZ 100 (p_mix Nat) r_mix) := cal_of (d := d_law_mixed) (st := s_law_mixed) A 49 61 rfl (fun f fd F => ok_law_mixed (by decide) (tB A) (t_law_next A) F) (fun _ _ _ _ _ _ us hl => match us, hl with | [_, _], _ => rfl)
theorem t_law_mixedEn2 (A : Hd K mg h) : Cal P w K mg base CX0 2 "_law_mixed" (spZ 100 (p_mix En2) r_mix) := cal_of (d := d_law_mixed) (st := s_law_mixed) A 49 61 rfl (fun f fd F => ok_law_mixed (by decide) (tB A) (t_law_next A) F) (fun _ _ _ _ _ _ us hl => match us, hl with | [_, _], _ => rfl)
theorem t_law_paired (A : Hd K mg h) : Cal P w K mg base CX0 3 "_law_paired" ((spZ 300 p_pair r_pair)) := cal_of (d := d_law_paired) (st := s_law_paired) A 50 62 rfl (fun f fd F => ok_law_paired (tB A) (t_law_mixedEn2 A) F) (fun _ _ _ _ _ _ us hl => match us, hl with | [_, _, _], _ => rfl)
theorem t_law_ends (A : Hd K mg h) : Cal P w K mg base CX0 1 "_law_ends" ((spP r_lends)) := cal_of (d := d_law_ends) (st := s_law_ends) A 47 59 rfl (fun f fd F => ok_law_ends (tB A) F) (fun _ _ _ _ _ _ us hl => match us, hl with | [_, _, _], _ => rfl)
theorem t_law_lacking (A : Hd K mg h) : Cal P w K mg base CX0 1 "_law_lacking" ((spP r_lack)) := cal_of (d := d_law_lacking) (st := s_law_lacking) A 48 60 rfl (fun f fd F => ok_law_lacking (tB A) F) (fun _ _ _ _ _ _ us hl => match us, hl with | [_, _], _ => rfl)
theorem t_law_drawing (A : Hd K mg h) : Cal P w K mg base CX0 4 "_law_drawing" ((spZ 500 p_drawing r_drawing)) := cal_of (d := d_law_drawing) (st := s_law_drawing) A 51 63 rfl (fun f fd F => ok_law_drawing (tB A) (t_law_next A) (t_law_one A) (t_law_names A) (t_law_mixedStr A) (t_law_paired A) (t_law_ends A) (t_law_lacking A) F) (fun _ _ _ _ _ _ us hl => match us, hl with | [_, _, _, _], _ => rfl)
theorem t_is_kind (A : Hd K mg h) : Cal P w K mg base CX0 1 "is_kind" ((spP (r_is_kind (He.ga K "Stock")))) := cal_of (d := d_is_kind) (st := s_is_kind) A 9 23 rfl (fun f fd F => ok_is_kind (tB A) (tS A) F) (fun _ _ _ _ _ _ us hl => match us, hl with | [_, _], _ => rfl)
theorem t_are_corners (A : Hd K mg h) : Cal P w K mg base CX0 2 "are_corners" ((spP (r_corners (He.ga K "Stock")))) := cal_of (d := d_are_corners) (st := s_are_corners) A 12 26 rfl (fun f fd F => ok_are_corners (tB A) (t_is_kind A) F) (fun _ _ _ _ _ _ us hl => match us, hl with | [_, _], _ => rfl)
theorem t_is_sort (A : Hd K mg h) : Cal P w K mg base CX0 1 "is_sort" ((spP (r_is_sort (He.ga K "Stock")))) := cal_of (d := d_is_sort) (st := s_is_sort) A 8 22 rfl (fun f fd F => ok_is_sort (tB A) (tS A) F) (fun _ _ _ _ _ _ us hl => match us, hl with | [_, _], _ => rfl)
theorem t_is_leg (A : Hd K mg h) : Cal P w K mg base CX0 2 "is_leg" ((spP (r_leg (He.ga K "Stock")))) := cal_of (d := d_is_leg) (st := s_is_leg) A 13 27 rfl (fun f fd F => ok_is_leg (tB A) (t_is_name A) (t_is_sort A) F) (fun _ _ _ _ _ _ us hl => match us, hl with | [_, _], _ => rfl)
theorem t_are_legs (A : Hd K mg h) : Cal P w K mg base CX0 3 "are_legs" ((spP (r_legs (He.ga K "Stock")))) := cal_of (d := d_are_legs) (st := s_are_legs) A 14 28 rfl (fun f fd F => ok_are_legs (tB A) (t_is_leg A) F) (fun _ _ _ _ _ _ us hl => match us, hl with | [_, _], _ => rfl)
theorem t_sure_corners (A : Hd K mg h) : Cal P w K mg base CX0 4 "sure_corners" ((spP (r_sure (He.ga K "Stock")))) := cal_of (d := d_sure_corners) (st := s_sure_corners) A 15 29 rfl (fun f fd F => ok_sure_corners (t_are_corners A) (t_are_legs A) F) (fun _ _ _ _ _ _ us hl => match us, hl with | [_, _, _], _ => rfl)
theorem t_is_whole_stocks (A : Hd K mg h) : Cal P w K mg base CX0 1 "is_whole_stocks" ((spP r_whole)) := cal_of (d := d_is_whole_stocks) (st := s_is_whole_stocks) A 0 16 rfl (fun f fd F => ok_is_whole (tB A) F) (fun _ _ _ _ _ _ us hl => match us, hl with | [_, _, _], _ => rfl)
theorem t_partner_of (A : Hd K mg h) : Cal P w K mg base CX0 1 "partner_of" ((spP (r_partner (He.ga K "Stock")))) := cal_of (d := d_partner_of) (st := s_partner_of) A 10 24 rfl (fun f fd F => ok_partner_of (tB A) (tS A) F) (fun _ _ _ _ _ _ us hl => match us, hl with | [_, _], _ => rfl)
theorem t_is_join (A : Hd K mg h) : Cal P w K mg base CX0 2 "is_join" ((spP (r_join (He.ga K "Stock")))) := cal_of (d := d_is_join) (st := s_is_join) A 17 31 rfl (fun f fd F => ok_is_join (tB A) (t_is_whole_stocks A) (t_is_sort A) (t_partner_of A) F) (fun _ _ _ _ _ _ us hl => match us, hl with | [_, _], _ => rfl)
theorem t_ends_of (A : Hd K mg h) : Cal P w K mg base CX0 1 "ends_of" ((spP (r_ends_of (He.ga K "Stock")))) := cal_of (d := d_ends_of) (st := s_ends_of) A 11 25 rfl (fun f fd F => ok_ends_of (tB A) (tS A) F) (fun _ _ _ _ _ _ us hl => match us, hl with | [_, _], _ => rfl)
theorem t_ends_there (A : Hd K mg h) : Cal P w K mg base CX0 2 "ends_there" ((spP (r_there (He.ga K "Stock")))) := cal_of (d := d_ends_there) (st := s_ends_there) A 16 30 rfl (fun f fd F => ok_ends_there (tB A) (t_ends_of A) F) (fun _ _ _ _ _ _ us hl => match us, hl with | [_, _, _], _ => rfl)
theorem t_are_joins (A : Hd K mg h) : Cal P w K mg base CX0 3 "are_joins" ((spP (r_joins (He.ga K "Stock")))) := cal_of (d := d_are_joins) (st := s_are_joins) A 18 32 rfl (fun f fd F => ok_are_joins (tB A) (t_is_join A) (t_ends_there A) F) (fun _ _ _ _ _ _ us hl => match us, hl with | [_, _, _, _], _ => rfl)
theorem tMD (A : Hd K mg h) : MkD P w K mg base (He.ga K "Stock") (He.ga K "Drawing") := by
  obtain ⟨fd, F⟩ := fun_at (d := d_Drawing_init) (st := s_Drawing_init) A 19 rfl
  exact ⟨⟨_, fd, _, He.mkr_ok (A.c.fact 89), ok_Drawing_init (tB A) (tD A) (t_sure_corners A) (t_are_joins A) F, F.binds (fun _ _ _ _ _ _ us hl => match us, hl with | [_, _, _, _, _], _ => rfl)⟩, gD A⟩
theorem t_law_made (A : Hd K mg h) : Cal P w K mg base CX0 7 "_law_made" ((spP (r_lmade (He.ga K "Drawing") (He.ga K "Stock")))) := cal_of (d := d_law_made) (st := s_law_made) A 60 72 rfl (fun f fd F => ok_law_made (tB A) (tMD A) F) (fun _ _ _ _ _ _ us hl => match us, hl with | [_, _], _ => rfl)
theorem t_law_inner (A : Hd K mg h) : Cal P w K mg base CX0 1 "_law_inner" ((spP r_linner)) := cal_of (d := d_law_inner) (st := s_law_inner) A 55 67 rfl (fun f fd F => ok_law_inner (tB A) F) (fun _ _ _ _ _ _ us hl => match us, hl with | [_], _ => rfl)
theorem t_law_fresh (A : Hd K mg h) : Cal P w K mg base CX0 1 "_law_fresh" ((spP r_lfresh)) := cal_of (d := d_law_fresh) (st := s_law_fresh) A 65 77 rfl (fun f fd F => ok_law_fresh (tB A) F) (fun _ _ _ _ _ _ us hl => match us, hl with | [_], _ => rfl)
theorem t_law_less (A : Hd K mg h) : Cal P w K mg base CX0 1 "_law_less" ((spP r_less)) := cal_of (d := d_law_less) (st := s_law_less) A 56 68 rfl (fun f fd F => ok_law_less F) (fun _ _ _ _ _ _ us hl => match us, hl with | [_, _], _ => rfl)
theorem t_law_cut_of (A : Hd K mg h) : Cal P w K mg base CX0 2 "_law_cut_of" ((spP r_lcut)) := cal_of (d := d_law_cut_of) (st := s_law_cut_of) A 62 74 rfl (fun f fd F => ok_law_cut_of (tB A) (t_law_less A) F) (fun _ _ _ _ _ _ us hl => match us, hl with | [_, _, _, _], _ => rfl)
theorem t_law_end_at (A : Hd K mg h) : Cal P w K mg base CX0 1 "_law_end_at" ((spP r_lend)) := cal_of (d := d_law_end_at) (st := s_law_end_at) A 63 75 rfl (fun f fd F => ok_law_end_at (tB A) F) (fun _ _ _ _ _ _ us hl => match us, hl with | [_, _], _ => rfl)
theorem t_law_sewn (A : Hd K mg h) : Cal P w K mg base CX0 2 "_law_sewn" ((spP r_lsewn)) := cal_of (d := d_law_sewn) (st := s_law_sewn) A 64 76 rfl (fun f fd F => ok_law_sewn (tB A) (t_law_end_at A) F) (fun _ _ _ _ _ _ us hl => match us, hl with | [_, _, _], _ => rfl)
theorem t_law_sewn_or_not (A : Hd K mg h) : Cal P w K mg base CX0 3 "_law_sewn_or_not" ((spP r_lson)) := cal_of (d := d_law_sewn_or_not) (st := s_law_sewn_or_not) A 66 78 rfl (fun f fd F => ok_law_sewn_or_not (tB A) (t_law_end_at A) (t_law_sewn A) F) (fun _ _ _ _ _ _ us hl => match us, hl with | [_, _, _, _], _ => rfl)
theorem t_law_both (A : Hd K mg h) : Cal P w K mg base CX0 1 "_law_both" ((spP r_lboth)) := cal_of (d := d_law_both) (st := s_law_both) A 52 64 rfl (fun f fd F => ok_law_both (tB A) F) (fun _ _ _ _ _ _ us hl => match us, hl with | [_, _], _ => rfl)
theorem t_law_moved (A : Hd K mg h) : Cal P w K mg base CX0 1 "_law_moved" ((spP r_lmoved)) := cal_of (d := d_law_moved) (st := s_law_moved) A 53 65 rfl (fun f fd F => ok_law_moved (tB A) F) (fun _ _ _ _ _ _ us hl => match us, hl with | [_, _, _, _], _ => rfl)
theorem t_joined (A : Hd K mg h) : Cal P w K mg base CX0 1 "joined" ((spP r_joined)) := cal_of (d := d_joined) (st := s_joined) A 21 33 rfl (fun f fd F => ok_joined (tB A) F) (fun _ _ _ _ _ _ us hl => match us, hl with | [_, _], _ => rfl)
theorem t_moved_joins (A : Hd K mg h) : Cal P w K mg base CX0 2 "moved_joins" ((spP r_moved)) := cal_of (d := d_moved_joins) (st := s_moved_joins) A 22 34 rfl (fun f fd F => ok_moved_joins (tB A) (t_joined A) F) (fun _ _ _ _ _ _ us hl => match us, hl with | [_, _], _ => rfl)
theorem t_places_by (A : Hd K mg h) : Cal P w K mg base CX0 1 "places_by" ((spP (r_places (He.ga K "Drawing") (He.ga K "Stock")))) := cal_of (d := d_places_by) (st := s_places_by) A 23 35 rfl (fun f fd F => ok_places_by (tB A) (tD A) F) (fun _ _ _ _ _ _ us hl => match us, hl with | [_, _], _ => rfl)
theorem t_renamed (A : Hd K mg h) : Cal P w K mg base CX0 7 "renamed" ((spP (r_renamed (He.ga K "Drawing") (He.ga K "Stock")))) := cal_of (d := d_renamed) (st := s_renamed) A 24 36 rfl (fun f fd F => ok_renamed (tB A) (tD A) (tMD A) (t_is_whole_stocks A) (t_moved_joins A) (t_places_by A) F) (fun _ _ _ _ _ _ us hl => match us, hl with | [_, _], _ => rfl)
theorem t_inner_joins (A : Hd K mg h) : Cal P w K mg base CX0 1 "inner_joins" ((spP (r_inner (He.ga K "Drawing") (He.ga K "Stock")))) := cal_of (d := d_inner_joins) (st := s_inner_joins) A 31 43 rfl (fun f fd F => ok_inner_joins (tB A) (tD A) F) (fun _ _ _ _ _ _ us hl => match us, hl with | [_], _ => rfl)
theorem t_are_names (A : Hd K mg h) : Cal P w K mg base CX0 2 "are_names" ((spP (r_names (He.ga K "Drawing") (He.ga K "Stock")))) := cal_of (d := d_are_names) (st := s_are_names) A 36 48 rfl (fun f fd F => ok_are_names (tB A) (tD A) (t_is_name A) F) (fun _ _ _ _ _ _ us hl => match us, hl with | [_, _], _ => rfl)
theorem t_named_joinsN (A : Hd K mg h) : Cal P w K mg base CX0 1 "named_joins" ((spNu (r_namedN (He.ga K "Drawing") (He.ga K "Stock")))) := cal_of (d := d_named_joins) (st := s_named_joins) A 38 50 rfl (fun f fd F => ok_named_joinsN (tB A) (tD A) F) (fun _ _ _ _ _ _ us hl => match us, hl with | [_, _], _ => rfl)
theorem t_without (A : Hd K mg h) : Cal P w K mg base CX0 1 "without" ((spP r_less)) := cal_of (d := d_without) (st := s_without) A 32 44 rfl (fun f fd F => ok_without F) (fun _ _ _ _ _ _ us hl => match us, hl with | [_, _], _ => rfl)
theorem t_with_legs (A : Hd K mg h) : Cal P w K mg base CX0 7 "with_legs" ((spP (r_with (He.ga K "Drawing") (He.ga K "Stock")))) := cal_of (d := d_with_legs) (st := s_with_legs) A 37 49 rfl (fun f fd F => ok_with_legs (tB A) (tD A) (tMD A) (t_joined A) F) (fun _ _ _ _ _ _ us hl => match us, hl with | [_, _, _], _ => rfl)
theorem t_cut (A : Hd K mg h) : Cal P w K mg base (L2.CX P w) 8 "cut" ((spR (r_cut (He.ga K "Drawing") (He.ga K "Stock")) (x_cut (He.ga K "TooMany") (He.ga K "Drawing") (He.ga K "Stock")))) := cal_of (d := d_cut) (st := s_cut) A 39 51 rfl (fun f fd F => ok_cut (tB A) (tD A) (tTM A) (t_is_join A) (t_inner_joins A) (t_are_names A) (t_named_joinsN A) (t_without A) (t_partner_of A) (t_with_legs A) F) (fun _ _ _ _ _ _ us hl => match us, hl with | [_, _, _], _ => rfl)
theorem t_named_joins (A : Hd K mg h) : Cal P w K mg base CX0 1 "named_joins" ((spP (r_named (He.ga K "Drawing") (He.ga K "Stock")))) := cal_of (d := d_named_joins) (st := s_named_joins) A 38 50 rfl (fun f fd F => ok_named_joins (tB A) (tD A) F) (fun _ _ _ _ _ _ us hl => match us, hl with | [_, _], _ => rfl)
theorem t_far_end (A : Hd K mg h) : Cal P w K mg base CX0 1 "far_end" ((spP r_far)) := cal_of (d := d_far_end) (st := s_far_end) A 40 52 rfl (fun f fd F => ok_far_end F) (fun _ _ _ _ _ _ us hl => match us, hl with | [_, _], _ => rfl)
theorem t_join_legs (A : Hd K mg h) : Cal P w K mg base (L2.CX P w) 8 "join_legs" ((spR (r_sew (He.ga K "Drawing") (He.ga K "Stock")) (x_sew (He.ga K "NoJoin") (He.ga K "Drawing") (He.ga K "Stock")))) := cal_of (d := d_join_legs) (st := s_join_legs) A 41 53 rfl (fun f fd F => ok_join_legs (tB A) (tD A) (tNJ A) (t_is_name A) (t_named_joins A) (t_far_end A) (t_partner_of A) (t_with_legs A) F) (fun _ _ _ _ _ _ us hl => match us, hl with | [_, _, _], _ => rfl)
theorem tEq (A : Hd K mg h) : StEq P w K mg base (He.ga K "Stock") := by
  obtain ⟨fd, F⟩ := fun_at (d := d_Stock_eq) (st := s_Stock_eq) A 7 rfl
  obtain ⟨m1, m2, m3⟩ := He.meth_ok (A.c.fact 86)
  exact ⟨_, fd, _, ok_Stock_eq (tB A) (tS A) (tCI A) (gS A) F, m1, m2, F.binds (fun _ _ _ _ _ _ us hl => match us, hl with | [_, _], _ => rfl)⟩
theorem t_beside (A : Hd K mg h) : Cal P w K mg base (L2.CX P w) 7 "beside" ((spR (r_beside (He.ga K "Drawing") (He.ga K "Stock")) (x_beside (He.ga K "TooMany") (He.ga K "Drawing") (He.ga K "Stock")))) := cal_of (d := d_beside) (st := s_beside) A 25 37 rfl (fun f fd F => ok_beside (tB A) (tD A) (tMD A) (tEq A) (tTM A) (t_moved_joins A) F) (fun _ _ _ _ _ _ us hl => match us, hl with | [_, _], _ => rfl)
theorem t_law_done (A : Hd K mg h) (TB : LamX.TabB base mg (He.cT K ("_law_done", none)).1 (He.cT K ("_law_done", none)).2) : Cal P w K mg base CX0 5 "_law_done" ((spDone P w K mg base (He.ga K "Drawing") (He.ga K "Stock") (He.ga K "TooMany") (He.ga K "NoJoin") (He.cT K ("_law_done", none)).2)) := by
  obtain ⟨fd, F0⟩ := A.c.def_ 67 (d := d_law_done) rfl
  have F1 : Fun K "_law_done" "_law_done" s_law_done (He.fAd K ("_law_done", none)) fd := funD_fun F0
  have F : FunL K mg base "_law_done" "_law_done" s_law_done (He.fAd K ("_law_done", none)) fd (He.cT K ("_law_done", none)).2 := by
    obtain ⟨⟨oc, od, kV, doc, pm, an, cdv, ct, osl, e, lk, hcd⟩, kp⟩ := F1
    obtain ⟨cc, rfl⟩ := He.codeIn_ref hcd
    have ec : He.codeOf K ("_law_done", none) = cc := He.codeOf_eq lk (by rw [e])
    refine ⟨⟨oc, od, kV, doc, pm, an, cc, ct, osl, e, lk, hcd, ?_⟩⟩
    rw [← ec]
    exact TB
  exact ⟨_, fd, _, ok_law_done (tB A) (tD A) (t_law_next A) (t_law_one A) (t_law_mixedStr A) (t_law_mixedNat A) (t_law_drawing A) (t_law_inner A) (t_law_fresh A) (t_law_cut_of A) (t_law_sewn_or_not A) (t_law_both A) (t_law_moved A) (t_law_made A) (t_renamed A) (t_cut A) (t_join_legs A) (t_beside A) F, He.glo_ok A.X A.G (A.c.fact 79), F1.kp, F1.binds (fun _ _ _ _ _ _ us hl => match us, hl with | [_, _, _, _, _], _ => rfl)⟩
theorem t_law_told (A : Hd K mg h) : Cal P w K mg base CX0 10 "_law_told" ((spTold P w K mg base (He.ga K "TooMany") (He.ga K "NoJoin"))) := cal_of (d := d_law_told) (st := s_law_told) A 68 80 rfl (fun f fd F => ok_law_told (tB A) (tER A) F) (fun _ _ _ _ _ _ us hl => match us, hl with | [_], _ => rfl)
theorem t_law_groups (A : Hd K mg h) : Cal P w K mg base CX0 1 "_law_groups" ((spP r_groups)) := cal_of (d := d_law_groups) (st := s_law_groups) A 54 66 rfl (fun f fd F => ok_law_groups (tB A) F) (fun _ _ _ _ _ _ us hl => match us, hl with | [_, _], _ => rfl)
theorem t_law_parts (A : Hd K mg h) : Cal P w K mg base CX0 2 "_law_parts" ((spP r_lparts)) := cal_of (d := d_law_parts) (st := s_law_parts) A 61 73 rfl (fun f fd F => ok_law_parts (tB A) (t_law_groups A) F) (fun _ _ _ _ _ _ us hl => match us, hl with | [_], _ => rfl)
theorem t_marks_by (A : Hd K mg h) : Cal P w K mg base CX0 1 "marks_by" ((spP r_marks)) := cal_of (d := d_marks_by) (st := s_marks_by) A 26 38 rfl (fun f fd F => ok_marks_by (tB A) F) (fun _ _ _ _ _ _ us hl => match us, hl with | [_, _], _ => rfl)
theorem t_all_marks (A : Hd K mg h) : Cal P w K mg base CX0 2 "all_marks" ((spP (r_amarks (He.ga K "Drawing") (He.ga K "Stock")))) := cal_of (d := d_all_marks) (st := s_all_marks) A 27 39 rfl (fun f fd F => ok_all_marks (tB A) (tD A) (t_marks_by A) F) (fun _ _ _ _ _ _ us hl => match us, hl with | [_, _], _ => rfl)
theorem t_part_of (A : Hd K mg h) : Cal P w K mg base CX0 7 "part_of" ((spP (r_part (He.ga K "Drawing") (He.ga K "Stock")))) := cal_of (d := d_part_of) (st := s_part_of) A 28 40 rfl (fun f fd F => ok_part_of (tB A) (tD A) (tMD A) (t_moved_joins A) F) (fun _ _ _ _ _ _ us hl => match us, hl with | [_, _], _ => rfl)
theorem t_parts (A : Hd K mg h) : Cal P w K mg base CX0 8 "parts" ((spP (r_parts (He.ga K "Drawing") (He.ga K "Stock")))) := cal_of (d := d_parts) (st := s_parts) A 29 41 rfl (fun f fd F => ok_parts (tB A) (tD A) (t_all_marks A) (t_part_of A) F) (fun _ _ _ _ _ _ us hl => match us, hl with | [_], _ => rfl)
theorem t_law_of (A : Hd K mg h) : Cal P w K mg base CX0 1 "_law_of" ((spP (r_lof (He.ga K "Drawing") (He.ga K "Stock")))) := cal_of (d := d_law_of) (st := s_law_of) A 59 71 rfl (fun f fd F => ok_law_of (tD A) F) (fun _ _ _ _ _ _ us hl => match us, hl with | [_], _ => rfl)
theorem t_cuts (A : Hd K mg h) : Cal P w K mg base CX0 3 "cuts" ((spP (r_cuts (He.ga K "Drawing") (He.ga K "Stock")))) := cal_of (d := d_cuts) (st := s_cuts) A 33 45 rfl (fun f fd F => ok_cuts (tB A) (tD A) (t_all_marks A) (t_inner_joins A) (t_without A) F) (fun _ _ _ _ _ _ us hl => match us, hl with | [_], _ => rfl)
theorem t_law_cuts (A : Hd K mg h) : Cal P w K mg base CX0 2 "_law_cuts" ((spP r_lcuts)) := cal_of (d := d_law_cuts) (st := s_law_cuts) A 57 69 rfl (fun f fd F => ok_law_cuts (tB A) (t_law_groups A) (t_law_inner A) (t_law_less A) F) (fun _ _ _ _ _ _ us hl => match us, hl with | [_], _ => rfl)
theorem t_pieces (A : Hd K mg h) : Cal P w K mg base CX0 4 "pieces" ((spP (r_pieces (He.ga K "Drawing") (He.ga K "Stock")))) := cal_of (d := d_pieces) (st := s_pieces) A 35 47 rfl (fun f fd F => ok_pieces (tB A) (tD A) (t_cuts A) (t_inner_joins A) (t_marks_by A) F) (fun _ _ _ _ _ _ us hl => match us, hl with | [_], _ => rfl)
theorem t_law_pieces (A : Hd K mg h) : Cal P w K mg base CX0 3 "_law_pieces" ((spP r_lpieces)) := cal_of (d := d_law_pieces) (st := s_law_pieces) A 58 70 rfl (fun f fd F => ok_law_pieces (tB A) (t_law_groups A) (t_law_inner A) (t_law_cuts A) F) (fun _ _ _ _ _ _ us hl => match us, hl with | [_], _ => rfl)
theorem t_is_whole_parts (A : Hd K mg h) : Cal P w K mg base CX0 3 "is_whole_parts" ((spP (r_whole_d (He.ga K "Drawing") (He.ga K "Stock")))) := cal_of (d := d_is_whole_parts) (st := s_is_whole_parts) A 30 42 rfl (fun f fd F => ok_is_whole_parts (tB A) (tD A) (t_all_marks A) F) (fun _ _ _ _ _ _ us hl => match us, hl with | [_], _ => rfl)
theorem t_is_free (A : Hd K mg h) : Cal P w K mg base CX0 4 "is_free" ((spP (r_free (He.ga K "Drawing") (He.ga K "Stock")))) := cal_of (d := d_is_free) (st := s_is_free) A 34 46 rfl (fun f fd F => ok_is_free (tB A) (tD A) (t_is_whole_parts A) (t_cuts A) F) (fun _ _ _ _ _ _ us hl => match us, hl with | [_], _ => rfl)
theorem t_law_right (A : Hd K mg h) : Cal P w K mg base CX0 9 "_law_right" ((spP (r_lright (He.ga K "Drawing") (He.ga K "Stock")))) := cal_of (d := d_law_right) (st := s_law_right) A 69 81 rfl (fun f fd F => ok_law_right (tB A) (t_law_of A) (t_cuts A) (t_law_cuts A) (t_pieces A) (t_law_pieces A) (t_law_parts A) (t_parts A) (t_is_whole_parts A) (t_is_free A) F) (fun _ _ _ _ _ _ us hl => match us, hl with | [_, _], _ => rfl)
theorem law_fun (A : Hd K mg h) : ∃ fd, Fun K "law" "law" s_law (He.fAd K ("law", none)) fd := fun_at (d := d_law) A 70 rfl
theorem law_mg (A : Hd K mg h) : mg "law" = some (.ref (He.fAd K ("law", none))) := He.glo_ok A.X A.G (A.c.fact 82)
theorem law_ok (A : Hd K mg h) (TB : LamX.TabB base mg (He.cT K ("_law_done", none)).1 (He.cT K ("_law_done", none)).2) {f : Addr} {fd : FuncData} (F : Fun K "law" "law" s_law f fd) : FnOk P w K mg base CX0 11 f fd ["_law_script"] (spLaw K (He.cT K ("_law_done", none)).2) := ok_law (tB A) (tCD A) (gD A) (tMS A) (t_law_source_of A) (t_law_stock A) (t_law_drawing A) (t_law_made A) (t_law_done A TB) (t_law_told A) (t_law_parts A) (t_parts A) (t_law_next A) (t_law_right A) (t_law_of A) F
end
end R87
namespace R87
open PySem PySem.Spec PyProof.Rows L2 R87H
theorem law_at {P : Program} {w : World} {mg : Str → Option Value} {fa' : Addr} {h : Heap} {l : PySem.W.OpenLaw} (hl : l.prog = P) (Y : hk.says w h) (G : h.Ns mainGlobals mg) (hm : mg "law" = some (.ref fa')) : ∃ K : PySem.W.Frag, K.In h ∧ LamX.LawAtS l w K CX0 11 63 "_law_script" mg fa' h := by
  subst hl
  obtain ⟨K, X, c⟩ := Y
  have A : Hd K mg h := ⟨X, G, c.t.d, c.more⟩
  obtain ⟨fd, F⟩ := law_fun A
  have e := hm.symm.trans (law_mg A)
  cases e
  have hp : (("_law_done", none) : He.Defn) ∈ tf := List.mem_singleton.2 rfl
  refine ⟨K, X, fd, [He.cT K ("_law_done", none)], spLaw K (He.cT K ("_law_done", none)).2, fun p h => ?_, fun p h => ?_, fun p h => ?_, fun s u => ?_, fun H a ns h1 _ hT hS => ⟨a, ns, rfl, hT _ (List.mem_singleton.2 rfl), hS, h1, fun _ => rfl⟩, fun base Xb Gb TB => ?_⟩
  · rw [List.mem_singleton.1 h]; exact c.empty _ hp
  · rw [List.mem_singleton.1 h]; exact c.out _ hp
  · rw [List.mem_singleton.1 h]; exact PySem.W.codeHd_of_K X (c.hd _ hp)
  · obtain ⟨oc, od, kV, doc, pm, an, cdv, ct, osl, rfl, lk, hcd⟩ := F.ex
    exact .of_eq rfl
  · exact law_ok A (TB _ (List.mem_singleton.2 rfl)) F
end R87
open PySem PySem.W PySem.Calls PyProof.Rows
theorem PySem.Challenge.cw_endsum_k87_whole_rows_of_deeds_holds : PySem.Challenge.rw_endsum_k87_whole_rows_of_deeds.Holds := by
  w_on; o_law
  refine HandSHeadRun.head_any (r := OpenLaw.row PySem.Challenge.rw_endsum_k87_whole_rows_of_deeds) (q := view (OpenLaw.row PySem.Challenge.rw_endsum_k87_whole_rows_of_deeds).prog [86]) (H := R87H.hk) (ob := R87H.ob) (M := 12000) (loose := R87H.loL) (d := HandSHeadRun.topDef (OpenLaw.row PySem.Challenge.rw_endsum_k87_whole_rows_of_deeds).prog 86) (kwd := []) R87H.ob_eq
    (by kernel_rfl) (fun s => by kernel_rfl) R87H.run (by kernel_rfl) (by kernel_rfl) (by kernel_rfl) (by rfl) (by first | assumption | decide +kernel) (by decide +kernel) ⟨rfl, rfl, rfl, rfl, rfl, by decide +kernel⟩ ?hw ?hc
  case hw => w_witness2
  case hc =>
    refine LamX.walk_ofTsE (l := PySem.Challenge.rw_endsum_k87_whole_rows_of_deeds) (n := 63) (k := 11) (x := "_law_script") (CX := fun _ => L2.CX0) rfl (by decide) (by kernel_rfl) ⟨rfl, by decide, by decide⟩ ?F (fun _ _ _ _ _ z => z)
    intro w mg fa h Y G hmg0
    have hmg : mg ("law" : PySem.Str) = some (.ref fa) := by
      have e : (HandSHeadRun.topDef (OpenLaw.row PySem.Challenge.rw_endsum_k87_whole_rows_of_deeds).prog 86).name = ("law" : PySem.Str) := by kernel_rfl
      rw [← e]
      exact hmg0
    exact R87.law_at (P := (PySem.Challenge.rw_endsum_k87_whole_rows_of_deeds).prog) rfl Y G hmg
