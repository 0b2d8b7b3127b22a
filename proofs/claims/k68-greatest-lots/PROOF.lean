import PyProof.Rows.All
import HandS.Conv
import HandS.Deep
import HandS.Defaults
import HandS.DictEq
import HandS.ForMost
import HandS.Head0
import HandS.Head1
import HandS.Head2
import HandS.HeadEnd
import HandS.HeadHook1
import HandS.HeadHook2
import HandS.IsInst
import HandS.Iter
import HandS.OwnEq
import HandS.TupAny
import HandS.TupLen
import HandS.Wide
import HandS.Zip
import KE.GoesMore
import KE.KDictCopyH
import KE.KDictList
import KE.KDictPairs
import KE.KDictSum
import KE.KDictWalk
import KE.KItemsList
import KE.KStateDown
import KE.KTupSum
import KE.SortData
import Lean
import OpenK.AllK
import OpenK.KMeth
import PyProof.ListNew
import Wide.All
import Wide.FinOn
import PySem.Challenge.RW_onecrest_k68_whole_greatest_lots
set_option Elab.async false
set_option linter.all false
set_option maxRecDepth 100000
set_option maxHeartbeats 0
namespace Gl
open PySem PySem.Spec L2 PyProof.Rows

/-! the text by places -/
def top (i : Nat) : Stmt := PySem.Challenge.pw_onecrest_k68_whole_greatest_lots.main.body.getD i (.Pass ⟨0, 0, 0, 0⟩)
abbrev s_is_integer : Stmt := top 19
abbrev s_is_count : Stmt := top 20
abbrev s_is_list : Stmt := top 21
abbrev s_want_at_most : Stmt := top 22
abbrev s_common_bottom : Stmt := top 23
abbrev s_common_part : Stmt := top 27
abbrev s_Ratio_init : Stmt := inClass (top 28) 0
abbrev s_Ratio_eq : Stmt := inClass (top 28) 17
abbrev s_is_number : Stmt := top 30
abbrev s_ratio_of : Stmt := top 31
abbrev s_pair_sum : Stmt := top 32
abbrev s_pair_product : Stmt := top 33
abbrev s_top_of : Stmt := top 34
abbrev s_is_above : Stmt := top 35
abbrev s_wholes : Stmt := top 36
abbrev s_is_small : Stmt := top 42
abbrev s_is_letters : Stmt := top 43
abbrev s_want_letters : Stmt := top 44
abbrev s_are_counts : Stmt := top 45
abbrev s_is_entry : Stmt := top 46
abbrev s_Amounts_init : Stmt := inClass (top 47) 0
abbrev s_amounts_sorted : Stmt := top 48
abbrev s_told_amounts : Stmt := top 49
abbrev s_degree_of : Stmt := top 50
abbrev s_Blend_init : Stmt := inClass (top 51) 0
abbrev s_Blend_add : Stmt := inClass (top 51) 7
abbrev s_Blend_mul : Stmt := inClass (top 51) 8
abbrev s_Blend_eq : Stmt := inClass (top 51) 10
abbrev s_blend_of : Stmt := top 52
abbrev s_blends_added : Stmt := top 53
abbrev s_blends_multiplied : Stmt := top 54
abbrev s_want_blend : Stmt := top 55
abbrev s_want_alike : Stmt := top 56
abbrev s_is_rising : Stmt := top 59
abbrev s_want_things_many : Stmt := top 63
abbrev s_is_lot : Stmt := top 64
abbrev s_want_lots : Stmt := top 65
abbrev s_by_length : Stmt := top 66
abbrev s_less : Stmt := top 67
abbrev s_more_by : Stmt := top 68
abbrev s_lacking_lot : Stmt := top 69
abbrev s_is_stuck : Stmt := top 70
abbrev s_stuck_pair : Stmt := top 71
abbrev s_fault_of : Stmt := top 72
abbrev s_want_house : Stmt := top 73
abbrev s_told_lots : Stmt := top 74
abbrev s_told_house : Stmt := top 75
abbrev s_is_house : Stmt := top 76
abbrev s_bad_lot : Stmt := top 77
abbrev s_longest_of : Stmt := top 78
abbrev s_greatest : Stmt := top 79
abbrev s_want_thing : Stmt := top 80
abbrev s_without : Stmt := top 81
abbrev s_having : Stmt := top 82
abbrev s_all_lots : Stmt := top 83
abbrev s_mirror : Stmt := top 84
abbrev s_counts_of : Stmt := top 85
abbrev s_greatest_blend : Stmt := top 86
abbrev s_law_pot : Stmt := top 88
abbrev s_law_draw : Stmt := top 89
abbrev s_law_pick : Stmt := top 90
abbrev s_law_all : Stmt := top 91
abbrev s_law_by_length : Stmt := top 92
abbrev s_law_mixed : Stmt := top 93
abbrev s_law_det : Stmt := top 94
abbrev s_law_are_free : Stmt := top 95
abbrev s_law_no_ring : Stmt := top 96
abbrev s_law_house : Stmt := top 97
abbrev s_law_exchanged : Stmt := top 98
abbrev s_law_exchange_right : Stmt := top 99
abbrev s_law_heavy_right : Stmt := top 100
abbrev s_law_thing_right : Stmt := top 101
abbrev s_law_lines_right : Stmt := top 102
abbrev s_law_right : Stmt := top 103
abbrev s_law : Stmt := top 104
def d_is_integer : He.DefD := ⟨("is_integer", none), "is_integer", "is_integer", defArgs s_is_integer, defBody s_is_integer, defScope s_is_integer, [], []⟩
def d_is_count : He.DefD := ⟨("is_count", none), "is_count", "is_count", defArgs s_is_count, defBody s_is_count, defScope s_is_count, [], []⟩
def d_is_list : He.DefD := ⟨("is_list", none), "is_list", "is_list", defArgs s_is_list, defBody s_is_list, defScope s_is_list, [], []⟩
def d_want_at_most : He.DefD := ⟨("want_at_most", none), "want_at_most", "want_at_most", defArgs s_want_at_most, defBody s_want_at_most, defScope s_want_at_most, [], []⟩
def d_common_bottom : He.DefD := ⟨("common_bottom", none), "common_bottom", "common_bottom", defArgs s_common_bottom, defBody s_common_bottom, defScope s_common_bottom, [], []⟩
def d_common_part : He.DefD := ⟨("common_part", none), "common_part", "common_part", defArgs s_common_part, defBody s_common_part, defScope s_common_part, [], []⟩
def d_Ratio_init : He.DefD := ⟨("Ratio", some "__init__"), "__init__", "Ratio.__init__", defArgs s_Ratio_init, defBody s_Ratio_init, defScope s_Ratio_init, [.int 1], []⟩
def d_Ratio_eq : He.DefD := ⟨("Ratio", some "__eq__"), "__eq__", "Ratio.__eq__", defArgs s_Ratio_eq, defBody s_Ratio_eq, defScope s_Ratio_eq, [], []⟩
def d_is_number : He.DefD := ⟨("is_number", none), "is_number", "is_number", defArgs s_is_number, defBody s_is_number, defScope s_is_number, [], []⟩
def d_ratio_of : He.DefD := ⟨("ratio_of", none), "ratio_of", "ratio_of", defArgs s_ratio_of, defBody s_ratio_of, defScope s_ratio_of, [], []⟩
def d_pair_sum : He.DefD := ⟨("pair_sum", none), "pair_sum", "pair_sum", defArgs s_pair_sum, defBody s_pair_sum, defScope s_pair_sum, [], []⟩
def d_pair_product : He.DefD := ⟨("pair_product", none), "pair_product", "pair_product", defArgs s_pair_product, defBody s_pair_product, defScope s_pair_product, [], []⟩
def d_top_of : He.DefD := ⟨("top_of", none), "top_of", "top_of", defArgs s_top_of, defBody s_top_of, defScope s_top_of, [], []⟩
def d_is_above : He.DefD := ⟨("is_above", none), "is_above", "is_above", defArgs s_is_above, defBody s_is_above, defScope s_is_above, [], []⟩
def d_wholes : He.DefD := ⟨("wholes", none), "wholes", "wholes", defArgs s_wholes, defBody s_wholes, defScope s_wholes, [], []⟩
def d_is_small : He.DefD := ⟨("is_small", none), "is_small", "is_small", defArgs s_is_small, defBody s_is_small, defScope s_is_small, [], []⟩
def d_is_letters : He.DefD := ⟨("is_letters", none), "is_letters", "is_letters", defArgs s_is_letters, defBody s_is_letters, defScope s_is_letters, [], []⟩
def d_want_letters : He.DefD := ⟨("want_letters", none), "want_letters", "want_letters", defArgs s_want_letters, defBody s_want_letters, defScope s_want_letters, [], []⟩
def d_are_counts : He.DefD := ⟨("are_counts", none), "are_counts", "are_counts", defArgs s_are_counts, defBody s_are_counts, defScope s_are_counts, [], []⟩
def d_is_entry : He.DefD := ⟨("is_entry", none), "is_entry", "is_entry", defArgs s_is_entry, defBody s_is_entry, defScope s_is_entry, [], []⟩
def d_Amounts_init : He.DefD := ⟨("Amounts", some "__init__"), "__init__", "Amounts.__init__", defArgs s_Amounts_init, defBody s_Amounts_init, defScope s_Amounts_init, [], []⟩
def d_amounts_sorted : He.DefD := ⟨("amounts_sorted", none), "amounts_sorted", "amounts_sorted", defArgs s_amounts_sorted, defBody s_amounts_sorted, defScope s_amounts_sorted, [], []⟩
def d_told_amounts : He.DefD := ⟨("told_amounts", none), "told_amounts", "told_amounts", defArgs s_told_amounts, defBody s_told_amounts, defScope s_told_amounts, [], []⟩
def d_degree_of : He.DefD := ⟨("degree_of", none), "degree_of", "degree_of", defArgs s_degree_of, defBody s_degree_of, defScope s_degree_of, [], []⟩
def d_Blend_init : He.DefD := ⟨("Blend", some "__init__"), "__init__", "Blend.__init__", defArgs s_Blend_init, defBody s_Blend_init, defScope s_Blend_init, [.adr (He.dflAt ("Blend", some "__init__") 0)], []⟩
def d_Blend_add : He.DefD := ⟨("Blend", some "__add__"), "__add__", "Blend.__add__", defArgs s_Blend_add, defBody s_Blend_add, defScope s_Blend_add, [], []⟩
def d_Blend_mul : He.DefD := ⟨("Blend", some "__mul__"), "__mul__", "Blend.__mul__", defArgs s_Blend_mul, defBody s_Blend_mul, defScope s_Blend_mul, [], []⟩
def d_Blend_eq : He.DefD := ⟨("Blend", some "__eq__"), "__eq__", "Blend.__eq__", defArgs s_Blend_eq, defBody s_Blend_eq, defScope s_Blend_eq, [], []⟩
def d_blend_of : He.DefD := ⟨("blend_of", none), "blend_of", "blend_of", defArgs s_blend_of, defBody s_blend_of, defScope s_blend_of, [], []⟩
def d_blends_added : He.DefD := ⟨("blends_added", none), "blends_added", "blends_added", defArgs s_blends_added, defBody s_blends_added, defScope s_blends_added, [], []⟩
def d_blends_multiplied : He.DefD := ⟨("blends_multiplied", none), "blends_multiplied", "blends_multiplied", defArgs s_blends_multiplied, defBody s_blends_multiplied, defScope s_blends_multiplied, [], []⟩
def d_want_blend : He.DefD := ⟨("want_blend", none), "want_blend", "want_blend", defArgs s_want_blend, defBody s_want_blend, defScope s_want_blend, [], []⟩
def d_want_alike : He.DefD := ⟨("want_alike", none), "want_alike", "want_alike", defArgs s_want_alike, defBody s_want_alike, defScope s_want_alike, [], []⟩
def d_is_rising : He.DefD := ⟨("is_rising", none), "is_rising", "is_rising", defArgs s_is_rising, defBody s_is_rising, defScope s_is_rising, [], []⟩
def d_want_things_many : He.DefD := ⟨("want_things_many", none), "want_things_many", "want_things_many", defArgs s_want_things_many, defBody s_want_things_many, defScope s_want_things_many, [], []⟩
def d_is_lot : He.DefD := ⟨("is_lot", none), "is_lot", "is_lot", defArgs s_is_lot, defBody s_is_lot, defScope s_is_lot, [], []⟩
def d_want_lots : He.DefD := ⟨("want_lots", none), "want_lots", "want_lots", defArgs s_want_lots, defBody s_want_lots, defScope s_want_lots, [], []⟩
def d_by_length : He.DefD := ⟨("by_length", none), "by_length", "by_length", defArgs s_by_length, defBody s_by_length, defScope s_by_length, [], []⟩
def d_less : He.DefD := ⟨("less", none), "less", "less", defArgs s_less, defBody s_less, defScope s_less, [], []⟩
def d_more_by : He.DefD := ⟨("more_by", none), "more_by", "more_by", defArgs s_more_by, defBody s_more_by, defScope s_more_by, [], []⟩
def d_lacking_lot : He.DefD := ⟨("lacking_lot", none), "lacking_lot", "lacking_lot", defArgs s_lacking_lot, defBody s_lacking_lot, defScope s_lacking_lot, [], []⟩
def d_is_stuck : He.DefD := ⟨("is_stuck", none), "is_stuck", "is_stuck", defArgs s_is_stuck, defBody s_is_stuck, defScope s_is_stuck, [], []⟩
def d_stuck_pair : He.DefD := ⟨("stuck_pair", none), "stuck_pair", "stuck_pair", defArgs s_stuck_pair, defBody s_stuck_pair, defScope s_stuck_pair, [], []⟩
def d_fault_of : He.DefD := ⟨("fault_of", none), "fault_of", "fault_of", defArgs s_fault_of, defBody s_fault_of, defScope s_fault_of, [], []⟩
def d_want_house : He.DefD := ⟨("want_house", none), "want_house", "want_house", defArgs s_want_house, defBody s_want_house, defScope s_want_house, [], []⟩
def d_told_lots : He.DefD := ⟨("told_lots", none), "told_lots", "told_lots", defArgs s_told_lots, defBody s_told_lots, defScope s_told_lots, [], []⟩
def d_told_house : He.DefD := ⟨("told_house", none), "told_house", "told_house", defArgs s_told_house, defBody s_told_house, defScope s_told_house, [], []⟩
def d_is_house : He.DefD := ⟨("is_house", none), "is_house", "is_house", defArgs s_is_house, defBody s_is_house, defScope s_is_house, [], []⟩
def d_bad_lot : He.DefD := ⟨("bad_lot", none), "bad_lot", "bad_lot", defArgs s_bad_lot, defBody s_bad_lot, defScope s_bad_lot, [], []⟩
def d_longest_of : He.DefD := ⟨("longest_of", none), "longest_of", "longest_of", defArgs s_longest_of, defBody s_longest_of, defScope s_longest_of, [], []⟩
def d_greatest : He.DefD := ⟨("greatest", none), "greatest", "greatest", defArgs s_greatest, defBody s_greatest, defScope s_greatest, [], []⟩
def d_want_thing : He.DefD := ⟨("want_thing", none), "want_thing", "want_thing", defArgs s_want_thing, defBody s_want_thing, defScope s_want_thing, [], []⟩
def d_without : He.DefD := ⟨("without", none), "without", "without", defArgs s_without, defBody s_without, defScope s_without, [], []⟩
def d_having : He.DefD := ⟨("having", none), "having", "having", defArgs s_having, defBody s_having, defScope s_having, [], []⟩
def d_all_lots : He.DefD := ⟨("all_lots", none), "all_lots", "all_lots", defArgs s_all_lots, defBody s_all_lots, defScope s_all_lots, [], []⟩
def d_mirror : He.DefD := ⟨("mirror", none), "mirror", "mirror", defArgs s_mirror, defBody s_mirror, defScope s_mirror, [], []⟩
def d_counts_of : He.DefD := ⟨("counts_of", none), "counts_of", "counts_of", defArgs s_counts_of, defBody s_counts_of, defScope s_counts_of, [], []⟩
def d_greatest_blend : He.DefD := ⟨("greatest_blend", none), "greatest_blend", "greatest_blend", defArgs s_greatest_blend, defBody s_greatest_blend, defScope s_greatest_blend, [], []⟩
def d_law_pot : He.DefD := ⟨("_law_pot", none), "_law_pot", "_law_pot", defArgs s_law_pot, defBody s_law_pot, defScope s_law_pot, [], []⟩
def d_law_draw : He.DefD := ⟨("_law_draw", none), "_law_draw", "_law_draw", defArgs s_law_draw, defBody s_law_draw, defScope s_law_draw, [], []⟩
def d_law_pick : He.DefD := ⟨("_law_pick", none), "_law_pick", "_law_pick", defArgs s_law_pick, defBody s_law_pick, defScope s_law_pick, [], []⟩
def d_law_all : He.DefD := ⟨("_law_all", none), "_law_all", "_law_all", defArgs s_law_all, defBody s_law_all, defScope s_law_all, [], []⟩
def d_law_by_length : He.DefD := ⟨("_law_by_length", none), "_law_by_length", "_law_by_length", defArgs s_law_by_length, defBody s_law_by_length, defScope s_law_by_length, [], []⟩
def d_law_mixed : He.DefD := ⟨("_law_mixed", none), "_law_mixed", "_law_mixed", defArgs s_law_mixed, defBody s_law_mixed, defScope s_law_mixed, [], []⟩
def d_law_det : He.DefD := ⟨("_law_det", none), "_law_det", "_law_det", defArgs s_law_det, defBody s_law_det, defScope s_law_det, [], []⟩
def d_law_are_free : He.DefD := ⟨("_law_are_free", none), "_law_are_free", "_law_are_free", defArgs s_law_are_free, defBody s_law_are_free, defScope s_law_are_free, [], []⟩
def d_law_no_ring : He.DefD := ⟨("_law_no_ring", none), "_law_no_ring", "_law_no_ring", defArgs s_law_no_ring, defBody s_law_no_ring, defScope s_law_no_ring, [], []⟩
def d_law_house : He.DefD := ⟨("_law_house", none), "_law_house", "_law_house", defArgs s_law_house, defBody s_law_house, defScope s_law_house, [], []⟩
def d_law_exchanged : He.DefD := ⟨("_law_exchanged", none), "_law_exchanged", "_law_exchanged", defArgs s_law_exchanged, defBody s_law_exchanged, defScope s_law_exchanged, [], []⟩
def d_law_exchange_right : He.DefD := ⟨("_law_exchange_right", none), "_law_exchange_right", "_law_exchange_right", defArgs s_law_exchange_right, defBody s_law_exchange_right, defScope s_law_exchange_right, [], []⟩
def d_law_heavy_right : He.DefD := ⟨("_law_heavy_right", none), "_law_heavy_right", "_law_heavy_right", defArgs s_law_heavy_right, defBody s_law_heavy_right, defScope s_law_heavy_right, [], []⟩
def d_law_thing_right : He.DefD := ⟨("_law_thing_right", none), "_law_thing_right", "_law_thing_right", defArgs s_law_thing_right, defBody s_law_thing_right, defScope s_law_thing_right, [], []⟩
def d_law_lines_right : He.DefD := ⟨("_law_lines_right", none), "_law_lines_right", "_law_lines_right", defArgs s_law_lines_right, defBody s_law_lines_right, defScope s_law_lines_right, [], []⟩
def d_law_right : He.DefD := ⟨("_law_right", none), "_law_right", "_law_right", defArgs s_law_right, defBody s_law_right, defScope s_law_right, [], []⟩
def d_law : He.DefD := ⟨("law", none), "law", "law", defArgs s_law, defBody s_law, defScope s_law, [], []⟩
def fn : List He.DefD := ([d_is_integer, d_is_count, d_is_list, d_want_at_most, d_common_bottom, d_common_part, d_Ratio_init, d_Ratio_eq, d_is_number, d_ratio_of, d_pair_sum, d_pair_product, d_top_of, d_is_above, d_wholes, d_is_small, d_is_letters, d_want_letters, d_are_counts, d_is_entry] : List He.DefD) ++ ([d_Amounts_init, d_amounts_sorted, d_told_amounts, d_degree_of, d_Blend_init, d_Blend_add, d_Blend_mul, d_Blend_eq, d_blend_of, d_blends_added, d_blends_multiplied, d_want_blend, d_want_alike, d_is_rising, d_want_things_many, d_is_lot, d_want_lots, d_by_length, d_less, d_more_by] : List He.DefD) ++ ([d_lacking_lot, d_is_stuck, d_stuck_pair, d_fault_of, d_want_house, d_told_lots, d_told_house, d_is_house, d_bad_lot, d_longest_of, d_greatest, d_want_thing, d_without, d_having, d_all_lots, d_mirror, d_counts_of, d_greatest_blend, d_law_pot, d_law_draw] : List He.DefD) ++ ([d_law_pick, d_law_all, d_law_by_length, d_law_mixed, d_law_det, d_law_are_free, d_law_no_ring, d_law_house, d_law_exchanged, d_law_exchange_right, d_law_heavy_right, d_law_thing_right, d_law_lines_right, d_law_right, d_law] : List He.DefD)
def fa : List He.Fa := ([.glo "is_integer", .glo "is_count", .glo "is_list", .glo "want_at_most", .glo "common_bottom", .glo "common_part", .glo "is_number", .glo "ratio_of", .glo "pair_sum", .glo "pair_product", .glo "top_of", .glo "is_above", .glo "wholes", .glo "is_small", .glo "is_letters", .glo "want_letters", .glo "are_counts", .glo "is_entry", .glo "amounts_sorted", .glo "told_amounts"] : List He.Fa) ++ ([.glo "degree_of", .glo "blend_of", .glo "blends_added", .glo "blends_multiplied", .glo "want_blend", .glo "want_alike", .glo "is_rising", .glo "want_things_many", .glo "is_lot", .glo "want_lots", .glo "by_length", .glo "less", .glo "more_by", .glo "lacking_lot", .glo "is_stuck", .glo "stuck_pair", .glo "fault_of", .glo "want_house", .glo "told_lots", .glo "told_house"] : List He.Fa) ++ ([.glo "is_house", .glo "bad_lot", .glo "longest_of", .glo "greatest", .glo "want_thing", .glo "without", .glo "having", .glo "all_lots", .glo "mirror", .glo "counts_of", .glo "greatest_blend", .glo "_law_pot", .glo "_law_draw", .glo "_law_pick", .glo "_law_all", .glo "_law_by_length", .glo "_law_mixed", .glo "_law_det", .glo "_law_are_free", .glo "_law_no_ring"] : List He.Fa) ++ ([.glo "_law_house", .glo "_law_exchanged", .glo "_law_exchange_right", .glo "_law_heavy_right", .glo "_law_thing_right", .glo "_law_lines_right", .glo "_law_right", .glo "law", .glo "Ratio", .glo "Amounts", .glo "Blend", .free "isinstance", .free "int", .free "bool", .free "str", .free "list", .free "tuple", .free "len", .free "abs", .free "all"] : List He.Fa) ++ ([.free "any", .free "sum", .free "range", .free "sorted", .free "dict", .free "zip", .free "enumerate", .free "max", .free "min", .free "divmod", .int "MOST_LETTERS" 8, .int "MOST_DEGREE" 8, .int "MOST_ENTRIES" 300, .int "MOST_THINGS" 7, .str "SMALL" "abcdefghijklmnopqrstuvwxyz", .str "LETTERS" "abcdefg", .cls "Ratio", .cls "Amounts", .cls "Blend", .mkr "Ratio"] : List He.Fa) ++ ([.mkr "Amounts", .mkr "Blend", .noat "Ratio" "own_top", .noat "Ratio" "own_bottom", .noat "Amounts" "own_dict", .noat "Blend" "own_letters", .noat "Blend" "own_amounts", .noat "Blend" "own_degree", .noat "Blend" "own_bottom", .noat "Blend" "own_tops", .meth "Ratio" "__eq__", .meth "Blend" "__eq__", .meth "Blend" "__add__", .meth "Blend" "__mul__"] : List He.Fa)
/-- further facts of three classes -/
def insB (K : PySem.W.Frag) (C : Addr) : Bool := He.eqO (PySem.W.findIn K (.ref C) "__class__") (some (some (.builtin "object.__class__"))) && (He.eqO (PySem.W.specialIn K (.builtin "object.__class__") "__get__") (some (some (.builtin "getset_descriptor.__get__"))) &&
  (decide (PySem.W.takesIn K (.builtin "object.__class__") = some true) && decide (PySem.W.mroIn K C (.type "object") = some true)))
structure InsOk (K : PySem.W.Frag) (C : Addr) : Prop where
  (ha : PySem.W.findIn K (.ref C) "__class__" = some (some (.builtin "object.__class__")))
  (hn : PySem.W.specialIn K (.builtin "object.__class__") "__get__" = some (some (.builtin "getset_descriptor.__get__")))
  (htk : PySem.W.takesIn K (.builtin "object.__class__") = some true)
  (hm : PySem.W.mroIn K C (.type "object") = some true)
theorem insB_ok {K : PySem.W.Frag} {C : Addr} (h : insB K C = true) : InsOk K C := by
  obtain ⟨h1, h⟩ := He.ba h
  obtain ⟨h2, h⟩ := He.ba h
  obtain ⟨h3, h4⟩ := He.ba h
  exact ⟨He.eqO_ok h1, He.eqO_ok h2, of_decide_eq_true h3, of_decide_eq_true h4⟩
def exB (K : PySem.W.Frag) : Bool := insB K (He.ga K "Ratio") && (insB K (He.ga K "Amounts") && (insB K (He.ga K "Blend") && (PySem.W.selfFirst K (He.ga K "Blend") &&
  (decide (PySem.W.kitOne K (.type "list") (.ref (He.ga K "Amounts")) = some false) && decide (PySem.W.kitOne K (.type "int") (.ref (He.ga K "Ratio")) = some false)))))
structure ExOk (K : PySem.W.Frag) : Prop where
  ratio : InsOk K (He.ga K "Ratio")
  amounts : InsOk K (He.ga K "Amounts")
  blend : InsOk K (He.ga K "Blend")
  first : PySem.W.selfFirst K (He.ga K "Blend") = true
  listAm : PySem.W.kitOne K (.type "list") (.ref (He.ga K "Amounts")) = some false
  intRa : PySem.W.kitOne K (.type "int") (.ref (He.ga K "Ratio")) = some false
theorem exB_ok {K : PySem.W.Frag} (h : exB K = true) : ExOk K := by
  obtain ⟨h1, h⟩ := He.ba h
  obtain ⟨h2, h⟩ := He.ba h
  obtain ⟨h3, h⟩ := He.ba h
  obtain ⟨h4, h⟩ := He.ba h
  obtain ⟨h5, h6⟩ := He.ba h
  exact ⟨insB_ok h1, insB_ok h2, insB_ok h3, h4, of_decide_eq_true h5, of_decide_eq_true h6⟩
/-- what the head says of the written part -/
structure Says (K : PySem.W.Frag) : Prop where
  d : He.SaysD fa fn K
  x : ExOk K
end Gl

namespace Gl
open PySem PySem.Spec L2 PyProof.Rows

def loose : List Str := (["_wall", "CrestError", "MissingError", "StateError", "LimitError", "InvalidBlend", "InvalidCounts", "InvalidMany", "InvalidNumber", "InvalidEntries", "InvalidLetters", "InvalidLots", "InvalidThing", "IdleThing", "UnlikeBlends", "NotHouse", "TooMany", "is_integer", "is_count", "is_list", "want_at_most", "common_bottom", "PART", "digits_of", "common_part", "Ratio", "told_pair", "is_number", "ratio_of", "pair_sum"] : List Str) ++ (["pair_product", "top_of", "is_above", "wholes", "SMALL", "MOST_LETTERS", "MOST_DEGREE", "MOST_ENTRIES", "is_small", "is_letters", "want_letters", "are_counts", "is_entry", "Amounts", "amounts_sorted", "told_amounts", "degree_of", "Blend", "blend_of", "blends_added", "blends_multiplied", "want_blend", "want_alike", "want_counts", "is_rising", "MOST_THINGS", "LETTERS", "want_things_many", "is_lot", "want_lots"] : List Str) ++ (["by_length", "less", "more_by", "lacking_lot", "is_stuck", "stuck_pair", "fault_of", "want_house", "told_lots", "told_house", "is_house", "bad_lot", "longest_of", "greatest", "want_thing", "without", "having", "all_lots", "mirror", "counts_of", "greatest_blend", "_law_pot", "_law_draw", "_law_pick", "_law_all", "_law_by_length", "_law_mixed", "_law_det", "_law_are_free", "_law_no_ring"] : List Str) ++ (["_law_house", "_law_exchanged", "_law_exchange_right", "_law_heavy_right", "_law_thing_right", "_law_lines_right", "_law_right"] : List Str)
def gnames : List Str := (["is_integer", "is_count", "is_list", "want_at_most", "common_bottom", "common_part", "is_number", "ratio_of", "pair_sum", "pair_product", "top_of", "is_above", "wholes", "is_small", "is_letters", "want_letters", "are_counts", "is_entry", "amounts_sorted", "told_amounts", "degree_of", "blend_of", "blends_added", "blends_multiplied", "want_blend", "want_alike", "is_rising", "want_things_many", "is_lot", "want_lots"] : List Str) ++ (["by_length", "less", "more_by", "lacking_lot", "is_stuck", "stuck_pair", "fault_of", "want_house", "told_lots", "told_house", "is_house", "bad_lot", "longest_of", "greatest", "want_thing", "without", "having", "all_lots", "mirror", "counts_of", "greatest_blend", "_law_pot", "_law_draw", "_law_pick", "_law_all", "_law_by_length", "_law_mixed", "_law_det", "_law_are_free", "_law_no_ring"] : List Str) ++ (["_law_house", "_law_exchanged", "_law_exchange_right", "_law_heavy_right", "_law_thing_right", "_law_lines_right", "_law_right", "law"] : List Str)
/-! the addresses that are looked at -/
def codeA (g : Addr → Option Obj) (a : Addr) : List Addr := match g a with
  | some ⟨_, _, .func fd, _⟩ => a :: (He.refV fd.code ++ He.refV fd.defaults)
  | _ => [a]
def nsA (g : Addr → Option Obj) (C : Addr) : Addr := match g C with
  | some ⟨_, _, .cls cd, _⟩ => cd.ns
  | _ => 0
def nsV (g : Addr → Option Obj) (d : Addr) (x : Str) : Addr := match PySem.W.nsIn (He.frG g [d]) d x with
  | some (some (.ref a)) => a
  | _ => 0
def clsA (g : Addr → Option Obj) (C : Addr) (ms : List Str) : List Addr := C :: nsA g C :: ms.flatMap fun m => codeA g (nsV g (nsA g C) m)
def adrs (g : Addr → Option Obj) : List Addr := mainGlobals :: (clsA g (nsV g mainGlobals "Ratio") ["__init__", "__eq__"] ++ (clsA g (nsV g mainGlobals "Amounts") ["__init__"] ++ (clsA g (nsV g mainGlobals "Blend") ["__init__", "__eq__", "__add__", "__mul__"] ++
  gnames.flatMap fun x => codeA g (nsV g mainGlobals x))))
def forceL {α : Type} : List Nat → (List Nat → α) → α
  | [], k => k []
  | a :: r, k => HandSHeadRun.frNat a fun a => forceL r fun r => k (a :: r)
theorem forceL_eq {α : Type} : ∀ (l : List Nat) (k : List Nat → α), forceL l k = k l
  | [], k => rfl
  | a :: r, k => by
    unfold forceL
    rw [HandSHeadRun.frNat_eq, forceL_eq r]
def forceK {α : Type} (g : Addr → Option Obj) : List Nat → (PySem.W.Frag → α) → α
  | [], k => k []
  | a :: r, k => match g a with
    | some ⟨c, d, dt, sl⟩ => forceK g r fun q => k ((a, ⟨c, d, dt, sl⟩) :: q)
    | none => forceK g r k
theorem forceK_eq {α : Type} (g : Addr → Option Obj) : ∀ (l : List Nat) (k : PySem.W.Frag → α), forceK g l k = k (He.frG g l)
  | [], k => rfl
  | a :: r, k => by
    unfold forceK
    cases e : g a with
    | none =>
      show forceK g r k = _
      rw [forceK_eq g r]
      unfold He.frG
      rw [List.filterMap_cons, e]
      rfl
    | some o =>
      obtain ⟨c, d, dt, sl⟩ := o
      show (forceK g r fun q => k ((a, ⟨c, d, dt, sl⟩) :: q)) = _
      rw [forceK_eq g r]
      unfold He.frG
      rw [List.filterMap_cons, e]
      rfl
def fa1 : List He.Fa := fa.take 80
def obsA (K : PySem.W.Frag) : Bool := (fa.take 60).all fun f => f.ok K
def obsB (K : PySem.W.Frag) : Bool := ((fa.drop 60).all fun f => f.ok K) && exB K
def obsC (K : PySem.W.Frag) : Bool := fn.all fun d => d.ok K
def obsD (K : PySem.W.Frag) : List He.FnW := fn.map fun d => He.fnW K d.at_
def onK {α : Type} (g : Addr → Option Obj) (f : PySem.W.Frag → α) : α := forceL (adrs g) fun as => forceK g as f
theorem onK_eq {α : Type} (g : Addr → Option Obj) (f : PySem.W.Frag → α) : onK g f = f (He.frG g (adrs g)) := by
  unfold onK
  rw [forceL_eq, forceK_eq]
abbrev Al : Type := Bool × Bool × Bool × List He.FnW
def obs (g : Addr → Option Obj) : Al := (onK g obsA, onK g obsB, onK g obsC, onK g obsD)
def valA : Al := (true, true, true, fn.map He.DefD.val)
theorem says_of {K : PySem.W.Frag} (h1 : obsA K = true) (h2 : obsB K = true) (h3 : obsC K = true) (h4 : obsD K = fn.map He.DefD.val) : Says K := by
  obtain ⟨h5, h6⟩ := He.ba h2
  refine ⟨?_, exB_ok h6⟩
  have e : (fa.all fun f => f.ok K) = true := by
    have h1' : ((fa.take 60).all fun f => f.ok K) = true := h1
    rw [← List.take_append_drop 60 fa, List.all_append, h1', h5]
    rfl
  show ((fa.all fun f => f.ok K) && fn.all fun d => d.ok K, fn.map fun d => He.fnW K d.at_) = (true, fn.map He.DefD.val)
  rw [e, show (fn.all fun d => d.ok K) = true from h3, show (fn.map fun d => He.fnW K d.at_) = fn.map He.DefD.val from h4]
  rfl
def hk : PySem.W.Hook where
  α := Al
  obs := fun s => obs s.heap.get?
  val := fun _ => valA
  says := fun _ h => ∃ K : PySem.W.Frag, K.In h ∧ Says K
  of := fun _ s e => by
    have e0 : (onK s.heap.get? obsA, onK s.heap.get? obsB, onK s.heap.get? obsC, onK s.heap.get? obsD) = valA := e
    rw [onK_eq, onK_eq, onK_eq, onK_eq] at e0
    simp only [valA, Prod.mk.injEq] at e0
    exact ⟨_, He.frG_in, says_of e0.1 e0.2.1 e0.2.2.1 e0.2.2.2⟩
  keeps := fun _ _ _ ⟨K, kin, c⟩ more => ⟨K, PySem.W.Frag.In.keeps kin more, c⟩
abbrev R : PySem.W.OpenRow := PySem.W.OpenLaw.row PySem.Challenge.rw_onecrest_k68_whole_greatest_lots
def ob (s : PySem.W.SharedT) : Al := obs (HandSHeadRun.getT s)
theorem ob_eq (s : PySem.W.SharedT) : ob s = hk.obs s.abs := by
  have e : HandSHeadRun.getT s = s.abs.heap.get? := funext (HandSHeadRun.getT_eq s)
  show obs (HandSHeadRun.getT s) = obs s.abs.heap.get?
  rw [e]
noncomputable abbrev theEnd (w : World) (os : OsState) : Option PySem.W.SharedT := HandSHeadRun.endF (HandSHeadRun.stepQ (HandSHeadRun.denQ HandSHeadRun.tabQ) R.prog w) 100000 R.prog w os
abbrev qv : Program := PySem.W.view R.prog [104]
/-- the top's run, what is left behind it -/
theorem run (w : World) : HandSHeadRun.RunEq R qv hk ob 100000 loose w := by
  intro os
  kernel_rfl
end Gl

namespace Gl
open PySem PySem.Spec L2 PyProof.Rows

/-! ### data -/
inductive Dt where
  | any | non | bl (b : Bool) | int (i : Int) | str (x : Str) | adr (a : Addr) | ty (n : String)
  | tup (xs : List Dt) | lst (xs : List Dt)
  | dic (kvs : List (List Int × Dt))
  | ins (c : Addr) (fs : List (Str × Dt))
  | ro (K : PySem.W.Frag) (ns : List Int)

mutual
def Rep (H : Hp) : Dt → V → Prop
  | .any, _ => True
  | .non, v => v = .non
  | .bl b, v => v = .bl b
  | .int i, v => v = .int i
  | .str x, v => v = .str x
  | .adr a, v => v = .ref a
  | .ty n, v => v = .ty n
  | .tup xs, v => ∃ a vs, v = .ref a ∧ H a = some (.tup vs) ∧ RepL H xs vs
  | .lst xs, v => ∃ a vs, v = .ref a ∧ H a = some (.lst vs) ∧ RepL H xs vs
  | .dic kvs, v => ∃ a ws, v = .ref a ∧ Rd H a (.dT ws) ∧ RepK H kvs ws
  | .ins c fs, v => ∃ a dx ws, v = .ref a ∧ H a = some (.ins c dx ws) ∧ RepF H fs ws
  | .ro K ns, v => ∃ a, v = .ref a ∧ SqL K H a (ns.map V.int)
def RepL (H : Hp) : List Dt → List V → Prop
  | [], vs => vs = []
  | d :: ds, vs => ∃ v r, vs = v :: r ∧ Rep H d v ∧ RepL H ds r
def RepK (H : Hp) : List (List Int × Dt) → List (List Key × V) → Prop
  | [], ws => ws = []
  | (k, d) :: r, ws => ∃ v t, ws = (k.map Sum.inl, v) :: t ∧ Rep H d v ∧ RepK H r t
def RepF (H : Hp) : List (Str × Dt) → List (Str × V) → Prop
  | [], ws => ws = []
  | (f, d) :: r, ws => ∃ v t, ws = (f, v) :: t ∧ Rep H d v ∧ RepF H r t
end

/-- what is to be read in the one is to be read in the other -/
structure Pres (H H' : Hp) : Prop where
  tup : ∀ a xs, H a = some (.tup xs) → H' a = some (.tup xs)
  lst : ∀ a xs, H a = some (.lst xs) → H' a = some (.lst xs)
  ins : ∀ a c dx ws, H a = some (.ins c dx ws) → H' a = some (.ins c dx ws)
  dic : ∀ a ws, Rd H a (.dT ws) → Rd H' a (.dT ws)
  fz : ∀ a o xs, H a = some (.frz o (.lst xs)) → H' a = some (.frz o (.lst xs))
theorem sq_pres {H H' : Hp} (p : Pres H H') {K : PySem.W.Frag} {a : Addr} {xs : List V} (h : SqL K H a xs) : SqL K H' a xs := by
  (rcases h with (h | ⟨o, h⟩) | h)
  · exact .inl (.inl (p.lst _ _ h))
  · exact .inl (.inr ⟨o, p.fz _ _ _ h⟩)
  · exact .inr h
mutual
theorem Rep.pres {H H' : Hp} (p : Pres H H') : ∀ (d : Dt) (v : V), Rep H d v → Rep H' d v
  | .any, _, _ => trivial
  | .non, _, h => h
  | .bl _, _, h => h
  | .int _, _, h => h
  | .str _, _, h => h
  | .adr _, _, h => h
  | .ty _, _, h => h
  | .tup xs, _, h => by
    obtain ⟨a, vs, e, g, r⟩ := h
    exact ⟨a, vs, e, p.tup _ _ g, RepL.pres p xs vs r⟩
  | .lst xs, _, h => by
    obtain ⟨a, vs, e, g, r⟩ := h
    exact ⟨a, vs, e, p.lst _ _ g, RepL.pres p xs vs r⟩
  | .dic kvs, _, h => by
    obtain ⟨a, ws, e, g, r⟩ := h
    exact ⟨a, ws, e, p.dic _ _ g, RepK.pres p kvs ws r⟩
  | .ins c fs, _, h => by
    obtain ⟨a, dx, ws, e, g, r⟩ := h
    exact ⟨a, dx, ws, e, p.ins _ _ _ _ g, RepF.pres p fs ws r⟩
  | .ro K ns, _, h => by
    obtain ⟨a, e, q⟩ := h
    exact ⟨a, e, sq_pres p q⟩
theorem RepL.pres {H H' : Hp} (p : Pres H H') : ∀ (ds : List Dt) (vs : List V), RepL H ds vs → RepL H' ds vs
  | [], _, h => h
  | d :: ds, _, h => by
    obtain ⟨v, r, e, g, t⟩ := h
    exact ⟨v, r, e, Rep.pres p d v g, RepL.pres p ds r t⟩
theorem RepK.pres {H H' : Hp} (p : Pres H H') : ∀ (ds : List (List Int × Dt)) (vs : List (List Key × V)), RepK H ds vs → RepK H' ds vs
  | [], _, h => h
  | (k, d) :: ds, _, h => by
    obtain ⟨v, r, e, g, t⟩ := h
    exact ⟨v, r, e, Rep.pres p d v g, RepK.pres p ds r t⟩
theorem RepF.pres {H H' : Hp} (p : Pres H H') : ∀ (ds : List (Str × Dt)) (vs : List (Str × V)), RepF H ds vs → RepF H' ds vs
  | [], _, h => h
  | (k, d) :: ds, _, h => by
    obtain ⟨v, r, e, g, t⟩ := h
    exact ⟨v, r, e, Rep.pres p d v g, RepF.pres p ds r t⟩
end
theorem Pres.refl (H : Hp) : Pres H H := ⟨fun _ _ h => h, fun _ _ h => h, fun _ _ _ _ h => h, fun _ _ h => h, fun _ _ _ h => h⟩
theorem Pres.trans {H H1 H2 : Hp} (p : Pres H H1) (q : Pres H1 H2) : Pres H H2 :=
  ⟨fun a xs h => q.tup a xs (p.tup a xs h), fun a xs h => q.lst a xs (p.lst a xs h), fun a c dx ws h => q.ins a c dx ws (p.ins a c dx ws h), fun a ws h => q.dic a ws (p.dic a ws h), fun a o xs h => q.fz a o xs (p.fz a o xs h)⟩
theorem Pres.of {H H' : Hp} (s : Same H H') : Pres H H' := by
  refine ⟨fun a xs h => s _ _ h, fun a xs h => s _ _ h, fun a c dx ws h => s _ _ h, fun a ws h => ?_, fun a o xs h => s _ _ h⟩
  rcases h with h | ⟨o, h⟩
  · exact .inl (s _ _ h)
  · exact .inr ⟨o, s _ _ h⟩
theorem Rep.same {H H' : Hp} {d : Dt} {v : V} (h : Rep H d v) (s : Same H H') : Rep H' d v := Rep.pres (.of s) d v h
theorem RepL.same {H H' : Hp} {d : List Dt} {v : List V} (h : RepL H d v) (s : Same H H') : RepL H' d v := RepL.pres (.of s) d v h
theorem RepK.same {H H' : Hp} {d : List (List Int × Dt)} {v : List (List Key × V)} (h : RepK H d v) (s : Same H H') : RepK H' d v := RepK.pres (.of s) d v h
theorem RepF.same {H H' : Hp} {d : List (Str × Dt)} {v : List (Str × V)} (h : RepF H d v) (s : Same H H') : RepF H' d v := RepF.pres (.of s) d v h

theorem RepL.length {H : Hp} : ∀ {ds : List Dt} {vs : List V}, RepL H ds vs → vs.length = ds.length
  | [], _, h => by rw [show _ = [] from h] <;> rfl
  | d :: ds, _, h => by
    obtain ⟨v, r, e, _, t⟩ := h
    rw [e, List.length_cons, List.length_cons, RepL.length t]
theorem RepL.get {H : Hp} : ∀ {ds : List Dt} {vs : List V}, RepL H ds vs → ∀ {i : Nat} {v : V}, vs[i]? = some v → ∃ d, ds[i]? = some d ∧ Rep H d v
  | [], _, h, i, v, e => by
    rw [show _ = [] from h] at e
    simp at e
  | d :: ds, _, h, i, v, e => by
    obtain ⟨w, r, e1, g, t⟩ := h
    subst e1
    cases i with
    | zero =>
      have e2 : w = v := Option.some.inj e
      exact ⟨d, rfl, e2 ▸ g⟩
    | succ i => exact RepL.get t (i := i) e
theorem RepL.at {H : Hp} : ∀ {ds : List Dt} {vs : List V}, RepL H ds vs → ∀ {i : Nat} {d : Dt}, ds[i]? = some d → ∃ v, vs[i]? = some v ∧ Rep H d v
  | [], _, h, i, v, e => by simp at e
  | d :: ds, _, h, i, v, e => by
    obtain ⟨w, r, e1, g, t⟩ := h
    subst e1
    cases i with
    | zero =>
      have e2 : d = v := Option.some.inj e
      exact ⟨w, rfl, e2 ▸ g⟩
    | succ i => exact RepL.at t (i := i) e
theorem RepL.append {H : Hp} : ∀ {ds : List Dt} {vs : List V} {es : List Dt} {ws : List V}, RepL H ds vs → RepL H es ws → RepL H (ds ++ es) (vs ++ ws)
  | [], _, es, ws, h, g => by
    rw [show _ = [] from h]
    exact g
  | d :: ds, _, es, ws, h, g => by
    obtain ⟨w, r, e1, a, t⟩ := h
    subst e1
    exact ⟨w, r ++ ws, rfl, a, RepL.append t g⟩
theorem RepL.one {H : Hp} {d : Dt} {v : V} (h : Rep H d v) : RepL H [d] [v] := ⟨v, [], rfl, h, rfl⟩
theorem RepL.nil {H : Hp} : RepL H [] [] := rfl
theorem RepL.cons {H : Hp} {d : Dt} {v : V} {ds : List Dt} {vs : List V} (h : Rep H d v) (t : RepL H ds vs) : RepL H (d :: ds) (v :: vs) := ⟨v, vs, rfl, h, t⟩
theorem RepL.drop {H : Hp} : ∀ {ds : List Dt} {vs : List V} (n : Nat), RepL H ds vs → RepL H (ds.drop n) (vs.drop n)
  | ds, vs, 0, h => h
  | [], _, n + 1, h => by
    rw [show _ = [] from h]
    exact rfl
  | d :: ds, _, n + 1, h => by
    obtain ⟨w, r, e1, a, t⟩ := h
    subst e1
    exact RepL.drop n t
theorem RepL.take {H : Hp} : ∀ {ds : List Dt} {vs : List V} (n : Nat), RepL H ds vs → RepL H (ds.take n) (vs.take n)
  | ds, vs, 0, h => by simp [RepL.nil]
  | [], _, n + 1, h => by
    rw [show _ = [] from h]
    exact rfl
  | d :: ds, _, n + 1, h => by
    obtain ⟨w, r, e1, a, t⟩ := h
    subst e1
    exact ⟨w, r.take n, rfl, a, RepL.take n t⟩
theorem RepL.of_ints {H : Hp} : ∀ {ns : List Int} {vs : List V}, RepL H (ns.map .int) vs → vs = ns.map .int
  | [], _, h => h
  | n :: ns, _, h => by
    obtain ⟨w, r, e1, a, t⟩ := h
    have e2 : w = .int n := a
    rw [e1, e2, RepL.of_ints t]
    rfl
theorem RepL.ints {H : Hp} : ∀ (ns : List Int), RepL H (ns.map .int) (ns.map .int)
  | [] => rfl
  | n :: ns => ⟨_, _, rfl, rfl, RepL.ints ns⟩
theorem RepL.of_bls {H : Hp} : ∀ {ns : List Bool} {vs : List V}, RepL H (ns.map .bl) vs → vs = ns.map .bl
  | [], _, h => h
  | n :: ns, _, h => by
    obtain ⟨w, r, e1, a, t⟩ := h
    have e2 : w = .bl n := a
    rw [e1, e2, RepL.of_bls t]
    rfl

/-! ### what is hidden -/
def hid (P : Addr → Bool) (H : Hp) : Hp := fun a => if P a = true then none else H a
theorem hid_no {P : Addr → Bool} {H : Hp} {a : Addr} (h : P a = false) : hid P H a = H a := by
  unfold hid
  rw [h]
  rfl
theorem hid_yes {P : Addr → Bool} {H : Hp} {a : Addr} (h : P a = true) : hid P H a = none := by
  unfold hid
  rw [h]
  rfl
theorem hid_some {P : Addr → Bool} {H : Hp} {a : Addr} {o : HO} (h : hid P H a = some o) : P a = false ∧ H a = some o := by
  cases e : P a with
  | true =>
    rw [hid_yes e] at h
    cases h
  | false =>
    rw [hid_no e] at h
    exact ⟨rfl, h⟩
theorem hid_le {P : Addr → Bool} {H : Hp} : Same (hid P H) H := fun a o h => (hid_some h).2
theorem _root_.L2.Same.hid {P : Addr → Bool} {H H' : Hp} (s : Same H H') : Same (hid P H) (hid P H') := fun a o h => by
  obtain ⟨h1, h2⟩ := hid_some h
  rw [hid_no h1]
  exact s _ _ h2
theorem same_new {H : Hp} {p : Addr} {o : HO} (h : H p = none) : Same H (upd H p o) := fun b x e => by
  rw [upd_ne (ne_of_none e h)]
  exact e
/-- what is hidden stands, and is no tuple: a new object is not hidden -/
def Pok (P : Addr → Bool) (H : Hp) : Prop := ∀ a, P a = true → ∃ o, H a = some o ∧ ∀ xs, o ≠ .tup xs
theorem Pok.no {P : Addr → Bool} {H : Hp} (k : Pok P H) {a : Addr} (h : H a = none) : P a = false := by
  cases e : P a with
  | false => rfl
  | true =>
    obtain ⟨o, q, _⟩ := k a e
    rw [h] at q
    cases q
theorem Pok.tup {P : Addr → Bool} {H : Hp} (k : Pok P H) {a : Addr} {xs : List V} (h : H a = some (.tup xs)) : hid P H a = some (.tup xs) := by
  cases e : P a with
  | false => rw [hid_no e, h]
  | true =>
    obtain ⟨o, q, n⟩ := k a e
    rw [h] at q
    exact absurd (Option.some.inj q).symm (n xs)
theorem Pok.same {P : Addr → Bool} {H H' : Hp} (k : Pok P H) (s : Same H H') : Pok P H' := fun a h => by
  obtain ⟨o, e, n⟩ := k a h
  exact ⟨o, s _ _ e, n⟩

/-! ### the slots -/
abbrev En := List (Option Dt)
structure ERep (H : Hp) (σ : L2.St) (ρ : En) : Prop where
  len : σ.length = ρ.length
  get : ∀ (i : Nat) (d : Dt), ρ[i]? = some (some d) → ∃ v, σ[i]? = some (some v) ∧ Rep H d v
theorem ERep.pres {H H' : Hp} {σ : L2.St} {ρ : En} (h : ERep H σ ρ) (p : Pres H H') : ERep H' σ ρ := ⟨h.len, fun i d e => by
  obtain ⟨v, g, r⟩ := h.get i d e
  exact ⟨v, g, Rep.pres p d v r⟩⟩
theorem ERep.same {H H' : Hp} {σ : L2.St} {ρ : En} (h : ERep H σ ρ) (s : Same H H') : ERep H' σ ρ := h.pres (.of s)
theorem ERep.set {H : Hp} {σ : L2.St} {ρ : En} (h : ERep H σ ρ) (i : Nat) {d : Dt} {v : V} (r : Rep H d v) : ERep H (σ.set i (some v)) (ρ.set i (some d)) := by
  refine ⟨by rw [List.length_set, List.length_set, h.len], fun j e q => ?_⟩
  by_cases hj : i = j
  · subst hj
    by_cases hl : i < ρ.length
    · rw [List.getElem?_set_self hl] at q
      have q2 : d = e := Option.some.inj (Option.some.inj q)
      subst q2
      exact ⟨v, by rw [List.getElem?_set_self (by rw [h.len]; exact hl)], r⟩
    · rw [List.getElem?_eq_none (by rw [List.length_set]; omega)] at q
      cases q
  · rw [List.getElem?_set_ne hj] at q
    obtain ⟨w, g, r2⟩ := h.get j e q
    exact ⟨w, by rw [List.getElem?_set_ne hj]; exact g, r2⟩
/-- a slot forgotten -/
theorem ERep.drop {H : Hp} {σ : L2.St} {ρ : En} (h : ERep H σ ρ) (i : Nat) (x : Option V) : ERep H (σ.set i x) (ρ.set i none) := by
  refine ⟨by rw [List.length_set, List.length_set, h.len], fun j e q => ?_⟩
  by_cases hj : i = j
  · subst hj
    by_cases hl : i < ρ.length
    · rw [List.getElem?_set_self hl] at q
      cases q
    · rw [List.getElem?_eq_none (by rw [List.length_set]; omega)] at q
      cases q
  · rw [List.getElem?_set_ne hj] at q
    obtain ⟨w, g, r2⟩ := h.get j e q
    exact ⟨w, by rw [List.getElem?_set_ne hj]; exact g, r2⟩
def wipeD (ρ : En) : List Nat → En
  | [] => ρ
  | v :: vs => (wipeD ρ vs).set v none
theorem ERep.wipe {H : Hp} {σ : L2.St} {ρ : En} (h : ERep H σ ρ) : ∀ vs : List Nat, ERep H (wipe σ vs) (wipeD ρ vs)
  | [] => h
  | v :: vs => (ERep.wipe h vs).drop v none

/-! ### the static part of a context -/
structure Sx where
  prog : Program
  w : World
  K : PySem.W.Frag
  mg : Str → Option Value
  base : Heap
  N : List Str
  sc : Scope
  fn : Str → Bool
  k : Nat
structure Sx.Has (S : Sx) (X : Cx) : Prop where
  prog : X.prog = S.prog
  w : X.w = S.w
  K : X.K = S.K
  mg : X.mg = S.mg
  base : X.base = S.base
  N : X.N = S.N
  sc : X.env.scope = S.sc
  fn : ∀ x, S.fn x = true → X.fn x = true
  room : Room S.k X.A
  calm : X.calm = true
def Sx.blk (S : Sx) (scope : Scope) : Sx := { S with sc := relS scope S.sc, fn := fun x => scope.names.lookup x == some .cell }
theorem Sx.Has.blk {S : Sx} {X : Cx} (h : S.Has X) (s : Shared) (H : Hp) (scope : Scope) (cl : List (Str × Addr)) (C : Addr) (fp : List Addr) : (S.blk scope).Has (X.blk s H scope (compEnvC scope cl C X.env) fp) := by
  refine ⟨h.prog, h.w, h.K, h.mg, h.base, h.N, ?_, fun x e => e, h.room, h.calm⟩
  show relS scope X.env.scope = relS scope S.sc
  rw [h.sc]

/-! ### the weakest readings -/
structure wE (X : Cx) (e : Expr) (σ : L2.St) (H : Hp) (Q : VK) : Prop where
  run : ∀ pins s, Inv X pins σ H s → wpAny (model X.prog X.w) X.A (eval e X.env) (EP X pins σ Q) X.xe s
structure wT (X : Cx) (e : Expr) (σ : L2.St) (H : Hp) (Q : Bool → Hp → Prop) : Prop where
  run : ∀ pins s, Inv X pins σ H s → wpAny (model X.prog X.w) X.A (isTrue e X.env (eval e X.env)) (TP X pins σ Q) X.xe s
structure wW (X : Cx) (e : Expr) (σ : L2.St) (H : Hp) (Q : Bool → Hp → Prop) : Prop where
  run : ∀ whole pins s, Inv X pins σ H s → wpAny (model X.prog X.w) X.A (isTrue e X.env whole) (TP X pins σ Q) X.xe s
structure wA (X : Cx) (es : List Expr) (σ : L2.St) (H : Hp) (Q : List V → Hp → Prop) : Prop where
  run : ∀ pos pins s, Inv X pins σ H s → wpAny (model X.prog X.w) X.A (spliced (backTo pos (starEach es X.env))) (AP X pins σ Q) X.xe s
structure wC (X : Cx) (op : CmpOp) (a b : Expr) (σ : L2.St) (H : Hp) (Q : VK) : Prop where
  run : ∀ pins s, Inv X pins σ H s → wpAny (model X.prog X.w) X.A (eval a X.env) (fun v s₁ => wpAny (model X.prog X.w) X.A (eval b X.env) (fun u s₂ => wpAny (model X.prog X.w) X.A (compareOp op v u) (EP X pins σ Q) X.xe s₂) X.xe s₁) X.xe s
structure wS (X : Cx) (st : Stmt) (D : Ends) (σ : L2.St) (H : Hp) : Prop where
  run : ∀ pins s, Inv X pins σ H s → wpAny (model X.prog X.w) X.A (exec st X.env) (SP X pins D) X.xe s
structure wSs (X : Cx) (st : List Stmt) (D : Ends) (σ : L2.St) (H : Hp) : Prop where
  run : ∀ pins s, Inv X pins σ H s → wpAny (model X.prog X.w) X.A (execs st X.env) (SP X pins D) X.xe s
structure wG (X : Cx) (tg : Expr) (v : V) (σ : L2.St) (H : Hp) (Q : L2.St → Hp → Prop) : Prop where
  run : ∀ pins s u, Inv X pins σ H s → RelV v u → wpAny (model X.prog X.w) X.A (assign tg X.env u) (fun _ s' => ∃ σ' H', Inv X pins σ' H' s' ∧ Q σ' H') X.xe s
structure wI (X : Cx) (tg iter : Expr) (σ : L2.St) (H : Hp) (R : It → Hp → Prop) : Prop where
  run : ∀ pins s, Inv X pins σ H s → wpAny (model X.prog X.w) X.A (eval iter X.env) (fun v s1 => wpAny (model X.prog X.w) X.A (pyIter v) (PIE X pins σ tg R) X.xe s1) X.xe s
section
variable {X : Cx} {e a b : Expr} {es : List Expr} {op : CmpOp} {st : Stmt} {sts : List Stmt} {tg iter : Expr} {σ : L2.St} {H : Hp}
theorem pe_w : PE X e (wE X e) := ⟨fun pins s σ H Q I h => h.run pins s I⟩
theorem pt_w : PT X e (wT X e) := ⟨fun pins s σ H Q I h => h.run pins s I⟩
theorem pw_w : PW X e (wW X e) := ⟨fun wh pins s σ H Q I h => h.run wh pins s I⟩
theorem pa_w : PA X es (wA X es) := ⟨fun pos pins s σ H Q I h => h.run pos pins s I⟩
theorem pc_w : PC X op a b (wC X op a b) := ⟨fun pins s σ H Q I h => h.run pins s I⟩
theorem ps_w : PS X st (wS X st) := ⟨fun pins s σ H D I h => h.run pins s I⟩
theorem pss_w : PSs X sts (wSs X sts) := ⟨fun pins s σ H D I h => h.run pins s I⟩
theorem pg_w : PG X tg (wG X tg) := ⟨fun pins s σ H v u Q I r h => h.run pins s u I r⟩
theorem pi_w : PI X tg iter (wI X tg iter) := ⟨fun pins s σ H R I h => h.run pins s I⟩
theorem wE.of {t : TE} {Q : VK} (h : PE X e t) (q : t σ H Q) : wE X e σ H Q := ⟨fun pins s I => h.run pins s σ H Q I q⟩
theorem wT.of {t : TT} {Q : Bool → Hp → Prop} (h : PT X e t) (q : t σ H Q) : wT X e σ H Q := ⟨fun pins s I => h.run pins s σ H Q I q⟩
theorem wW.of {t : TT} {Q : Bool → Hp → Prop} (h : PW X e t) (q : t σ H Q) : wW X e σ H Q := ⟨fun wh pins s I => h.run wh pins s σ H Q I q⟩
theorem wA.of {t : TA} {Q : List V → Hp → Prop} (h : PA X es t) (q : t σ H Q) : wA X es σ H Q := ⟨fun pos pins s I => h.run pos pins s σ H Q I q⟩
theorem wC.of {t : TE} {Q : VK} (h : PC X op a b t) (q : t σ H Q) : wC X op a b σ H Q := ⟨fun pins s I => h.run pins s σ H Q I q⟩
theorem wS.of {t : TS} {D : Ends} (h : PS X st t) (q : t D σ H) : wS X st D σ H := ⟨fun pins s I => h.run pins s σ H D I q⟩
theorem wSs.of {t : TS} {D : Ends} (h : PSs X sts t) (q : t D σ H) : wSs X sts D σ H := ⟨fun pins s I => h.run pins s σ H D I q⟩
theorem wG.of {t : TG} {v : V} {Q : L2.St → Hp → Prop} (h : PG X tg t) (q : t v σ H Q) : wG X tg v σ H Q := ⟨fun pins s u I r => h.run pins s σ H v u Q I r q⟩
theorem wI.of {t : TI} {R : It → Hp → Prop} (h : PI X tg iter t) (q : t σ H R) : wI X tg iter σ H R := ⟨fun pins s I => h.run pins s σ H R I q⟩
end

/-! ### the pot of draws -/
def Pot (H : Hp) (p : Addr) : Prop := ∃ a b : Int, 0 ≤ a ∧ 0 ≤ b ∧ b < 4294967296 ∧ H p = some (.lst [.int a, .int b])
/-- the heap has grown, but for the pot, which is one still -/
structure Go (q : Option Addr) (H H' : Hp) : Prop where
  keep : ∀ a o, some a ≠ q → H a = some o → H' a = some o
  pot : ∀ p, q = some p → Pot H p → Pot H' p
theorem Go.refl (q : Option Addr) (H : Hp) : Go q H H := ⟨fun _ _ _ h => h, fun _ _ h => h⟩
theorem Go.trans {q : Option Addr} {H H1 H2 : Hp} (a : Go q H H1) (b : Go q H1 H2) : Go q H H2 := ⟨fun c o n h => b.keep c o n (a.keep c o n h), fun p e h => b.pot p e (a.pot p e h)⟩
theorem Go.of {q : Option Addr} {H H' : Hp} (s : Same H H') : Go q H H' := ⟨fun c o _ h => s c o h, fun p _ ⟨a, b, h1, h2, h3, h4⟩ => ⟨a, b, h1, h2, h3, s _ _ h4⟩⟩
theorem Go.none {H H' : Hp} (g : Go none H H') : Same H H' := fun a o h => g.keep a o (by intro e; cases e) h
/-- what is asked of the hidden part: the pot is hidden and is one; all that is hidden stands -/
structure Wd (P : Addr → Bool) (q : Option Addr) (H : Hp) : Prop where
  ok : Pok P H
  hid : ∀ p, q = some p → P p = true ∧ Pot H p
theorem Wd.go {P : Addr → Bool} {q : Option Addr} {H H' : Hp} (d : Wd P q H) (g : Go q H H') : Wd P q H' := by
  refine ⟨fun a h => ?_, fun p e => ⟨(d.hid p e).1, g.pot p e (d.hid p e).2⟩⟩
  by_cases hq : some a = q
  · obtain ⟨x, y, _, _, _, h4⟩ := g.pot a hq.symm (d.hid a hq.symm).2
    exact ⟨_, h4, fun xs z => by cases z⟩
  · obtain ⟨o, e, n⟩ := d.ok a h
    exact ⟨o, g.keep a o hq e, n⟩
theorem Wd.same {P : Addr → Bool} {q : Option Addr} {H H' : Hp} (d : Wd P q H) (g : Go q H H') : Same (Gl.hid P H) (Gl.hid P H') := fun a o h => by
  obtain ⟨h1, h2⟩ := hid_some h
  rw [hid_no h1]
  refine g.keep a o (fun e => ?_) h2
  rw [(d.hid a e.symm).1] at h1
  cases h1

/-! ### the judgements -/
/-- e is worth some d of which R says so; only the pot may change -/
def EV (S : Sx) (q : Option Addr) (e : Expr) (ρ : En) (R : Dt → Prop) : Prop := ∀ X, S.Has X → ∀ (P : Addr → Bool) (σ : L2.St) (H : Hp), Wd P q H → ERep (hid P H) σ ρ →
  ∀ Q : VK, (∀ v d H', Go q H H' → R d → Rep (hid P H') d v → Q v H') → wE X e σ H Q
/-- e is worth d, nothing changes -/
def ED (S : Sx) (e : Expr) (ρ : En) (d : Dt) : Prop := ∀ X, S.Has X → ∀ (P : Addr → Bool) (σ : L2.St) (H : Hp), Pok P H → ERep (hid P H) σ ρ →
  ∀ Q : VK, (∀ v H', Same H H' → Rep (hid P H') d v → Q v H') → wE X e σ H Q
def ET (S : Sx) (e : Expr) (ρ : En) (b : Bool) : Prop := ∀ X, S.Has X → ∀ (P : Addr → Bool) (σ : L2.St) (H : Hp), Pok P H → ERep (hid P H) σ ρ →
  ∀ Q : Bool → Hp → Prop, (∀ H', Same H H' → Q b H') → wT X e σ H Q
def EW (S : Sx) (e : Expr) (ρ : En) (b : Bool) : Prop := ∀ X, S.Has X → ∀ (P : Addr → Bool) (σ : L2.St) (H : Hp), Pok P H → ERep (hid P H) σ ρ →
  ∀ Q : Bool → Hp → Prop, (∀ H', Same H H' → Q b H') → wW X e σ H Q
def EC (S : Sx) (op : CmpOp) (a b : Expr) (ρ : En) (d : Dt) : Prop := ∀ X, S.Has X → ∀ (P : Addr → Bool) (σ : L2.St) (H : Hp), Pok P H → ERep (hid P H) σ ρ →
  ∀ Q : VK, (∀ v H', Same H H' → Rep (hid P H') d v → Q v H') → wC X op a b σ H Q
def EA (S : Sx) (es : List Expr) (ρ : En) (ds : List Dt) : Prop := ∀ X, S.Has X → ∀ (P : Addr → Bool) (σ : L2.St) (H : Hp), Pok P H → ERep (hid P H) σ ρ →
  ∀ Q : List V → Hp → Prop, (∀ vs H', Same H H' → RepL (hid P H') ds vs → Q vs H') → wA X es σ H Q
/-- tests, arguments with the pot -/
def VT (S : Sx) (q : Option Addr) (e : Expr) (ρ : En) (R : Bool → Prop) : Prop := ∀ X, S.Has X → ∀ (P : Addr → Bool) (σ : L2.St) (H : Hp), Wd P q H → ERep (hid P H) σ ρ →
  ∀ Q : Bool → Hp → Prop, (∀ b H', Go q H H' → R b → Q b H') → wT X e σ H Q
def VA (S : Sx) (q : Option Addr) (es : List Expr) (ρ : En) (R : List Dt → Prop) : Prop := ∀ X, S.Has X → ∀ (P : Addr → Bool) (σ : L2.St) (H : Hp), Wd P q H → ERep (hid P H) σ ρ →
  ∀ Q : List V → Hp → Prop, (∀ vs ds H', Go q H H' → R ds → RepL (hid P H') ds vs → Q vs H') → wA X es σ H Q
/-- statements: next by Rn, a return by Rr -/
def SV (S : Sx) (q : Option Addr) (sts : List Stmt) (ρ : En) (Rn : En → Prop) (Rr : Dt → Prop) : Prop := ∀ X, S.Has X → ∀ (P : Addr → Bool) (σ : L2.St) (H : Hp), Wd P q H → ERep (hid P H) σ ρ →
  ∀ D : Ends, (∀ σ' ρ' H', Go q H H' → ERep (hid P H') σ' ρ' → Rn ρ' → D.nx σ' H') → (∀ v d H', Go q H H' → Rep (hid P H') d v → Rr d → D.rt v H') → wSs X sts D σ H
/-- a target takes d: the slots js alone change -/
def GV (S : Sx) (tg : Expr) (js : List Nat) (d : Dt) (ρ ρ' : En) : Prop := ∀ X, S.Has X → ∀ (P : Addr → Bool) (σ : L2.St) (H : Hp) (v : V), Pok P H → ERep (hid P H) σ ρ → Rep (hid P H) d v →
  ∀ Q : L2.St → Hp → Prop, (∀ σ', σ'.length = σ.length → (∀ k, k ∉ js → σ'[k]? = σ[k]?) → ERep (hid P H) σ' ρ' → Q σ' H) → wG X tg v σ H Q
/-- more is hidden, of what was not there -/
structure Wx (P P' : Addr → Bool) (H1 : Hp) : Prop where
  le : ∀ a, P a = true → P' a = true
  ge : ∀ a, P' a = true → P a = true ∨ H1 a = none
theorem Wx.refl (P : Addr → Bool) (H1 : Hp) : Wx P P H1 := ⟨fun _ h => h, fun _ h => .inl h⟩
theorem Wx.eq {P P' : Addr → Bool} {H1 : Hp} (x : Wx P P' H1) : Gl.hid P' H1 = Gl.hid P H1 := by
  funext a
  cases e : P a with
  | true => rw [hid_yes e, hid_yes (x.le a e)]
  | false =>
    cases e' : P' a with
    | false => rw [hid_no e, hid_no e']
    | true =>
      rw [hid_no e, hid_yes e']
      rcases x.ge a e' with h | h
      · rw [e] at h
        cases h
      · exact h.symm
/-- what is walked yields ds, one behind another, while what is not hidden stands -/
structure Wk (P : Addr → Bool) (ds : List Dt) (J : It) (H1 : Hp) : Prop where
  go : ∀ i H, Same (hid P H1) (hid P H) → i < ds.length → J.go i H
  stop : ∀ i H, Same (hid P H1) (hid P H) → ds.length ≤ i → J.stop i H
  yld : ∀ P', Wx P P' H1 → ∀ i H x H', Same (hid P' H1) (hid P' H) → Pok P' H → i < ds.length → J.yld i H x H' → Same H H' ∧ ∃ d, ds[i]? = some d ∧ Rep (hid P' H') d x
def IV (S : Sx) (tg iter : Expr) (ρ : En) (ds : List Dt) : Prop := ∀ X, S.Has X → ∀ (P : Addr → Bool) (σ : L2.St) (H : Hp), Pok P H → ERep (hid P H) σ ρ →
  ∀ R : It → Hp → Prop, (∀ J H', Same H H' → Wk P ds J H' → R J H') → wI X tg iter σ H R
end Gl

namespace Gl
open PySem PySem.Spec L2 PyProof.Rows

section
variable {S : Sx} {q : Option Addr} {ρ : En} {d da db : Dt} {e a b c : Expr} {es : List Expr} {pos : Pos} {x : Str} {i : Nat}

/-! ### between the judgements -/
theorem EV.of {R : Dt → Prop} (h : ED S e ρ d) (r : R d) : EV S q e ρ R := fun X hX P σ H w er Q k =>
  h X hX P σ H w.ok er Q fun v H' s rp => k v d H' (.of s) r rp
theorem EV.mono {R R' : Dt → Prop} (h : EV S q e ρ R) (m : ∀ d, R d → R' d) : EV S q e ρ R' := fun X hX P σ H w er Q k =>
  h X hX P σ H w er Q fun v d H' s r rp => k v d H' s (m d r) rp
theorem ED.of (h : EV S none e ρ (fun z => z = d)) : ED S e ρ d := fun X hX P σ H w er Q k =>
  h X hX P σ H ⟨w, fun p z => by cases z⟩ er Q fun v d' H' s r rp => k v H' s.none (by rw [← show d' = d from r]; exact rp)
theorem ED.is (h : ED S e ρ da) (z : da = db) : ED S e ρ db := z ▸ h
theorem ET.is {k k' : Bool} (h : ET S e ρ k) (z : k = k') : ET S e ρ k' := z ▸ h
theorem VT.of {k : Bool} {R : Bool → Prop} (h : ET S e ρ k) (r : R k) : VT S q e ρ R := fun X hX P σ H w er Q z =>
  h X hX P σ H w.ok er Q fun H' s => z k H' (.of s) r

/-! ### names, constants -/
theorem ed_name (i : Nat) (hr : ρ[i]? = some (some d)) (hN : S.N[i]? = some x := by rfl) (hv : Vis S.sc x := by first | exact Or.inl rfl | exact Or.inr (Or.inl rfl) | exact Or.inr (Or.inr rfl))
    (hd : (x == ("__debug__" : Str)) = false := by decide) (hcd : (x == ("__classdict__" : Str)) = false := by decide) : ED S (.Name x pos) ρ d := fun X hX P σ H w er Q k => by
  obtain ⟨v, g, r⟩ := er.get i d hr
  refine wE.of (pe_var (i := i) (by rw [hX.N]; exact hN) (by rw [hX.sc]; exact hv) hd hcd) ?_
  exact ⟨v, g, k v H (Same.refl H) r⟩
theorem ed_int {n : Int} {j : Nat} : ED S (.Constant (.int n) j pos) ρ (.int n) := fun X hX P σ H w er Q k => wE.of pe_int (k (.int n) H (Same.refl H) rfl)
theorem ed_bl {n : Bool} {j : Nat} : ED S (.Constant (.bool n) j pos) ρ (.bl n) := fun X hX P σ H w er Q k => wE.of pe_bl (k (.bl n) H (Same.refl H) rfl)
theorem ed_non {j : Nat} : ED S (.Constant .none j pos) ρ .non := fun X hX P σ H w er Q k => wE.of pe_non (k .non H (Same.refl H) rfl)
theorem ed_str {z : Str} {j : Nat} : ED S (.Constant (.str z) j pos) ρ (.str z) := fun X hX P σ H w er Q k => wE.of pe_str (k (.str z) H (Same.refl H) rfl)
theorem Sx.Has.gl {X : Cx} (h : S.Has X) (hg : S.sc.names.lookup x = some .globalImplicit) : L2.Gl X x := by
  show X.env.scope.names.lookup x = _
  rw [h.sc]
  exact hg
theorem ed_globI {n : Int} (hm : ∃ t, S.mg x = some (.int n t)) (hg : S.sc.names.lookup x = some .globalImplicit := by rfl) (hd : (x == ("__debug__" : Str)) = false := by decide) : ED S (.Name x pos) ρ (.int n) := fun X hX P σ H w er Q k => by
  obtain ⟨t, hm⟩ := hm
  exact wE.of (pe_glob (v := .int n) (hX.gl hg) (by rw [hX.mg]; exact hm) ⟨_, rfl⟩ hd) (k (.int n) H (Same.refl H) rfl)
theorem ed_globS {z : Str} (hm : ∃ t, S.mg x = some (.str z t)) (hg : S.sc.names.lookup x = some .globalImplicit := by rfl) (hd : (x == ("__debug__" : Str)) = false := by decide) : ED S (.Name x pos) ρ (.str z) := fun X hX P σ H w er Q k => by
  obtain ⟨t, hm⟩ := hm
  exact wE.of (pe_glob (v := .str z) (hX.gl hg) (by rw [hX.mg]; exact hm) ⟨_, rfl⟩ hd) (k (.str z) H (Same.refl H) rfl)
theorem ed_globR {z : Addr} (hm : S.mg x = some (.ref z)) (hg : S.sc.names.lookup x = some .globalImplicit := by rfl) (hd : (x == ("__debug__" : Str)) = false := by decide) : ED S (.Name x pos) ρ (.adr z) := fun X hX P σ H w er Q k =>
  wE.of (pe_glob (v := .ref z) (hX.gl hg) (by rw [hX.mg]; exact hm) rfl hd) (k (.ref z) H (Same.refl H) rfl)
theorem ed_ty {n : String} (hm : S.mg x = none) (hv : bootBuiltins x = some (.type n) := by decide +kernel) (hg : S.sc.names.lookup x = some .globalImplicit := by rfl) (hn : x ≠ "__name__" := by decide) (hd : (x == ("__debug__" : Str)) = false := by decide) :
    ED S (.Name x pos) ρ (.ty n) := fun X hX P σ H w er Q k =>
  wE.of (pe_bltn (v := .ty n) (hX.gl hg) (by rw [hX.mg]; exact hm) hv rfl hn hd) (k (.ty n) H (Same.refl H) rfl)

/-! ### operators -/
/-- what an operation on two data gives -/
def RD (r : R2) (da db d : Dt) : Prop := ∀ (P : Addr → Bool) (H : Hp) (x y : V), Pok P H → Rep (hid P H) da x → Rep (hid P H) db y → ∀ Q : VK, (∀ v H', Same H H' → Rep (hid P H') d v → Q v H') → r x y H Q
theorem ed_op {op : Operator} {r : R2} (ho : ∀ X, S.Has X → OpR X (binaryOp op) r) (ha : ED S a ρ da) (hb : ED S b ρ db) (hr : RD r da db d) : ED S (.BinOp a op b pos) ρ d := fun X hX P σ H w er Q k => by
  refine wE.of (pe_op (ho X hX) pe_w pe_w) ?_
  refine ha X hX P σ H w er _ fun v H1 s1 r1 => ?_
  refine hb X hX P σ H1 (w.same s1) (er.same s1.hid) _ fun u H2 s2 r2 => ?_
  refine hr P H2 v u ((w.same s1).same s2) (r1.same s2.hid) r2 Q fun z H3 s3 r3 => ?_
  exact k z H3 ((s1.trans s2).trans s3) r3
/-- .. with the pot -/
theorem ev_op {op : Operator} {r : R2} {Ra Rb R : Dt → Prop} (ho : ∀ X, S.Has X → OpR X (binaryOp op) r) (ha : EV S q a ρ Ra) (hb : EV S q b ρ Rb) (hr : ∀ da db, Ra da → Rb db → ∃ d, R d ∧ RD r da db d) : EV S q (.BinOp a op b pos) ρ R := fun X hX P σ H w er Q k => by
  refine wE.of (pe_op (ho X hX) pe_w pe_w) ?_
  refine ha X hX P σ H w er _ fun v d1 H1 g1 q1 r1 => ?_
  refine hb X hX P σ H1 (w.go g1) (er.same (w.same g1)) _ fun u d2 H2 g2 q2 r2 => ?_
  obtain ⟨d, rd, h⟩ := hr d1 d2 q1 q2
  refine h P H2 v u ((w.go g1).go g2).ok (r1.same ((w.go g1).same g2)) r2 Q fun z H3 s3 r3 => ?_
  exact k z d H3 ((g1.trans g2).trans (.of s3)) rd r3
theorem rd_I0 {g : Int → Int → V} {f : Int → Int → Dt} (hg : ∀ i j H, Rep H (f i j) (g i j)) {i j : Int} : RD (rI0 g) (.int i) (.int j) (f i j) := fun P H x y w hx hy Q k =>
  ⟨i, j, hx, hy, k _ H (Same.refl H) (hg i j _)⟩
theorem rd_I {C : Int → Int → Prop} {g : Int → Int → V} {f : Int → Int → Dt} (hg : ∀ i j H, Rep H (f i j) (g i j)) {i j : Int} (hc : C i j) : RD (rI C g) (.int i) (.int j) (f i j) := fun P H x y w hx hy Q k =>
  ⟨i, j, hx, hy, hc, k _ H (Same.refl H) (hg i j _)⟩
theorem ed_add {m n : Int} (ha : ED S a ρ (.int m)) (hb : ED S b ρ (.int n)) : ED S (.BinOp a .Add b pos) ρ (.int (m + n)) := ed_op (fun X _ => op_add) ha hb (rd_I0 (f := fun i j => .int (i + j)) fun _ _ _ => rfl)
theorem ed_sub {m n : Int} (ha : ED S a ρ (.int m)) (hb : ED S b ρ (.int n)) : ED S (.BinOp a .Sub b pos) ρ (.int (m - n)) := ed_op (fun X _ => op_sub) ha hb (rd_I0 (f := fun i j => .int (i - j)) fun _ _ _ => rfl)
theorem ed_mul {m n : Int} (ha : ED S a ρ (.int m)) (hb : ED S b ρ (.int n)) (hc : CMul m n) : ED S (.BinOp a .Mult b pos) ρ (.int (m * n)) := ed_op (fun X _ => op_mul) ha hb (rd_I (f := fun i j => .int (i * j)) (fun _ _ _ => rfl) hc)
theorem ed_mod {m n : Int} (ha : ED S a ρ (.int m)) (hb : ED S b ρ (.int n)) (hc : 0 < n) : ED S (.BinOp a .Mod b pos) ρ (.int (m % n)) := ed_op (fun X _ => op_mod) ha hb (rd_I (C := fun _ j => 0 < j) (f := fun i j => .int (i % j)) (fun _ _ _ => rfl) hc)
theorem ed_fdiv {m n : Int} (ha : ED S a ρ (.int m)) (hb : ED S b ρ (.int n)) (hc : CDiv m n) : ED S (.BinOp a .FloorDiv b pos) ρ (.int (m / n)) := ed_op (fun X _ => op_fdiv) ha hb (rd_I (f := fun i j => .int (i / j)) (fun _ _ _ => rfl) hc)
theorem ed_pow {m n : Int} (ha : ED S a ρ (.int m)) (hb : ED S b ρ (.int n)) (hc : CPow m n) : ED S (.BinOp a .Pow b pos) ρ (.int (m ^ n.toNat)) := ed_op (fun X _ => op_pow) ha hb (rd_I (f := fun i j => .int (i ^ j.toNat)) (fun _ _ _ => rfl) hc)
theorem ed_neg {m : Int} (ha : ED S a ρ (.int m)) : ED S (.UnaryOp .USub a pos) ρ (.int (-m)) := fun X hX P σ H w er Q k => by
  refine wE.of (pe_un un_neg pe_w) ?_
  refine ha X hX P σ H w er _ fun v H1 s1 r1 => ?_
  exact ⟨m, r1, k _ H1 s1 rfl⟩

/-! ### comparisons -/
theorem ec_op {op : CmpOp} {r : R2} (ho : ∀ X, S.Has X → OpR X (compareOp op) r) (ha : ED S a ρ da) (hb : ED S b ρ db) (hr : RD r da db d) : EC S op a b ρ d := fun X hX P σ H w er Q k => by
  refine ⟨fun pins s I => ?_⟩
  refine bin (X := X) pe_w pe_w (R := fun x y H2 => r x y H2 Q) (ta := wE X a) (tb := wE X b) I ?_ fun v u s2 x y H2 I2 rx ry h => ho X hX pins s2 σ H2 x y v u Q I2 rx ry h
  refine ha X hX P σ H w er _ fun v H1 s1 r1 => ?_
  refine hb X hX P σ H1 (w.same s1) (er.same s1.hid) _ fun u H2 s2 r2 => ?_
  refine hr P H2 v u ((w.same s1).same s2) (r1.same s2.hid) r2 Q fun z H3 s3 r3 => ?_
  exact k z H3 ((s1.trans s2).trans s3) r3
theorem ed_cmp {op : CmpOp} (h : EC S op a b ρ d) (h1 : behindInMarks op b = false := by first | exact nobehind _ (by decide) (by decide) | rfl) : ED S (.Compare a [op] [b] pos) ρ d := fun X hX P σ H w er Q k =>
  wE.of (pe_cmp pc_w h1) (h X hX P σ H w er Q k)
theorem et_cmp {op : CmpOp} {k : Bool} (h : EC S op a b ρ (.bl k)) (h1 : behindInMarks op b = false := by first | exact nobehind _ (by decide) (by decide) | rfl) : ET S (.Compare a [op] [b] pos) ρ k := fun X hX P σ H w er Q z => by
  refine wT.of (pt_cmp pc_w h1) ?_
  exact h X hX P σ H w er _ fun v H' s r => ⟨k, r, z H' s⟩
theorem ec_lt {m n : Int} (ha : ED S a ρ (.int m)) (hb : ED S b ρ (.int n)) : EC S .Lt a b ρ (.bl (decide (m < n))) := ec_op (fun X _ => op_lt) ha hb (rd_I0 (f := fun i j => .bl (decide (i < j))) fun _ _ _ => rfl)
theorem ec_le {m n : Int} (ha : ED S a ρ (.int m)) (hb : ED S b ρ (.int n)) : EC S .LtE a b ρ (.bl (decide (m ≤ n))) := ec_op (fun X _ => op_le) ha hb (rd_I0 (f := fun i j => .bl (decide (i ≤ j))) fun _ _ _ => rfl)
theorem ec_gt {m n : Int} (ha : ED S a ρ (.int m)) (hb : ED S b ρ (.int n)) : EC S .Gt a b ρ (.bl (decide (n < m))) := ec_op (fun X _ => op_gt) ha hb (rd_I0 (f := fun i j => .bl (decide (j < i))) fun _ _ _ => rfl)
theorem ec_ge {m n : Int} (ha : ED S a ρ (.int m)) (hb : ED S b ρ (.int n)) : EC S .GtE a b ρ (.bl (decide (n ≤ m))) := ec_op (fun X _ => op_ge) ha hb (rd_I0 (f := fun i j => .bl (decide (j ≤ i))) fun _ _ _ => rfl)
theorem dec_intV {m n : Int} : decide (V.int m = V.int n) = decide (m = n) := by
  rw [dec_int]
  exact Bool.beq_eq_decide_eq m n
theorem ec_eqI {m n : Int} (ha : ED S a ρ (.int m)) (hb : ED S b ρ (.int n)) : EC S .Eq a b ρ (.bl (decide (m = n))) := ec_op (fun X _ => op_eq) ha hb fun P H x y w hx hy Q k => by
  rw [show x = .int m from hx, show y = .int n from hy]
  refine ⟨rfl, ?_⟩
  rw [dec_intV]
  exact k _ H (Same.refl H) rfl
theorem ec_neI {m n : Int} (ha : ED S a ρ (.int m)) (hb : ED S b ρ (.int n)) : EC S .NotEq a b ρ (.bl (!decide (m = n))) := ec_op (fun X _ => op_ne) ha hb fun P H x y w hx hy Q k => by
  rw [show x = .int m from hx, show y = .int n from hy]
  refine ⟨rfl, ?_⟩
  rw [dec_intV]
  exact k _ H (Same.refl H) rfl
theorem dec_strV {m n : Str} : decide (V.str m = V.str n) = decide (m = n) := by
  by_cases h : m = n
  · rw [decide_eq_true h, decide_eq_true (congrArg V.str h)]
  · rw [decide_eq_false h, decide_eq_false fun z => h (V.str.inj z)]
theorem ec_eqS {m n : Str} (ha : ED S a ρ (.str m)) (hb : ED S b ρ (.str n)) : EC S .Eq a b ρ (.bl (decide (m = n))) := ec_op (fun X _ => op_eq) ha hb fun P H x y w hx hy Q k => by
  rw [show x = .str m from hx, show y = .str n from hy]
  refine ⟨rfl, ?_⟩
  rw [dec_strV]
  exact k _ H (Same.refl H) rfl
theorem ec_neS {m n : Str} (ha : ED S a ρ (.str m)) (hb : ED S b ρ (.str n)) : EC S .NotEq a b ρ (.bl (!decide (m = n))) := ec_op (fun X _ => op_ne) ha hb fun P H x y w hx hy Q k => by
  rw [show x = .str m from hx, show y = .str n from hy]
  refine ⟨rfl, ?_⟩
  rw [dec_strV]
  exact k _ H (Same.refl H) rfl
theorem ec_ltS {m n : Str} (ha : ED S a ρ (.str m)) (hb : ED S b ρ (.str n)) : EC S .Lt a b ρ (.bl (decide (m.cps.toList < n.cps.toList))) := ec_op (fun X _ => op_lt_str) ha hb fun P H x y w hx hy Q k =>
  ⟨m, n, hx, hy, k _ H (Same.refl H) rfl⟩
theorem ec_inS {m n : Str} (ha : ED S a ρ (.str m)) (hb : ED S b ρ (.str n)) : EC S .In a b ρ (.bl (!(Builtin.Str.occurrences n m 0 n.length 1).isEmpty)) := ec_op (fun X _ => op_in_str) ha hb fun P H x y w hx hy Q k =>
  ⟨m, n, hx, hy, k _ H (Same.refl H) rfl⟩
/-- is None, is not None -/
def NotNon (d : Dt) : Prop := ∀ H v, Rep H d v → v ≠ .non
theorem ec_isN {j : Nat} {p : Pos} (ha : ED S a ρ .non) : EC S .Is a (.Constant .none j p) ρ (.bl true) := fun X hX P σ H w er Q k => by
  refine wC.of (pc_isN pe_w) ?_
  refine ha X hX P σ H w er _ fun v H1 s1 r1 => ?_
  show Q (.bl (decide (v = .non))) H1
  rw [decide_eq_true (show v = .non from r1)]
  exact k _ H1 s1 rfl
theorem ec_isS {j : Nat} {p : Pos} (ha : ED S a ρ d) (hn : NotNon d) : EC S .Is a (.Constant .none j p) ρ (.bl false) := fun X hX P σ H w er Q k => by
  refine wC.of (pc_isN pe_w) ?_
  refine ha X hX P σ H w er _ fun v H1 s1 r1 => ?_
  show Q (.bl (decide (v = .non))) H1
  rw [decide_eq_false (hn _ _ r1)]
  exact k _ H1 s1 rfl
theorem ec_notN {j : Nat} {p : Pos} (ha : ED S a ρ .non) : EC S .IsNot a (.Constant .none j p) ρ (.bl false) := fun X hX P σ H w er Q k => by
  refine wC.of (pc_notN pe_w) ?_
  refine ha X hX P σ H w er _ fun v H1 s1 r1 => ?_
  show Q (.bl (!decide (v = .non))) H1
  rw [decide_eq_true (show v = .non from r1)]
  exact k _ H1 s1 rfl
theorem ec_notS {j : Nat} {p : Pos} (ha : ED S a ρ d) (hn : NotNon d) : EC S .IsNot a (.Constant .none j p) ρ (.bl true) := fun X hX P σ H w er Q k => by
  refine wC.of (pc_notN pe_w) ?_
  refine ha X hX P σ H w er _ fun v H1 s1 r1 => ?_
  show Q (.bl (!decide (v = .non))) H1
  rw [decide_eq_false (hn _ _ r1)]
  exact k _ H1 s1 rfl
theorem nn_int {n : Int} : NotNon (.int n) := fun H v r z => by
  rw [show v = _ from r] at z
  cases z
theorem nn_tup {xs : List Dt} : NotNon (.tup xs) := fun H v r z => by
  obtain ⟨a, vs, e, _⟩ := r
  rw [e] at z
  cases z
/-- a < b < c -/
theorem et_chain {op op' : CmpOp} {m n l : Int} {p p' : Int → Int → Bool} (ho : ∀ X, S.Has X → OpR X (compareOp op) (rI0 fun i j => .bl (p i j))) (ho' : ∀ X, S.Has X → OpR X (compareOp op') (rI0 fun i j => .bl (p' i j)))
    (ha : ED S a ρ (.int m)) (hb : ED S b ρ (.int n)) (hc : ED S c ρ (.int l)) (h1 : lastMarks [op, op'] [b, c] = false := by rfl) :
    ET S (.Compare a [op, op'] [b, c] pos) ρ (p m n && p' n l) := fun X hX P σ H w er Q k => by
  refine wT.of (pt_chain (ho X hX) (ho' X hX) pe_w pe_w pe_w h1) ?_
  refine ha X hX P σ H w er _ fun v H1 s1 r1 => ?_
  refine hb X hX P σ H1 (w.same s1) (er.same s1.hid) _ fun u H2 s2 r2 => ?_
  refine ⟨m, n, r1, r2, p m n, rfl, ?_⟩
  cases hk : p m n with
  | false =>
    refine iteF ⟨false, rfl, ?_⟩
    have z := k H2 (s1.trans s2)
    rw [hk] at z
    exact z
  | true =>
    refine iteT ?_
    refine hc X hX P σ H2 ((w.same s1).same s2) ((er.same s1.hid).same s2.hid) _ fun z H3 s3 r3 => ?_
    refine ⟨n, l, r2.same s3.hid, r3, p' n l, rfl, ?_⟩
    have z := k H3 ((s1.trans s2).trans s3)
    rw [hk, Bool.true_and] at z
    exact z

/-! ### tests -/
theorem et_val {k : Bool} (h : ED S e ρ (.bl k)) (he : ∀ (env : Env) whole, isTrue e env whole = (do let v ← whole; standAt e.pos; holding [v] (truthy v)) := by intro _ _; rfl) : ET S e ρ k := fun X hX P σ H w er Q z => by
  refine wT.of (pt_val pe_w (he X.env)) ?_
  exact h X hX P σ H w er _ fun v H' s r => ⟨k, r, z H' s⟩
theorem et_w {k : Bool} (h : EW S e ρ k) : ET S e ρ k := fun X hX P σ H w er Q z => wT.of (PW.pt pw_w) (h X hX P σ H w er Q z)
theorem et_not {k : Bool} (h : ET S a ρ k) : ET S (.UnaryOp .Not a pos) ρ (!k) := fun X hX P σ H w er Q z => by
  refine wT.of (pt_not pt_w) ?_
  exact h X hX P σ H w er _ fun H' s => z H' s
theorem ew_and1 {k : Bool} (h : ET S a ρ k) : EW S (.BoolOp .And [a] pos) ρ k := fun X hX P σ H w er Q z => wW.of (pw_and1 pt_w) (h X hX P σ H w er Q z)
theorem ew_or1 {k : Bool} (h : ET S a ρ k) : EW S (.BoolOp .Or [a] pos) ρ k := fun X hX P σ H w er Q z => wW.of (pw_or1 pt_w) (h X hX P σ H w er Q z)
theorem ew_and {k l : Bool} (h : ET S a ρ k) (h2 : k = true → EW S (.BoolOp .And (b :: es) pos) ρ l) : EW S (.BoolOp .And (a :: b :: es) pos) ρ (k && l) := fun X hX P σ H w er Q z => by
  refine wW.of (pw_and pt_w pw_w) ?_
  refine h X hX P σ H w er _ fun H1 s1 => ?_
  cases k with
  | true =>
    refine iteT ?_
    exact h2 rfl X hX P σ H1 (w.same s1) (er.same s1.hid) _ fun H2 s2 => z H2 (s1.trans s2)
  | false => exact iteF (z H1 s1)
theorem ew_or {k l : Bool} (h : ET S a ρ k) (h2 : k = false → EW S (.BoolOp .Or (b :: es) pos) ρ l) : EW S (.BoolOp .Or (a :: b :: es) pos) ρ (k || l) := fun X hX P σ H w er Q z => by
  refine wW.of (pw_or pt_w pw_w) ?_
  refine h X hX P σ H w er _ fun H1 s1 => ?_
  cases k with
  | true => exact iteT (z H1 s1)
  | false =>
    refine iteF ?_
    exact h2 rfl X hX P σ H1 (w.same s1) (er.same s1.hid) _ fun H2 s2 => z H2 (s1.trans s2)
/-- .. as values -/
theorem ed_one {op : BoolOp} (h : ED S a ρ d) : ED S (.BoolOp op [a] pos) ρ d := fun X hX P σ H w er Q z => wE.of (pe_one pe_w) (h X hX P σ H w er Q z)
theorem ed_and {k : Bool} {l : Bool} (h : ED S a ρ (.bl k)) (h2 : k = true → ED S (.BoolOp .And (b :: es) pos) ρ (.bl l)) : ED S (.BoolOp .And (a :: b :: es) pos) ρ (.bl (k && l)) := fun X hX P σ H w er Q z => by
  refine wE.of (pe_and pe_w pe_w) ?_
  refine h X hX P σ H w er _ fun v H1 s1 r1 => ⟨k, r1, ?_⟩
  cases k with
  | true =>
    refine iteT ?_
    exact h2 rfl X hX P σ H1 (w.same s1) (er.same s1.hid) _ fun v H2 s2 r2 => z v H2 (s1.trans s2) r2
  | false => exact iteF (z _ H1 s1 rfl)
theorem ed_or {k : Bool} {l : Bool} (h : ED S a ρ (.bl k)) (h2 : k = false → ED S (.BoolOp .Or (b :: es) pos) ρ (.bl l)) : ED S (.BoolOp .Or (a :: b :: es) pos) ρ (.bl (k || l)) := fun X hX P σ H w er Q z => by
  refine wE.of (pe_or pe_w pe_w) ?_
  refine h X hX P σ H w er _ fun v H1 s1 r1 => ⟨k, r1, ?_⟩
  cases k with
  | true => exact iteT (z _ H1 s1 rfl)
  | false =>
    refine iteF ?_
    exact h2 rfl X hX P σ H1 (w.same s1) (er.same s1.hid) _ fun v H2 s2 r2 => z v H2 (s1.trans s2) r2
theorem ed_not {k : Bool} (h : ED S a ρ (.bl k)) : ED S (.UnaryOp .Not a pos) ρ (.bl (!k)) := fun X hX P σ H w er Q z => by
  refine wE.of (pe_not pe_w) ?_
  exact h X hX P σ H w er _ fun v H1 s1 r1 => ⟨k, r1, z _ H1 s1 rfl⟩
theorem ed_if {k : Bool} (h : ET S c ρ k) (h1 : k = true → ED S a ρ d) (h2 : k = false → ED S b ρ d) : ED S (.IfExp c a b pos) ρ d := fun X hX P σ H w er Q z => by
  refine wE.of (pe_ifExp pt_w pe_w pe_w) ?_
  refine h X hX P σ H w er _ fun H1 s1 => ?_
  cases k with
  | true =>
    refine iteT ?_
    exact h1 rfl X hX P σ H1 (w.same s1) (er.same s1.hid) _ fun v H2 s2 r2 => z v H2 (s1.trans s2) r2
  | false =>
    refine iteF ?_
    exact h2 rfl X hX P σ H1 (w.same s1) (er.same s1.hid) _ fun v H2 s2 r2 => z v H2 (s1.trans s2) r2

/-! ### arguments, displays -/
theorem ea_nil : EA S [] ρ [] := fun X hX P σ H w er Q z => wA.of pa_nil (z [] H (Same.refl H) rfl)
theorem ea_cons {ds : List Dt} (h : ED S e ρ d) (h2 : EA S es ρ ds) (hs : ∀ env : Env, starEach (e :: es) env = (false, eval e env) :: starEach es env := by intro _; rfl) : EA S (e :: es) ρ (d :: ds) := fun X hX P σ H w er Q z => by
  refine wA.of (pa_cons pe_w pa_w (hs X.env)) ?_
  refine h X hX P σ H w er _ fun v H1 s1 r1 => ?_
  exact h2 X hX P σ H1 (w.same s1) (er.same s1.hid) _ fun vs H2 s2 r2 => z (v :: vs) H2 (s1.trans s2) (.cons (r1.same s2.hid) r2)
theorem va_of {R : List Dt → Prop} {ds : List Dt} (h : EA S es ρ ds) (r : R ds) : VA S q es ρ R := fun X hX P σ H w er Q z =>
  h X hX P σ H w.ok er Q fun vs H' s rp => z vs ds H' (.of s) r rp
theorem va_cons {R : Dt → Prop} {T : List Dt → Prop} (h : EV S q e ρ R) (h2 : VA S q es ρ T) (hs : ∀ env : Env, starEach (e :: es) env = (false, eval e env) :: starEach es env := by intro _; rfl) : VA S q (e :: es) ρ (fun l => ∃ d ds, l = d :: ds ∧ R d ∧ T ds) := fun X hX P σ H w er Q z => by
  refine wA.of (pa_cons pe_w pa_w (hs X.env)) ?_
  refine h X hX P σ H w er _ fun v d H1 g1 q1 r1 => ?_
  exact h2 X hX P σ H1 (w.go g1) (er.same (w.same g1)) _ fun vs ds H2 g2 q2 r2 => z (v :: vs) (d :: ds) H2 (g1.trans g2) ⟨d, ds, rfl, q1, q2⟩ (.cons (r1.same ((w.go g1).same g2)) r2)
theorem hid_upd {P : Addr → Bool} {H : Hp} {p : Addr} {o : HO} (w : Pok P H) (n : H p = none) : hid P (upd H p o) p = some o := by
  rw [hid_no (w.no n), upd_same]
theorem ed_tup {ds : List Dt} {j : Nat} (h : EA S es ρ ds) (hl : ds.length ≤ 1000) : ED S (.Tuple es j pos) ρ (.tup ds) := fun X hX P σ H w er Q z => by
  refine wE.of (pe_tup pa_w) ?_
  refine h X hX P σ H w er _ fun vs H1 s1 r1 => ⟨?_, fun p n => ?_⟩
  · rw [r1.length]
    exact Nat.le_of_lt (small1000 hl)
  · refine z _ _ (s1.trans (same_new n)) ⟨p, vs, rfl, hid_upd (w.same s1) n, r1.same (same_new n).hid⟩
theorem ed_lst {ds : List Dt} (h : EA S es ρ ds) (hl : ds.length ≤ 1000) : ED S (.List es pos) ρ (.lst ds) := fun X hX P σ H w er Q z => by
  refine wE.of (pe_lst pa_w) ?_
  refine h X hX P σ H w er _ fun vs H1 s1 r1 => ⟨?_, fun p n => ?_⟩
  · rw [r1.length]
    exact Nat.le_of_lt (small1000 hl)
  · refine z _ _ (s1.trans (same_new n)) ⟨p, vs, rfl, hid_upd (w.same s1) n, r1.same (same_new n).hid⟩
end
end Gl

namespace Gl
open PySem PySem.Spec L2 PyProof.Rows

/-! ### slots wiped -/
theorem wipe_get (σ : L2.St) : ∀ (vs : List Nat) (k : Nat), (wipe σ vs)[k]? = if k ∈ vs ∧ k < σ.length then some none else σ[k]?
  | [], k => by simp [wipe]
  | v :: vs, k => by
    unfold wipe
    rw [List.getElem?_set, wipe_length, wipe_get σ vs k]
    by_cases hk : v = k
    · subst hk
      by_cases hl : v < σ.length
      · simp [hl]
      · have h2 : σ[v]? = none := List.getElem?_eq_none (by omega)
        simp [hl, h2]
    · by_cases h3 : k ∈ vs
      · simp [hk, h3]
      · simp [hk, h3, Ne.symm hk]
theorem wipe_off {σ σ' : L2.St} {vs js : List Nat} (hj : ∀ j ∈ js, j ∈ vs) (hl : σ'.length = (wipe σ vs).length) (h : ∀ k, k ∉ js → σ'[k]? = (wipe σ vs)[k]?) : wipe σ' vs = wipe σ vs := by
  rw [wipe_length] at hl
  (refine List.ext_getElem? fun k => ?_)
  rw [wipe_get, wipe_get, hl]
  by_cases hk : k ∈ vs ∧ k < σ.length
  · rw [if_pos hk, if_pos hk]
  · rw [if_neg hk, if_neg hk]
    by_cases h1 : k ∈ js
    · have h2 : ¬ k < σ.length := fun z => hk ⟨hj k h1, z⟩
      rw [List.getElem?_eq_none (by omega), List.getElem?_eq_none (by omega)]
    · rw [h k h1, wipe_get, if_neg hk]

section
variable {S : Sx} {q : Option Addr} {ρ ρ' : En} {d da db : Dt} {e a b c tg iter elt : Expr} {es ifs : List Expr} {pos : Pos} {x y : Str} {i j : Nat}

/-! ### targets -/
theorem gv_name (i : Nat) (hn : S.N.Nodup) (hN : S.N[i]? = some x := by rfl) (hv : Loc S.sc x := by first | exact Or.inl rfl | exact Or.inr rfl) (hf : S.fn x = true ∨ S.sc.names.lookup x = some .local := by first | exact .inl rfl | exact .inr rfl) :
    GV S (.Name x pos) [i] d ρ (ρ.set i (some d)) := fun X hX P σ H v w er r Q k => by
  refine wG.of (pg_name (i := i) (by rw [hX.N]; exact hn) (by rw [hX.N]; exact hN) (by rw [hX.sc]; exact hv) (by rw [hX.sc]; exact hf.imp (hX.fn x) id)) ?_
  refine k _ (List.length_set) (fun m hm => ?_) (er.set i r)
  rw [List.getElem?_set_ne]
  intro z
  exact hm (by simp [z])
/-- a pair of names takes a pair -/
theorem gv_pair {py py' : Pos} {n : Nat} (i j : Nat) (hn : S.N.Nodup) (hN : S.N[i]? = some x := by rfl) (hv : Loc S.sc x := by first | exact Or.inl rfl | exact Or.inr rfl) (hf : S.fn x = true ∨ S.sc.names.lookup x = some .local := by first | exact .inl rfl | exact .inr rfl)
    (hN' : S.N[j]? = some y := by rfl) (hv' : Loc S.sc y := by first | exact Or.inl rfl | exact Or.inr rfl) (hf' : S.fn y = true ∨ S.sc.names.lookup y = some .local := by first | exact .inl rfl | exact .inr rfl) :
    GV S (.Tuple [.Name x py, .Name y py'] n pos) [i, j] (.tup [da, db]) ρ ((ρ.set i (some da)).set j (some db)) := fun X hX P σ H v w er r Q k => by
  have p1 : PG X (.Name x py) (gName i) := pg_name (i := i) (by rw [hX.N]; exact hn) (by rw [hX.N]; exact hN) (by rw [hX.sc]; exact hv) (by rw [hX.sc]; exact hf.imp (hX.fn x) id)
  have p2 : PG X (.Name y py') (gName j) := pg_name (i := j) (by rw [hX.N]; exact hn) (by rw [hX.N]; exact hN') (by rw [hX.sc]; exact hv') (by rw [hX.sc]; exact hf'.imp (hX.fn y) id)
  refine wG.of (pg_tup (n := 2) hX.calm (pgs_cons p1 (pgs_cons p2 pgs_nil))) ?_
  obtain ⟨t, vs, e1, g, r⟩ := r
  obtain ⟨v1, vr, e2, r1, r⟩ := r
  obtain ⟨v2, vr2, e3, r2, r⟩ := r
  have e4 : vr2 = [] := r
  subst e1 e2 e3 e4
  refine ⟨t, [v1, v2], rfl, .inl (.inl (hid_some g).2), rfl, v1, [v2], rfl, v2, [], rfl, rfl, ?_⟩
  refine k _ (by simp) (fun m hm => ?_) ((er.set i r1).set j r2)
  rw [List.getElem?_set_ne (by intro z; exact hm (by simp [z])), List.getElem?_set_ne (by intro z; exact hm (by simp [z]))]

/-! ### what is walked -/
theorem Same.hid_at {P : Addr → Bool} {H1 H : Hp} {a : Addr} {o : HO} (s : Same (hid P H1) (hid P H)) (h : hid P H1 a = some o) : H a = some o := (hid_some (s _ _ h)).2
theorem iv_list {ds : List Dt} (h : ED S iter ρ (.lst ds)) : IV S tg iter ρ ds := fun X hX P σ H w er R k => by
  refine wI.of (pi_list pe_w) ?_
  refine h X hX P σ H w er _ fun v H1 s1 r1 => ?_
  obtain ⟨a, vs, e, g, r⟩ := r1
  have pa : P a = false := (hid_some g).1
  have atH : ∀ {P' : Addr → Bool} {H : Hp}, Wx P P' H1 → Same (hid P' H1) (hid P' H) → H a = some (.lst vs) := fun x s => Same.hid_at s (by rw [x.eq]; exact g)
  refine ⟨a, e, ⟨vs, .inl (.inl (hid_some g).2)⟩, k _ H1 s1 ⟨fun i H s hi => ?_, fun i H s hi => ?_, fun P' wx i H x H' s pk hi y => ?_⟩⟩
  · have hv : i < vs.length := by rw [r.length]; exact hi
    exact ⟨vs, vs[i], .inl (.inl (atH (.refl P H1) s)), List.getElem?_eq_getElem hv⟩
  · exact ⟨vs, .inl (.inl (atH (.refl P H1) s)), by rw [r.length]; exact hi⟩
  · obtain ⟨rfl, f⟩ := y
    obtain ⟨d, hd, rd⟩ := r.get (f vs (.inl (.inl (atH wx s))))
    exact ⟨Same.refl _, d, hd, by rw [← wx.eq] at rd; exact rd.same s⟩
theorem iv_tup {ds : List Dt} (h : ED S iter ρ (.tup ds)) : IV S tg iter ρ ds := fun X hX P σ H w er R k => by
  refine wI.of (pi_tup pe_w) ?_
  refine h X hX P σ H w er _ fun v H1 s1 r1 => ?_
  obtain ⟨a, vs, e, g, r⟩ := r1
  have pa : P a = false := (hid_some g).1
  have atH : ∀ {P' : Addr → Bool} {H : Hp}, Wx P P' H1 → Same (hid P' H1) (hid P' H) → H a = some (.tup vs) := fun x s => Same.hid_at s (by rw [x.eq]; exact g)
  refine ⟨a, e, ⟨vs, .inl (.inl (hid_some g).2)⟩, k _ H1 s1 ⟨fun i H s hi => ?_, fun i H s hi => ?_, fun P' wx i H x H' s pk hi y => ?_⟩⟩
  · have hv : i < vs.length := by rw [r.length]; exact hi
    exact ⟨vs, vs[i], .inl (.inl (atH (.refl P H1) s)), List.getElem?_eq_getElem hv⟩
  · exact ⟨vs, .inl (.inl (atH (.refl P H1) s)), by rw [r.length]; exact hi⟩
  · obtain ⟨rfl, f⟩ := y
    obtain ⟨d, hd, rd⟩ := r.get (f vs (.inl (.inl (atH wx s))))
    exact ⟨Same.refl _, d, hd, by rw [← wx.eq] at rd; exact rd.same s⟩
def rangeD (n : Nat) : List Dt := (List.range n).map fun (i : Nat) => .int (i : Int)
theorem rangeD_length (n : Nat) : (rangeD n).length = n := by simp [rangeD]
theorem rangeD_get {n i : Nat} (h : i < n) : (rangeD n)[i]? = some (.int (i : Int)) := by simp [rangeD, h]
theorem iv_range {n : Nat} {p : Pos} (h : ED S a ρ (.int (n : Int))) (hn : n < 100000) (hm : S.mg "range" = none) (hg : S.sc.names.lookup ("range" : Str) = some .globalImplicit := by rfl) (hs : ∀ env : Env, starEach [a] env = [(false, eval a env)] := by intro _; rfl) :
    IV S tg (.Call (.Name "range" p) [a] [] pos) ρ (rangeD n) := fun X hX P σ H w er R k => by
  refine wI.of (pi_range1 (hX.gl hg) (by rw [hX.mg]; exact hm) pa_w (hs X.env)) ?_
  refine (ea_cons h ea_nil (fun env => (hs env).trans rfl)) X hX P σ H w er _ fun vs H1 s1 r1 => ?_
  obtain ⟨v, r, e1, r2, r3⟩ := r1
  have e2 : v = .int n := r2
  have e3 : r = [] := r3
  subst e1 e2 e3
  refine ⟨n, rfl, by omega, by omega, k _ H1 s1 ⟨fun i H s hi => ?_, fun i H s hi => ?_, fun P' wx i H x H' s pk hi y => ?_⟩⟩
  · rw [rangeD_length] at hi
    exact hi
  · rw [rangeD_length] at hi
    exact hi
  · obtain ⟨rfl, rfl⟩ := y
    rw [rangeD_length] at hi
    exact ⟨Same.refl _, _, rangeD_get hi, by rw [Int.zero_add] <;> rfl⟩
theorem iv_str {z : Str} (h : ED S iter ρ (.str z)) : IV S tg iter ρ (z.cps.toList.map fun c => .str ⟨#[c]⟩) := fun X hX P σ H w er R k => by
  refine wI.of (pi_str pe_w) ?_
  refine h X hX P σ H w er _ fun v H1 s1 r1 => ?_
  have hl : (z.cps.toList.map fun c => Dt.str ⟨#[c]⟩).length = z.cps.size := by simp
  refine ⟨z, r1, k _ H1 s1 ⟨fun i H s hi => ?_, fun i H s hi => ?_, fun P' wx i H x H' s pk hi y => ?_⟩⟩
  · rw [hl] at hi
    exact hi
  · rw [hl] at hi
    exact hi
  · obtain ⟨rfl, c, hc, rfl⟩ := y
    refine ⟨Same.refl _, .str ⟨#[c]⟩, ?_, rfl⟩
    rw [List.getElem?_map, Array.getElem?_toList, hc]
    rfl
theorem iv_enum {ds : List Dt} {elts : List Expr} {kk : Nat} {tpos p : Pos} (h : ED S a ρ (.lst ds)) (hm : S.mg "enumerate" = none) (hg : S.sc.names.lookup ("enumerate" : Str) = some .globalImplicit := by rfl) (hs : ∀ env : Env, starEach [a] env = [(false, eval a env)] := by intro _; rfl) :
    IV S (.Tuple elts kk tpos) (.Call (.Name "enumerate" p) [a] [] pos) ρ (ds.mapIdx fun i d => .tup [.int i, d]) := fun X hX P σ H w er R k => by
  refine wI.of (pi_enum (hX.gl hg) (by rw [hX.mg]; exact hm) pa_w (hs X.env)) ?_
  refine (ea_cons h ea_nil (fun env => (hs env).trans rfl)) X hX P σ H w er _ fun vs H1 s1 r1 => ?_
  obtain ⟨v, r, e1, r2, r3⟩ := r1
  have e3 : r = [] := r3
  obtain ⟨l, vs', e2, g, r⟩ := r2
  subst e1 e2 e3
  have atH : ∀ {P' : Addr → Bool} {H : Hp}, Wx P P' H1 → Same (hid P' H1) (hid P' H) → H l = some (.lst vs') := fun x s => Same.hid_at s (by rw [x.eq]; exact g)
  refine ⟨l, vs', rfl, .inl (.inl (hid_some g).2), k _ H1 s1 ⟨fun i H s hi => ?_, fun i H s hi => ?_, fun P' wx i H x H' s pk hi y => ?_⟩⟩
  · rw [List.length_mapIdx] at hi
    have hv : i < vs'.length := by rw [r.length]; exact hi
    exact ⟨vs', vs'[i], .inl (.inl (atH (.refl P H1) s)), List.getElem?_eq_getElem hv⟩
  · rw [List.length_mapIdx] at hi
    exact ⟨vs', .inl (.inl (atH (.refl P H1) s)), by rw [r.length]; exact hi⟩
  · obtain ⟨T, z, rfl, nT, rfl, f⟩ := y
    obtain ⟨d, hd, rd⟩ := r.get (f vs' (.inl (.inl (atH wx s))))
    refine ⟨same_new nT, .tup [.int i, d], by simp [hd], ?_⟩
    rw [← wx.eq] at rd
    exact ⟨T, [.int i, z], rfl, hid_upd pk nT, .cons rfl (.one ((rd.same s).same (same_new nT).hid))⟩
theorem iv_zip {ds es' : List Dt} {elts : List Expr} {kk : Nat} {tpos p : Pos} (h : ED S a ρ (.lst ds)) (h2 : ED S b ρ (.lst es')) (hl : ds.length = es'.length) (hm : S.mg "zip" = none) (hg : S.sc.names.lookup ("zip" : Str) = some .globalImplicit := by rfl)
    (hs : ∀ env : Env, starEach [a, b] env = (false, eval a env) :: starEach [b] env := by intro _; rfl) (hs2 : ∀ env : Env, starEach [b] env = (false, eval b env) :: starEach [] env := by intro _; rfl) (hpl : ∀ env : Env, (backTo pos (starEach [b] env)).any (·.1) = false := by intro _; rfl) :
    IV S (.Tuple elts kk tpos) (.Call (.Name "zip" p) [a, b] [] pos) ρ (List.zipWith (fun x y => .tup [x, y]) ds es') := fun X hX P σ H w er R k => by
  refine wI.of (pi_zip (hX.gl hg) (by rw [hX.mg]; exact hm) pa_w (hs X.env) (hpl X.env)) ?_
  refine (ea_cons h (ea_cons h2 ea_nil hs2) hs) X hX P σ H w er _ fun vs H1 s1 r1 => ?_
  obtain ⟨v, r, e1, r2, v2, r', e4, r5, r6⟩ := r1
  have e6 : r' = [] := r6
  obtain ⟨l, vs', e2, g, r⟩ := r2
  obtain ⟨l2, vs2, e5, g2, r5⟩ := r5
  subst e1 e4 e2 e5 e6
  have atH : ∀ {P' : Addr → Bool} {H : Hp}, Wx P P' H1 → Same (hid P' H1) (hid P' H) → H l = some (.lst vs') := fun x s => Same.hid_at s (by rw [x.eq]; exact g)
  have atH2 : ∀ {P' : Addr → Bool} {H : Hp}, Wx P P' H1 → Same (hid P' H1) (hid P' H) → H l2 = some (.lst vs2) := fun x s => Same.hid_at s (by rw [x.eq]; exact g2)
  have hz : (List.zipWith (fun x y => Dt.tup [x, y]) ds es').length = ds.length := by simp [hl]
  refine ⟨l, l2, vs', vs2, rfl, .inl (.inl (hid_some g).2), .inl (.inl (hid_some g2).2), k _ H1 s1 ⟨fun i H s hi => ?_, fun i H s hi => ?_, fun P' wx i H x H' s pk hi y => ?_⟩⟩
  · rw [hz] at hi
    have hv : i < vs'.length := by rw [r.length]; exact hi
    have hv2 : i < vs2.length := by rw [r5.length, ← hl]; exact hi
    exact ⟨vs', vs2, vs'[i], vs2[i], .inl (.inl (atH (.refl P H1) s)), .inl (.inl (atH2 (.refl P H1) s)), List.getElem?_eq_getElem hv, List.getElem?_eq_getElem hv2⟩
  · rw [hz] at hi
    exact ⟨vs', vs2, .inl (.inl (atH (.refl P H1) s)), .inl (.inl (atH2 (.refl P H1) s)), .inl (by rw [r.length]; exact hi)⟩
  · obtain ⟨T, z, z2, rfl, nT, rfl, f, f2⟩ := y
    obtain ⟨d, hd, rd⟩ := r.get (f vs' (.inl (.inl (atH wx s))))
    obtain ⟨d2, hd2, rd2⟩ := r5.get (f2 vs2 (.inl (.inl (atH2 wx s))))
    refine ⟨same_new nT, .tup [d, d2], by simp [List.getElem?_zipWith, hd, hd2], ?_⟩
    rw [← wx.eq] at rd rd2
    exact ⟨T, [z, z2], rfl, hid_upd pk nT, .cons ((rd.same s).same (same_new nT).hid) (.one ((rd2.same s).same (same_new nT).hid))⟩
end
end Gl

namespace Gl
open PySem PySem.Spec L2 PyProof.Rows

/-- the tests of a comprehension's clause -/
structure wP (X : Cx) (ifs : List Expr) (σ : L2.St) (H : Hp) (Q : Bool → Hp → Prop) : Prop where
  run : ∀ pins s, Inv X pins σ H s → wpAny (model X.prog X.w) X.A (forIn ifs true fun c r => if r = true then do let ok ← isTrue c X.env (eval c X.env); pure (ForInStep.yield ok) else pure (ForInStep.yield r)) (TP X pins σ Q) X.xe s
theorem pts_w {X : Cx} {ifs : List Expr} : PTs X ifs (wP X ifs) := ⟨fun pins s σ H Q I h => h.run pins s I⟩
def EIs (S : Sx) (ifs : List Expr) (ρ : En) (b : Bool) : Prop := ∀ X, S.Has X → ∀ (P : Addr → Bool) (σ : L2.St) (H : Hp), Pok P H → ERep (hid P H) σ ρ →
  ∀ Q : Bool → Hp → Prop, (∀ H', Same H H' → Q b H') → wP X ifs σ H Q
theorem ei_nil {S : Sx} {ρ : En} : EIs S [] ρ true := fun X hX P σ H w er Q k => ⟨fun pins s I => pts_nil.run pins s σ H Q I (k H (Same.refl H))⟩
theorem ei_one {S : Sx} {ρ : En} {c : Expr} {b : Bool} (h : ET S c ρ b) : EIs S [c] ρ b := fun X hX P σ H w er Q k => ⟨fun pins s I => (pts_one pt_w).run pins s σ H Q I (h X hX P σ H w er Q k)⟩

/-- what may come out, item by item -/
inductive Outs {α : Type} (Rl : α → Option Dt → Prop) : List α → List Dt → Prop
  | nil : Outs Rl [] []
  | skip {l : List α} {ys : List Dt} {a : α} : Outs Rl l ys → Rl a none → Outs Rl (l ++ [a]) ys
  | take {l : List α} {ys : List Dt} {a : α} {y : Dt} : Outs Rl l ys → Rl a (some y) → Outs Rl (l ++ [a]) (ys ++ [y])
theorem Outs.length {α : Type} {Rl : α → Option Dt → Prop} {l : List α} {ys : List Dt} (h : Outs Rl l ys) : ys.length ≤ l.length := by
  induction h with
  | nil => exact Nat.le_refl _
  | skip _ _ ih =>
    rw [List.length_append]
    exact Nat.le_succ_of_le ih
  | take _ _ ih =>
    rw [List.length_append, List.length_append]
    exact Nat.succ_le_succ ih
theorem Outs.flt {α : Type} {p : α → Bool} {f : α → Dt} {l : List α} {ys : List Dt} (h : Outs (fun a o => o = if p a then some (f a) else none) l ys) : ys = (l.filter p).map f := by
  induction h with
  | nil => rfl
  | @skip l ys a _ r ih =>
    have e : p a = false := by
      cases hp : p a with
      | false => rfl
      | true =>
        rw [hp] at r
        cases r
    rw [List.filter_append, List.map_append, ih, List.filter_cons, e]
    simp
  | @take l ys a y _ r ih =>
    cases hp : p a with
    | false =>
      rw [hp] at r
      cases r
    | true =>
      rw [hp] at r
      have e : y = f a := Option.some.inj r
      rw [List.filter_append, List.map_append, ih, List.filter_cons, hp, e]
      simp
theorem Outs.map {α : Type} {f : α → Dt} {l : List α} {ys : List Dt} (h : Outs (fun a o => o = some (f a)) l ys) : ys = l.map f := by
  have h2 : Outs (fun a o => o = if (fun _ => true) a then some (f a) else none) l ys := h
  rw [h2.flt, List.filter_eq_self.mpr fun _ _ => rfl]
/-- item by item, nothing left out -/
inductive All2 {α β : Type} (Rl : α → β → Prop) : List α → List β → Prop
  | nil : All2 Rl [] []
  | cons {a : α} {b : β} {l : List α} {m : List β} : Rl a b → All2 Rl l m → All2 Rl (a :: l) (b :: m)
theorem All2.snoc {α β : Type} {Rl : α → β → Prop} {l : List α} {m : List β} {a : α} {b : β} (h : All2 Rl l m) (r : Rl a b) : All2 Rl (l ++ [a]) (m ++ [b]) := by
  induction h with
  | nil => exact .cons r .nil
  | cons h _ ih => exact .cons h ih
theorem All2.length {α β : Type} {Rl : α → β → Prop} {l : List α} {m : List β} (h : All2 Rl l m) : l.length = m.length := by
  induction h with
  | nil => rfl
  | cons _ _ ih => (rw [List.length_cons, List.length_cons, ih])
theorem Outs.all2 {α : Type} {Rl : α → Dt → Prop} {l : List α} {ys : List Dt} (h : Outs (fun a o => ∃ y, o = some y ∧ Rl a y) l ys) : All2 Rl l ys := by
  induction h with
  | nil => exact .nil
  | skip _ r =>
    obtain ⟨y, e, _⟩ := r
    cases e
  | take _ r ih =>
    obtain ⟨y, e, r⟩ := r
    cases e
    exact ih.snoc r

def also (P : Addr → Bool) (D : Addr) : Addr → Bool := fun a => P a || a == D
theorem also_le {P : Addr → Bool} {D : Addr} {H : Hp} : Same (hid (also P D) H) (hid P H) := fun a o h => by
  obtain ⟨h1, h2⟩ := hid_some h
  have h3 : P a = false := by
    cases e : P a with
    | false => rfl
    | true =>
      unfold also at h1
      rw [e] at h1
      cases h1
  rw [hid_no h3]
  exact h2
theorem also_wx {P : Addr → Bool} {D : Addr} {H : Hp} (h : H D = none) : Wx P (also P D) H := by
  refine ⟨fun a e => by unfold also; rw [e] <;> rfl, fun a e => ?_⟩
  unfold also at e
  rcases Bool.or_eq_true_iff.mp e with e | e
  · exact .inl e
  · rw [beq_iff_eq.mp e]
    exact .inr h
theorem also_no {P : Addr → Bool} {D a : Addr} (h : P a = false) (hd : a ≠ D) : also P D a = false := by
  unfold also
  simp [h, hd]
theorem also_yes {P : Addr → Bool} {D : Addr} : also P D D = true := by
  unfold also
  simp
/-- what is known ahead of a new object stays known, whatever becomes of the new object -/
theorem also_same {P : Addr → Bool} {D : Addr} {q : Option Addr} {H1 H : Hp} (h : H1 D = none) (wd : Wd P q H1) (g : Go q H1 H) : Same (hid (also P D) H1) (hid (also P D) H) := fun a o e => by
  obtain ⟨h1, h2⟩ := hid_some e
  rw [hid_no h1]
  refine g.keep a o (fun z => ?_) h2
  have h3 := (wd.hid a z.symm).1
  have h4 := (also_wx (P := P) h).le a h3
  rw [h1] at h4
  cases h4
theorem also_wd {P : Addr → Bool} {D : Addr} {q : Option Addr} {H : Hp} {xs : List V} (w : Wd P q H) (h : H D = some (.lst xs)) : Wd (also P D) q H := by
  refine ⟨fun a e => ?_, fun p e => ⟨?_, (w.hid p e).2⟩⟩
  · unfold also at e
    rcases Bool.or_eq_true_iff.mp e with e | e
    · exact w.ok a e
    · rw [beq_iff_eq.mp e]
      exact ⟨_, h, fun xs z => by cases z⟩
  · unfold also
    rw [(w.hid p e).1]
    rfl
theorem ne_pot {P : Addr → Bool} {q : Option Addr} {H : Hp} {D : Addr} (w : Wd P q H) (h : H D = none) : some D ≠ q := fun e => by
  obtain ⟨x, y, _, _, _, h4⟩ := (w.hid D e.symm).2
  rw [h] at h4
  cases h4
theorem Go.upd_new {q : Option Addr} {H1 H : Hp} {D : Addr} {o : HO} (g : Go q H1 H) (h : H1 D = Option.none) (hd : some D ≠ q) : Go q H1 (upd H D o) := by
  refine ⟨fun a u hq e => ?_, fun p e z => ?_⟩
  · rw [upd_ne (ne_of_none e h)]
    exact g.keep a u hq e
  · obtain ⟨x, y, h1, h2, h3, h4⟩ := g.pot p e z
    exact ⟨x, y, h1, h2, h3, by rw [upd_ne (fun w => hd (by rw [← w]; exact e.symm))]; exact h4⟩

section
variable {S : Sx} {q : Option Addr} {ρ : En} {tg iter elt : Expr} {ifs : List Expr} {pos : Pos} {scope : Scope} {own : List (Str × Nat)} {α : Type} {as : List α} {g : α → Dt}
def gU (X : Cx) (scope : Scope) (tg : Expr) : TG := fun v σ H' Q => ∀ (s : Shared) (H : Hp) (C : Addr) (cl : List (Str × Addr)) (fp : List Addr), wG (X.blk s H scope (compEnvC scope cl C X.env) fp) tg v σ H' Q
def pU (X : Cx) (scope : Scope) (ifs : List Expr) : TT := fun σ H' Q => ∀ (s : Shared) (H : Hp) (C : Addr) (cl : List (Str × Addr)) (fp : List Addr), wP (X.blk s H scope (compEnvC scope cl C X.env) fp) ifs σ H' Q
def eU (X : Cx) (scope : Scope) (elt : Expr) : TE := fun σ H' Q => ∀ (s : Shared) (H : Hp) (C : Addr) (cl : List (Str × Addr)) (fp : List Addr), wE (X.blk s H scope (compEnvC scope cl C X.env) fp) elt σ H' Q
theorem pg_u {X : Cx} : ∀ (s : Shared) (H : Hp) (C : Addr) (cl : List (Str × Addr)) (fp : List Addr), PG (X.blk s H scope (compEnvC scope cl C X.env) fp) tg (gU X scope tg) := fun s H C cl fp => ⟨fun pins s' σ H' v u Q I r h => (h s H C cl fp).run pins s' u I r⟩
theorem pt_u {X : Cx} : ∀ (s : Shared) (H : Hp) (C : Addr) (cl : List (Str × Addr)) (fp : List Addr), PTs (X.blk s H scope (compEnvC scope cl C X.env) fp) ifs (pU X scope ifs) := fun s H C cl fp => ⟨fun pins s' σ H' Q I h => (h s H C cl fp).run pins s' I⟩
theorem pe_u {X : Cx} : ∀ (s : Shared) (H : Hp) (C : Addr) (cl : List (Str × Addr)) (fp : List Addr), PE (X.blk s H scope (compEnvC scope cl C X.env) fp) elt (eU X scope elt) := fun s H C cl fp => ⟨fun pins s' σ H' Q I h => (h s H C cl fp).run pins s' I⟩
/-- a turn: what may come of an item -/
def Turns (S : Sx) (q : Option Addr) (tg elt : Expr) (ifs : List Expr) (scope : Scope) (vs : List Nat) (ρ : En) (Rl : α → Option Dt → Prop) (as : List α) (g : α → Dt) : Prop :=
  ∀ a, a ∈ as → ∃ ρ' js b, GV (S.blk scope) tg js (g a) (wipeD ρ vs) ρ' ∧ (∀ j ∈ js, j ∈ vs) ∧ EIs (S.blk scope) ifs ρ' b ∧ (b = true → EV (S.blk scope) q elt ρ' fun y => Rl a (some y)) ∧ (b = false → Rl a none)
/-- the reading of a comprehension, over what an iterator yields -/
theorem lc_read {X : Cx} {vs : List Nat} {σ : L2.St} {H : Hp} {P : Addr → Bool} (hX : S.Has X) (Rl : α → Option Dt → Prop) (hi : ∀ R : It → Hp → Prop, (∀ J H', Same H H' → Wk P (as.map g) J H' → R J H') → wI X tg iter σ H R) (hz : as.length ≤ 100000) (turn : Turns S q tg elt ifs scope vs ρ Rl as g)
    (w : Wd P q H) (er : ERep (hid P H) σ ρ) (Q : VK) (k : ∀ v ys H', Go q H H' → Outs Rl as ys → Rep (hid P H') (.lst ys) v → Q v H') : tLc (wI X tg iter) (gU X scope tg) (pU X scope ifs) (eU X scope elt) vs σ H Q := by
  refine hi _ fun J H1 s1 wk => ?_
  intro D hD
  have w1 : Wd P q H1 := w.go (.of s1)
  have er1 : ERep (hid P H1) σ ρ := er.same s1.hid
  have hDq : some D ≠ q := ne_pot w1 hD
  have hPD : P D = false := w1.ok.no hD
  have wx : Wx P (also P D) H1 := also_wx hD
  refine ⟨fun i m H' => m = as.length - i ∧ i ≤ as.length ∧ Go q H1 H' ∧ ∃ ys acc, H' D = some (.lst acc) ∧ RepL (hid (also P D) H') ys acc ∧ Outs Rl (as.take i) ys, ⟨as.length, by simp, Nat.zero_le _, .of (same_new hD), [], [], upd_same, rfl, by simpa using Outs.nil⟩, ?_⟩
  rintro i m H' ⟨rfl, hil, gH, ys, acc, eD, rep, ot⟩
  have w' : Wd P q H' := w1.go gH
  have sH : Same (hid P H1) (hid P H') := w1.same gH
  by_cases hlt : i < as.length
  · refine .inr ⟨wk.go i H' sH (by simpa using hlt), fun H2 => (i + 1 ≤ as.length ∧ Go q H1 H2 ∧ ∃ ys acc, H2 D = some (.lst acc) ∧ RepL (hid (also P D) H2) ys acc ∧ Outs Rl (as.take (i + 1)) ys), fun H2 nx => ⟨as.length - (i + 1), by omega, rfl, nx⟩, fun x H2 y => ?_⟩
    have wd' : Wd (also P D) q H' := also_wd w' eD
    obtain ⟨s2, d, hd, rd⟩ := wk.yld (also P D) wx i H' x H2 (also_same hD w1 gH) wd'.ok (by simpa using hlt) y
    have ea : as[i]? = some as[i] := List.getElem?_eq_getElem hlt
    have ed : d = g as[i] := by
      rw [List.getElem?_map, ea] at hd
      exact (Option.some.inj hd).symm
    subst ed
    have et : as.take (i + 1) = as.take i ++ [as[i]] := by rw [List.take_add_one, ea] <;> rfl
    obtain ⟨ρ', js, b, hg, hj, ht, he1, he2⟩ := turn as[i] (List.getElem_mem hlt)
    have w2 : Wd (also P D) q H2 := wd'.go (.of s2)
    have g2 : Go q H1 H2 := gH.trans (.of s2)
    have erb : ERep (hid (also P D) H2) (wipe σ vs) (wipeD ρ vs) := by
      refine ERep.wipe ?_ _
      rw [← wx.eq] at er1
      exact er1.same (also_same hD w1 g2)
    intro s0 H0 C cl fp
    refine hg _ (hX.blk s0 H0 scope cl C fp) (also P D) _ H2 x w2.ok erb rd _ fun σ' hl ho er2 => ⟨wipe_off hj hl ho, ?_⟩
    intro s0 H0 C cl fp
    refine ht _ (hX.blk s0 H0 scope cl C fp) (also P D) σ' H2 w2.ok er2 _ fun H3 s3 => ?_
    have e3 : H3 D = some (.lst acc) := s3 _ _ (s2 _ _ eD)
    have g3 : Go q H1 H3 := g2.trans (.of s3)
    have r3 : RepL (hid (also P D) H3) ys acc := (rep.same s2.hid).same s3.hid
    cases b with
    | false =>
      refine iteF ⟨hlt, g3, ys, acc, e3, r3, ?_⟩
      rw [et]
      exact .skip ot (he2 rfl)
    | true =>
      refine iteT ?_
      intro s0 H0 C cl fp
      refine he1 rfl _ (hX.blk s0 H0 scope cl C fp) (also P D) σ' H3 (w2.go (.of s3)) (er2.same s3.hid) _ fun v y H4 g4 rl r4 => ?_
      have e4 : H4 D = some (.lst acc) := g4.keep _ _ hDq e3
      have s4 : Same (hid (also P D) H3) (hid (also P D) H4) := (w2.go (.of s3)).same g4
      refine ⟨acc, e4, ?_, hlt, (g3.trans g4).upd_new hD hDq, ys ++ [y], acc ++ [v], upd_same, ?_, ?_⟩
      · have h5 := ot.length
        have h6 := r3.length
        rw [List.length_take] at h5
        rw [h6]
        exact Nat.lt_of_le_of_lt h5 (Nat.lt_of_le_of_lt (Nat.min_le_left _ _) (by rw [sizeLine_eq]; omega))
      · have su : Same (hid (also P D) H4) (hid (also P D) (upd H4 D (.lst (acc ++ [v])))) := fun a o e => by
          obtain ⟨h1, h2⟩ := hid_some e
          have : a ≠ D := fun z => by
            rw [z, also_yes] at h1
            cases h1
          rw [hid_no h1, upd_ne this]
          exact h2
        exact ((r3.same s4).append (.one r4)).same su
      · rw [et]
        exact .take ot rl
  · have hi2 : i = as.length := by omega
    subst hi2
    refine .inl ⟨wk.stop _ H' sH (by simp), ?_⟩
    refine k (.ref D) ys H' ((Go.of s1).trans gH) (by rw [List.take_length] at ot; exact ot) ⟨D, acc, rfl, ?_, rep.same also_le⟩
    rw [hid_no hPD]
    exact eD
/-- [elt for tg in iter if ..] -/
theorem ev_lc (Rl : α → Option Dt → Prop) (own : List (Str × Nat)) (hn : S.N.Nodup) (ok : blkC S.N S.sc scope own = true) (hi : IV S tg iter ρ (as.map g)) (hz : as.length ≤ 100000) (turn : Turns S q tg elt ifs scope (own.map (·.2)) ρ Rl as g)
    (hs : ∀ (env : Env) x, foldedSetIterable iter env x = pure x := by intro _ _; rfl) : EV S q (.ListComp elt [⟨tg, iter, ifs, 0⟩] scope pos) ρ fun d => ∃ ys, d = .lst ys ∧ Outs Rl as ys := fun X hX P σ H w er Q k => by
  refine wE.of (pe_lc (own := own) hX.calm (by rw [hX.N]; exact hn) pi_w (blkOk_by (by rw [hX.N, hX.sc]; exact ok)) pg_u pt_u pe_u (hs X.env)) ?_
  exact lc_read hX Rl (hi X hX P σ H w.ok er) hz turn w er Q fun v ys H' g ot r => k v (.lst ys) H' g ⟨ys, rfl, ot⟩ r
/-- every item gives f of it -/
theorem ed_map (own : List (Str × Nat)) (f : α → Dt) (hn : S.N.Nodup) (ok : blkC S.N S.sc scope own = true) (hi : IV S tg iter ρ (as.map g)) (hz : as.length ≤ 100000)
    (turn : ∀ a, a ∈ as → ∃ ρ' js, GV (S.blk scope) tg js (g a) (wipeD ρ (own.map (·.2))) ρ' ∧ (∀ j ∈ js, j ∈ own.map (·.2)) ∧ ED (S.blk scope) elt ρ' (f a))
    (hs : ∀ (env : Env) x, foldedSetIterable iter env x = pure x := by intro _ _; rfl) : ED S (.ListComp elt [⟨tg, iter, [], 0⟩] scope pos) ρ (.lst (as.map f)) := by
  refine ED.of ((ev_lc (fun a o => o = some (f a)) own hn ok hi hz (fun a ha => ?_) hs).mono fun d h => ?_)
  · obtain ⟨ρ', js, h1, h2, h3⟩ := turn a ha
    exact ⟨ρ', js, true, h1, h2, ei_nil, fun _ => EV.of h3 rfl, fun z => by cases z⟩
  · obtain ⟨ys, rfl, o⟩ := h
    rw [o.map]
/-- the items that pass p give f of them -/
theorem ed_flt {c : Expr} (own : List (Str × Nat)) (p : α → Bool) (f : α → Dt) (hn : S.N.Nodup) (ok : blkC S.N S.sc scope own = true) (hi : IV S tg iter ρ (as.map g)) (hz : as.length ≤ 100000)
    (turn : ∀ a, a ∈ as → ∃ ρ' js, GV (S.blk scope) tg js (g a) (wipeD ρ (own.map (·.2))) ρ' ∧ (∀ j ∈ js, j ∈ own.map (·.2)) ∧ ET (S.blk scope) c ρ' (p a) ∧ (p a = true → ED (S.blk scope) elt ρ' (f a)))
    (hs : ∀ (env : Env) x, foldedSetIterable iter env x = pure x := by intro _ _; rfl) : ED S (.ListComp elt [⟨tg, iter, [c], 0⟩] scope pos) ρ (.lst ((as.filter p).map f)) := by
  refine ED.of ((ev_lc (fun a o => o = if p a then some (f a) else none) own hn ok hi hz (fun a ha => ?_) hs).mono fun d h => ?_)
  · obtain ⟨ρ', js, h1, h2, h3, h4⟩ := turn a ha
    refine ⟨ρ', js, p a, h1, h2, ei_one h3, fun z => EV.of (h4 z) ?_, fun z => ?_⟩
    · show some (f a) = if p a = true then some (f a) else none
      rw [if_pos z]
    · show none = if p a = true then some (f a) else none
      rw [if_neg (by rw [z]; exact Bool.false_ne_true)]
  · obtain ⟨ys, rfl, o⟩ := h
    rw [o.flt]
/-- every item gives something of which Rl says so -/
theorem ev_map (Rl : α → Dt → Prop) (own : List (Str × Nat)) (hn : S.N.Nodup) (ok : blkC S.N S.sc scope own = true) (hi : IV S tg iter ρ (as.map g)) (hz : as.length ≤ 100000)
    (turn : ∀ a, a ∈ as → ∃ ρ' js, GV (S.blk scope) tg js (g a) (wipeD ρ (own.map (·.2))) ρ' ∧ (∀ j ∈ js, j ∈ own.map (·.2)) ∧ EV (S.blk scope) q elt ρ' (Rl a))
    (hs : ∀ (env : Env) x, foldedSetIterable iter env x = pure x := by intro _ _; rfl) : EV S q (.ListComp elt [⟨tg, iter, [], 0⟩] scope pos) ρ fun d => ∃ ys, d = .lst ys ∧ All2 Rl as ys := by
  refine (ev_lc (fun a o => ∃ y, o = some y ∧ Rl a y) own hn ok hi hz (fun a ha => ?_) hs).mono fun d h => ?_
  · obtain ⟨ρ', js, h1, h2, h3⟩ := turn a ha
    exact ⟨ρ', js, true, h1, h2, ei_nil, fun _ => h3.mono fun y r => ⟨y, rfl, r⟩, fun z => by cases z⟩
  · obtain ⟨ys, e, o⟩ := h
    exact ⟨ys, e, o.all2⟩
end
end Gl

namespace Gl
open PySem PySem.Spec L2 PyProof.Rows

section
variable {S : Sx} {q : Option Addr} {ρ : En} {d : Dt} {e a b c tg iter elt : Expr} {es ifs : List Expr} {pos p1 : Pos} {x y : Str} {sts A B : List Stmt} {st : Stmt} {Rn : En → Prop} {Rr : Dt → Prop} {R : Dt → Prop}
/-- one statement -/
def S1 (S : Sx) (q : Option Addr) (st : Stmt) (ρ : En) (Rn : En → Prop) (Rr : Dt → Prop) : Prop := ∀ X, S.Has X → ∀ (P : Addr → Bool) (σ : L2.St) (H : Hp), Wd P q H → ERep (hid P H) σ ρ →
  ∀ D : Ends, (∀ σ' ρ' H', Go q H H' → ERep (hid P H') σ' ρ' → Rn ρ' → D.nx σ' H') → (∀ v d H', Go q H H' → Rep (hid P H') d v → Rr d → D.rt v H') → wS X st D σ H
theorem sv_cons {M : En → Prop} (h : S1 S q st ρ M Rr) (k : ∀ ρ', M ρ' → SV S q sts ρ' Rn Rr) : SV S q (st :: sts) ρ Rn Rr := fun X hX P σ H w er D nx rt => by
  refine wSs.of (pss_cons ps_w pss_w) ?_
  refine h X hX P σ H w er _ (fun σ' ρ' H' g er' m => ?_) (fun v d H' g r m => rt v d H' g r m)
  exact k ρ' m X hX P σ' H' (w.go g) er' D (fun σ2 ρ2 H2 g2 er2 m2 => nx σ2 ρ2 H2 (g.trans g2) er2 m2) (fun v d H2 g2 r m2 => rt v d H2 (g.trans g2) r m2)
theorem sv_nil (h : Rn ρ) : SV S q [] ρ Rn Rr := fun X hX P σ H w er D nx rt => wSs.of pss_nil (nx σ ρ H (.refl q H) er h)
theorem SV.mono {Rn' : En → Prop} {Rr' : Dt → Prop} (h : SV S q sts ρ Rn Rr) (h1 : ∀ ρ', Rn ρ' → Rn' ρ') (h2 : ∀ d, Rr d → Rr' d) : SV S q sts ρ Rn' Rr' := fun X hX P σ H w er D nx rt =>
  h X hX P σ H w er D (fun σ' ρ' H' g er' m => nx σ' ρ' H' g er' (h1 _ m)) fun v d H' g r m => rt v d H' g r (h2 _ m)
/-- x = e -/
theorem sv_set (i : Nat) (h : ED S e ρ d) (k : SV S q sts (ρ.set i (some d)) Rn Rr) (hn : S.N.Nodup) (hN : S.N[i]? = some x := by rfl) (hv : Loc S.sc x := by first | exact Or.inl rfl | exact Or.inr rfl) (hf : S.fn x = true ∨ S.sc.names.lookup x = some .local := by first | exact .inl rfl | exact .inr rfl)
    (hs : ∀ env : Env, env.scope = S.sc → swapsWith e (some (.Name x p1)) pos.line env = pure false := by first | (intro _ _; rfl) | (intro env he; cases env; subst he; rfl)) : SV S q (.Assign [.Name x p1] e pos :: sts) ρ Rn Rr :=
  sv_cons (M := fun ρ' => ρ' = ρ.set i (some d)) (fun X hX P σ H w er D nx rt => by
    refine wS.of (ps_set (i := i) (by rw [hX.N]; exact hn) (by rw [hX.N]; exact hN) (by rw [hX.sc]; exact hv) pe_w (hs X.env hX.sc) (by rw [hX.sc]; exact hf.imp (hX.fn x) id)) ?_
    refine h X hX P σ H w.ok er _ fun v H' s r => ?_
    exact nx _ _ H' (.of s) ((er.same s.hid).set i r) rfl) fun ρ' m => by rw [show ρ' = _ from m]; exact k
theorem sv_setV (i : Nat) (h : EV S q e ρ R) (k : ∀ d, R d → SV S q sts (ρ.set i (some d)) Rn Rr) (hn : S.N.Nodup) (hN : S.N[i]? = some x := by rfl) (hv : Loc S.sc x := by first | exact Or.inl rfl | exact Or.inr rfl) (hf : S.fn x = true ∨ S.sc.names.lookup x = some .local := by first | exact .inl rfl | exact .inr rfl)
    (hs : ∀ env : Env, env.scope = S.sc → swapsWith e (some (.Name x p1)) pos.line env = pure false := by first | (intro _ _; rfl) | (intro env he; cases env; subst he; rfl)) : SV S q (.Assign [.Name x p1] e pos :: sts) ρ Rn Rr :=
  sv_cons (M := fun ρ' => ∃ d, R d ∧ ρ' = ρ.set i (some d)) (fun X hX P σ H w er D nx rt => by
    refine wS.of (ps_set (i := i) (by rw [hX.N]; exact hn) (by rw [hX.N]; exact hN) (by rw [hX.sc]; exact hv) pe_w (hs X.env hX.sc) (by rw [hX.sc]; exact hf.imp (hX.fn x) id)) ?_
    refine h X hX P σ H w er _ fun v d H' g m r => ?_
    exact nx _ _ H' g ((er.same (w.same g)).set i r) ⟨d, m, rfl⟩) fun ρ' ⟨d, m, e⟩ => by rw [e]; exact k d m
/-- x = [elt for ..], x a local name -/
theorem sv_setLc {α : Type} {as : List α} {g : α → Dt} {scope : Scope} (i : Nat) (Rl : α → Option Dt → Prop) (own : List (Str × Nat)) (hn : S.N.Nodup) (ok : blkC S.N S.sc scope own = true) (hi : IV S tg iter ρ (as.map g)) (hz : as.length ≤ 100000) (turn : Turns S q tg elt ifs scope (own.map (·.2)) ρ Rl as g)
    (k : ∀ ys, Outs Rl as ys → SV S q sts (ρ.set i (some (.lst ys))) Rn Rr) (hN : S.N[i]? = some x := by rfl) (hv : S.sc.names.lookup x = some .local := by rfl) (hkd : S.sc.kind = .function := by rfl) (hl : (p1.line == pos.line) = true := by rfl)
    (hsc : (scope.names.any fun (n, k) => n == x && (k == .local || k == .cell)) = false := by decide +kernel) (hs : ∀ (env : Env) x, foldedSetIterable iter env x = pure x := by intro _ _; rfl) {spos : Pos} : SV S q (.Assign [.Name x p1] (.ListComp elt [⟨tg, iter, ifs, 0⟩] scope pos) spos :: sts) ρ Rn Rr :=
  sv_cons (M := fun ρ' => ∃ ys, Outs Rl as ys ∧ ρ' = ρ.set i (some (.lst ys))) (fun X hX P σ H w er D nx rt => by
    refine wS.of (ps_setLc (i := i) (own := own) hX.calm (by rw [hX.N]; exact hn) (by rw [hX.N]; exact hN) (by rw [hX.sc]; exact hv) (sw_true (by rw [hX.sc]; exact hkd) (by rw [hX.sc]; exact hv) hl hsc) pi_w (blkOk_by (by rw [hX.N, hX.sc]; exact ok)) pg_u pt_u pe_u (hs X.env)) ?_
    refine lc_read hX Rl (hi X hX P σ H w.ok er) hz turn w er _ fun v ys H' g' ot r => ?_
    exact nx _ _ H' g' ((er.same (w.same g')).set i r) ⟨ys, ot, rfl⟩) fun ρ' ⟨ys, o, e⟩ => by rw [e]; exact k ys o
/-- any target -/
theorem sv_asg {ρ' : En} {js : List Nat} (h : ED S e ρ d) (hg : GV S tg js d ρ ρ') (k : SV S q sts ρ' Rn Rr)
    (hs : ∀ env : Env, env.scope = S.sc → swapsWithSole [tg] e pos.line env = pure false := by first | (intro _ _; rfl) | (intro env he; cases env; subst he; rfl)) (hw : ∀ env : Env, env.scope = S.sc → swappedStores [tg] e env = pure none := by first | (intro _ _; rfl) | (intro env he; cases env; subst he; rfl))
    (h1 : ∀ env : Env, (assignEach [tg] env).map (·.2) = [assign tg env] := by intro _; rfl) : SV S q (.Assign [tg] e pos :: sts) ρ Rn Rr :=
  sv_cons (M := fun ρ2 => ρ2 = ρ') (fun X hX P σ H w er D nx rt => by
    refine wS.of (ps_asg pe_w pg_w (hs X.env hX.sc) (hw X.env hX.sc) (h1 X.env)) ?_
    refine h X hX P σ H w.ok er _ fun v H' s r => ?_
    exact hg X hX P σ H' v (w.go (.of s)).ok (er.same s.hid) r _ fun σ' _ _ er' => nx _ _ H' (.of s) er' rfl) fun ρ2 m => by rw [show ρ2 = _ from m]; exact k
theorem sv_asgV {J : Dt → En → Prop} (h : EV S q e ρ R) (hg : ∀ d, R d → ∃ js ρ', GV S tg js d ρ ρ' ∧ J d ρ') (k : ∀ d ρ', R d → J d ρ' → SV S q sts ρ' Rn Rr)
    (hs : ∀ env : Env, env.scope = S.sc → swapsWithSole [tg] e pos.line env = pure false := by first | (intro _ _; rfl) | (intro env he; cases env; subst he; rfl)) (hw : ∀ env : Env, env.scope = S.sc → swappedStores [tg] e env = pure none := by first | (intro _ _; rfl) | (intro env he; cases env; subst he; rfl))
    (h1 : ∀ env : Env, (assignEach [tg] env).map (·.2) = [assign tg env] := by intro _; rfl) : SV S q (.Assign [tg] e pos :: sts) ρ Rn Rr :=
  sv_cons (M := fun ρ2 => ∃ d, R d ∧ J d ρ2) (fun X hX P σ H w er D nx rt => by
    refine wS.of (ps_asg pe_w pg_w (hs X.env hX.sc) (hw X.env hX.sc) (h1 X.env)) ?_
    refine h X hX P σ H w er _ fun v d H' g m r => ?_
    obtain ⟨js, ρ', hg, j⟩ := hg d m
    exact hg X hX P σ H' v (w.go g).ok (er.same (w.same g)) r _ fun σ' _ _ er' => nx _ _ H' g er' ⟨d, m, j⟩) fun ρ2 ⟨d, m, j⟩ => k d ρ2 m j
/-- x, y = a, b: stored from the right, no pair is made -/
theorem sv_par {Ra Rb : Dt → Prop} {px py pt pt2 : Pos} {kt k2 : Nat} (i j : Nat) (ha : EV S q a ρ Ra) (hb : EV S q b ρ Rb) (hij : i ≠ j) (hn : S.N.Nodup)
    (k : ∀ d1 d2, Ra d1 → Rb d2 → SV S q sts ((ρ.set i (some d1)).set j (some d2)) Rn Rr) (hi : S.N[i]? = some x := by rfl) (hj : S.N[j]? = some y := by rfl) (hx : S.sc.names.lookup x = some .local := by rfl) (hy : S.sc.names.lookup y = some .local := by rfl)
    (hw : ∀ env : Env, env.scope = S.sc → swappedStores [.Tuple [.Name x px, .Name y py] kt pt] (.Tuple [a, b] k2 pt2) env = pure (some [x, y]) := by first | (intro env he; cases env; subst he; rfl))
    (hs : ∀ env : Env, swapsWithSole [.Tuple [.Name x px, .Name y py] kt pt] (.Tuple [a, b] k2 pt2) pos.line env = pure false := by intro _; rfl)
    (hs1 : ∀ env : Env, starEach [a, b] env = (false, eval a env) :: starEach [b] env := by intro _; rfl) (hs2 : ∀ env : Env, starEach [b] env = (false, eval b env) :: starEach [] env := by intro _; rfl) :
    SV S q (.Assign [.Tuple [.Name x px, .Name y py] kt pt] (.Tuple [a, b] k2 pt2) pos :: sts) ρ Rn Rr :=
  sv_cons (M := fun ρ2 => ∃ d1 d2, Ra d1 ∧ Rb d2 ∧ ρ2 = (ρ.set i (some d1)).set j (some d2)) (fun X hX P σ H w er D nx rt => by
    refine wS.of (ps_par hX.calm (by rw [hX.N]; exact hn) (by rw [hX.N]; exact hi) (by rw [hX.N]; exact hj) hij (by rw [hX.sc]; exact hx) (by rw [hX.sc]; exact hy) (pa_cons pe_w (pa_cons pe_w pa_nil (hs2 X.env)) (hs1 X.env)) (hw X.env hX.sc) (hs X.env)) ?_
    refine ha X hX P σ H w er _ fun v1 d1 H1 g1 m1 r1 => ?_
    refine hb X hX P σ H1 (w.go g1) (er.same (w.same g1)) _ fun v2 d2 H2 g2 m2 r2 => ?_
    refine ⟨v1, v2, rfl, ?_⟩
    have s2 := (w.go g1).same g2
    exact nx _ _ H2 (g1.trans g2) ((((er.same (w.same g1)).same s2).set i (r1.same s2)).set j r2) ⟨d1, d2, m1, m2, rfl⟩) fun ρ2 ⟨d1, d2, m1, m2, e⟩ => by rw [e]; exact k d1 d2 m1 m2
theorem sv_ret (h : ED S e ρ d) (m : Rr d) : SV S q (.Return (some e) pos :: sts) ρ Rn Rr :=
  sv_cons (M := fun _ => False) (fun X hX P σ H w er D nx rt => by
    refine wS.of (ps_ret pe_w) ?_
    exact h X hX P σ H w.ok er _ fun v H' s r => rt v d H' (.of s) r m) fun _ z => z.elim
theorem sv_retV (h : EV S q e ρ Rr) : SV S q (.Return (some e) pos :: sts) ρ Rn Rr :=
  sv_cons (M := fun _ => False) (fun X hX P σ H w er D nx rt => by
    refine wS.of (ps_ret pe_w) ?_
    exact h X hX P σ H w er _ fun v d H' g m r => rt v d H' g r m) fun _ z => z.elim
/-- an expression alone -/
theorem sv_expr (h : EV S q e ρ R) (k : SV S q sts ρ Rn Rr) (hs : ∀ env : Env, swapsWith e none pos.line env = pure false := by intro _; rfl) : SV S q (.Expr e pos :: sts) ρ Rn Rr :=
  sv_cons (M := fun ρ' => ρ' = ρ) (fun X hX P σ H w er D nx rt => by
    refine wS.of (ps_expr pe_w (hs X.env)) ?_
    exact h X hX P σ H w er _ fun v d H' g m r => nx σ ρ H' g (er.same (w.same g)) rfl) fun ρ' m => by rw [show ρ' = _ from m]; exact k
theorem wSs_never {X : Cx} {σ : L2.St} {H : Hp} {D : Ends} (h : False) : wSs X sts D σ H := h.elim
/-- if -/
theorem sv_if {k : Bool} (h : ET S c ρ k) (h1 : k = true → SV S q A ρ (fun ρ' => SV S q sts ρ' Rn Rr) Rr) (h2 : k = false → SV S q B ρ (fun ρ' => SV S q sts ρ' Rn Rr) Rr) : SV S q (.If c A B pos :: sts) ρ Rn Rr :=
  sv_cons (M := fun ρ' => SV S q sts ρ' Rn Rr) (fun X hX P σ H w er D nx rt => by
    refine wS.of (ps_if pt_w pss_w pss_w) ?_
    refine h X hX P σ H w.ok er _ fun H1 s1 => ?_
    cases k with
    | true =>
      refine iteT ?_
      exact h1 rfl X hX P σ H1 (w.go (.of s1)) (er.same s1.hid) _ (fun σ' ρ' H' g er' m => nx σ' ρ' H' ((Go.of s1).trans g) er' m) fun v d H' g r m => rt v d H' ((Go.of s1).trans g) r m
    | false =>
      refine iteF ?_
      exact h2 rfl X hX P σ H1 (w.go (.of s1)) (er.same s1.hid) _ (fun σ' ρ' H' g er' m => nx σ' ρ' H' ((Go.of s1).trans g) er' m) fun v d H' g r m => rt v d H' ((Go.of s1).trans g) r m) fun ρ' m => m
theorem sv_ifV {Rb : Bool → Prop} (h : VT S q c ρ Rb) (h1 : Rb true → SV S q A ρ (fun ρ' => SV S q sts ρ' Rn Rr) Rr) (h2 : Rb false → SV S q B ρ (fun ρ' => SV S q sts ρ' Rn Rr) Rr) : SV S q (.If c A B pos :: sts) ρ Rn Rr :=
  sv_cons (M := fun ρ' => SV S q sts ρ' Rn Rr) (fun X hX P σ H w er D nx rt => by
    refine wS.of (ps_if pt_w pss_w pss_w) ?_
    refine h X hX P σ H w er _ fun k H1 g1 rb => ?_
    cases k with
    | true =>
      refine iteT ?_
      exact h1 rb X hX P σ H1 (w.go g1) (er.same (w.same g1)) _ (fun σ' ρ' H' g er' m => nx σ' ρ' H' (g1.trans g) er' m) fun v d H' g r m => rt v d H' (g1.trans g) r m
    | false =>
      refine iteF ?_
      exact h2 rb X hX P σ H1 (w.go g1) (er.same (w.same g1)) _ (fun σ' ρ' H' g er' m => nx σ' ρ' H' (g1.trans g) er' m) fun v d H' g r m => rt v d H' (g1.trans g) r m) fun ρ' m => m
/-- a test that is false: what stands within is never reached -/
theorem sv_skip (h : ET S c ρ false) (k : SV S q sts ρ Rn Rr) : SV S q (.If c A [] pos :: sts) ρ Rn Rr := sv_if h (fun z => by cases z) fun _ => sv_nil k
/-- for tg in iter: W by the turn and the slots -/
theorem sv_for {α : Type} {as : List α} {g : α → Dt} (W : Nat → En → Prop) (hi : IV S tg iter ρ (as.map g)) (h0 : W 0 ρ)
    (turn : ∀ i a ρ', as[i]? = some a → W i ρ' → ∃ ρ2 js, GV S tg js (g a) ρ' ρ2 ∧ SV S q A ρ2 (W (i + 1)) Rr) (k : ∀ ρ', W as.length ρ' → SV S q sts ρ' Rn Rr)
    (hs : ∀ (env : Env) x, foldedSetIterable iter env x = pure x := by intro _ _; rfl) (hp : ∀ X, S.Has X → PassesOwn (model X.prog X.w) X.A X.env (fun _ _ => False) := by exact fun _ _ => PassesOwn.never) : SV S q (.For tg iter A [] pos :: sts) ρ Rn Rr :=
  sv_cons (M := fun ρ' => W as.length ρ') (fun X hX P σ H w er D nx rt => by
    have hX' : S.Has X.nox := ⟨hX.prog, hX.w, hX.K, hX.mg, hX.base, hX.N, hX.sc, hX.fn, hX.room, hX.calm⟩
    have ps : PS X.nox (.For tg iter A [] pos) (tFor (wI X.nox tg iter) (wG X.nox tg) (wSs X.nox A)) := ps_for (PassesOwn.never) hX.calm pi_w pg_w pss_w (hs X.nox.env)
    have ps' : PS X (.For tg iter A [] pos) (tFor (wI X.nox tg iter) (wG X.nox tg) (wSs X.nox A)) := ⟨fun pins s σ H D I h => wpAny_mono (ps.run pins s σ H D (I.wish _) h) (fun _ _ q => q.unwish) fun _ _ z => False.elim z⟩
    refine wS.of ps' ?_
    refine hi X.nox hX' P σ H w.ok er _ fun J H1 s1 wk => ?_
    have w1 : Wd P q H1 := w.go (.of s1)
    refine ⟨fun i m σ' H' => m = as.length - i ∧ i ≤ as.length ∧ Go q H1 H' ∧ ∃ ρ', ERep (hid P H') σ' ρ' ∧ W i ρ', ⟨as.length, by simp, Nat.zero_le _, .refl q H1, ρ, er.same s1.hid, h0⟩, ?_⟩
    rintro i m σ' H' ⟨rfl, hil, gH, ρ', er', wi⟩
    have w' : Wd P q H' := w1.go gH
    have sH : Same (hid P H1) (hid P H') := w1.same gH
    by_cases hlt : i < as.length
    · refine .inr ⟨wk.go i H' sH (by simpa using hlt), fun σ2 H2 => (i + 1 ≤ as.length ∧ Go q H1 H2 ∧ ∃ ρ', ERep (hid P H2) σ2 ρ' ∧ W (i + 1) ρ'), fun σ2 H2 n => ⟨as.length - (i + 1), by omega, rfl, n⟩, fun x H2 y => ?_⟩
      obtain ⟨s2, d, hd, rd⟩ := wk.yld P (.refl P H1) i H' x H2 sH w'.ok (by simpa using hlt) y
      have ea : as[i]? = some as[i] := List.getElem?_eq_getElem hlt
      have ed : d = g as[i] := by
        rw [List.getElem?_map, ea] at hd
        exact (Option.some.inj hd).symm
      subst ed
      obtain ⟨ρ2, js, hg, hb⟩ := turn i as[i] ρ' ea wi
      have w2 : Wd P q H2 := w'.go (.of s2)
      refine hg X.nox hX' P σ' H2 x w2.ok (er'.same s2.hid) rd _ fun σ2 _ _ er2 => ?_
      refine hb X.nox hX' P σ2 H2 w2 er2 _ (fun σ3 ρ3 H3 g3 er3 m3 => ⟨hlt, (gH.trans (.of s2)).trans g3, ρ3, er3, m3⟩) fun v d H3 g3 r m3 => ?_
      exact rt v d H3 ((Go.of s1).trans ((gH.trans (.of s2)).trans g3)) r m3
    · have hi2 : i = as.length := by omega
      subst hi2
      exact .inl ⟨wk.stop _ H' sH (by simp), nx σ' ρ' H' ((Go.of s1).trans gH) er' wi⟩) fun ρ' m => k ρ' m
/-- while c: W by a measure -/
theorem sv_while (W : Nat → En → Prop) (m0 : Nat) (h0 : W m0 ρ) (turn : ∀ m ρ', W m ρ' → ∃ b, ET S c ρ' b ∧ (b = true → SV S q A ρ' (fun ρ2 => ∃ m', m' < m ∧ W m' ρ2) Rr) ∧ (b = false → SV S q sts ρ' Rn Rr)) : SV S q (.While c A [] pos :: sts) ρ Rn Rr :=
  sv_cons (M := fun ρ' => SV S q sts ρ' Rn Rr) (fun X hX P σ H w er D nx rt => by
    have hX' : S.Has X.nox := ⟨hX.prog, hX.w, hX.K, hX.mg, hX.base, hX.N, hX.sc, hX.fn, hX.room, hX.calm⟩
    have ps : PS X.nox (.While c A [] pos) (tWhile (wT X.nox c) (wSs X.nox A)) := ps_while (PassesOwn.never) pt_w pss_w
    have ps' : PS X (.While c A [] pos) (tWhile (wT X.nox c) (wSs X.nox A)) := ⟨fun pins s σ H D I h => wpAny_mono (ps.run pins s σ H D (I.wish _) h) (fun _ _ q => q.unwish) fun _ _ z => False.elim z⟩
    refine wS.of ps' ?_
    refine ⟨fun m σ' H' => Go q H H' ∧ ∃ ρ', ERep (hid P H') σ' ρ' ∧ W m ρ', ⟨m0, .refl q H, ρ, er, h0⟩, fun m σ' H' ⟨g, ρ', er', wm⟩ => ?_⟩
    obtain ⟨b, ht, h1, h2⟩ := turn m ρ' wm
    have w' : Wd P q H' := w.go g
    refine ht X.nox hX' P σ' H' w'.ok er' _ fun H2 s2 => ?_
    have g2 : Go q H H2 := g.trans (.of s2)
    cases b with
    | true =>
      refine iteT ⟨fun σ3 H3 => ∃ m', m' < m ∧ (Go q H H3 ∧ ∃ ρ', ERep (hid P H3) σ3 ρ' ∧ W m' ρ'), fun _ _ z => z, ?_⟩
      refine h1 rfl X.nox hX' P σ' H2 (w'.go (.of s2)) (er'.same s2.hid) _ (fun σ3 ρ3 H3 g3 er3 ⟨m', hm, wm'⟩ => ⟨m', hm, g2.trans g3, ρ3, er3, wm'⟩) fun v d H3 g3 r mr => rt v d H3 (g2.trans g3) r mr
    | false => exact iteF (nx σ' ρ' H2 g2 (er'.same s2.hid) (h2 rfl))) fun ρ' m => m
end
end Gl

namespace Gl
open PySem PySem.Spec L2 PyProof.Rows

/-! ### a def's promise -/
structure Pg where
  prog : Program
  w : World
  K : PySem.W.Frag
  mg : Str → Option Value
  base : Heap
def Pg.S (g : Pg) (N : List Str) (sc : Scope) (k : Nat) : Sx := ⟨g.prog, g.w, g.K, g.mg, g.base, N, sc, fun _ => true, k⟩
def Sx.pg (S : Sx) : Pg := ⟨S.prog, S.w, S.K, S.mg, S.base⟩
/-- nothing but new objects; G says what comes of which arguments -/
def spP (G : List Dt → Dt → Prop) : Sp := fun vs H Q _ => ∃ (P : Addr → Bool) (ds : List Dt) (d : Dt), Pok P H ∧ RepL (hid P H) ds vs ∧ G ds d ∧ ∀ v H', Same H H' → Rep (hid P H') d v → Q v H'
/-- with the pot as the first argument; G ds R: all that may come is in R -/
def spV (G : List Dt → (Dt → Prop) → Prop) : Sp := fun vs H Q _ => ∃ (P : Addr → Bool) (p : Addr) (ds : List Dt) (R : Dt → Prop), Wd P (some p) H ∧ RepL (hid P H) (.adr p :: ds) vs ∧ G ds R ∧ ∀ v d H', Go (some p) H H' → R d → Rep (hid P H') d v → Q v H'
structure FnP (g : Pg) (x : Str) (k : Nat) (sp : Sp) : Prop where
  ex : ∃ (f : Addr) (fd : FuncData) (ps : List Str), g.mg x = some (.ref f) ∧ PySem.W.keepIn g.K (.ref f) = true ∧ FnOk g.prog g.w g.K g.mg g.base CX0 k f fd ps sp ∧ Binds g.K fd ps []
theorem FnP.mono {g : Pg} {x : Str} {j k : Nat} {sp : Sp} (F : FnP g x j sp) (h : j ≤ k) : FnP g x k sp := by
  obtain ⟨f, fd, ps, h1, h2, h3, h4⟩ := F.ex
  exact ⟨f, fd, ps, h1, h2, h3.mono h, h4⟩
def startD (N : List Str) (ds : List Dt) : En := ds.map some ++ List.replicate (N.length - ds.length) none
theorem RepL.start {H : Hp} {N : List Str} {ds : List Dt} {vs : List V} (r : RepL H ds vs) : ERep H (L2.start N vs) (startD N ds) := by
  have hl := r.length
  refine ⟨by simp [L2.start, startD, hl], fun i d e => ?_⟩
  unfold startD at e
  unfold L2.start
  by_cases hi : i < ds.length
  · rw [List.getElem?_append_left (by simpa using hi)] at e
    rw [List.getElem?_append_left (by simpa [hl] using hi)]
    rw [List.getElem?_map] at e
    cases e2 : ds[i]? with
    | none =>
      rw [e2] at e
      cases e
    | some d' =>
      rw [e2] at e
      have e3 : d' = d := Option.some.inj (Option.some.inj e)
      subst e3
      obtain ⟨v, g, rv⟩ := r.at e2
      exact ⟨v, by rw [List.getElem?_map, g] <;> rfl, rv⟩
  · rw [List.getElem?_append_right (by simpa using hi)] at e
    rw [List.getElem?_replicate] at e
    split at e <;> cases e
theorem mkFn {g : Pg} {x : Str} {st : Stmt} {N ps : List Str} {k : Nat} {G : List Dt → Dt → Prop} (hf : ∃ fd, FunD g.K x x (defArgs st) (defBody st) (defScope st) [] [] (He.ga g.K x) fd) (hm : g.mg x = some (.ref (He.ga g.K x))) (sc : FnScope N ps (defScope st))
    (hb : ∀ (kV doc pm : Value) (an : Option Addr) (cdv ct : Value) (us : List Value), us.length = ps.length → bindArgs (PySem.W.fnOf x x (defArgs st) (defBody st) (defScope st) .none kV doc pm an cdv ct) ⟨us, []⟩ = pure (ps.zip us))
    (len : ∀ ds d, G ds d → ds.length = ps.length) (body : ∀ ds d, G ds d → SV (g.S N (defScope st) k) none (defBody st) (startD N ds) (fun _ => d = .non) (fun z => z = d)) : FnP g x (k + 1) (spP G) := by
  obtain ⟨fd, F⟩ := hf
  refine ⟨_, fd, ps, hm, F.kp, F.ok sc (fun vs H Q E h => ?_) (fun cdv A outer s H vs Q E hr h => ?_), F.bindsN hb⟩
  · obtain ⟨P, ds, d, _, r, hG, _⟩ := h
    rw [r.length, len ds d hG]
  · obtain ⟨P, ds, d, pk, r, hG, k⟩ := h
    refine ⟨wSs _ (defBody st), pss_w, ?_⟩
    refine body ds d hG _ ?has P _ H ⟨pk, fun p z => by cases z⟩ r.start _ (fun σ' ρ' H' go _ e => ?_) fun v z H' go rp e => ?_
    case has => exact ⟨rfl, rfl, rfl, rfl, rfl, rfl, rfl, fun _ _ => rfl, hr, rfl⟩
    · rw [e] at k
      exact k .non H' go.none rfl
    · rw [show z = d from e] at rp
      exact k v H' go.none rp
theorem mkFnV {g : Pg} {x : Str} {st : Stmt} {N ps : List Str} {k : Nat} {G : List Dt → (Dt → Prop) → Prop} (hf : ∃ fd, FunD g.K x x (defArgs st) (defBody st) (defScope st) [] [] (He.ga g.K x) fd) (hm : g.mg x = some (.ref (He.ga g.K x))) (sc : FnScope N ps (defScope st))
    (hb : ∀ (kV doc pm : Value) (an : Option Addr) (cdv ct : Value) (us : List Value), us.length = ps.length → bindArgs (PySem.W.fnOf x x (defArgs st) (defBody st) (defScope st) .none kV doc pm an cdv ct) ⟨us, []⟩ = pure (ps.zip us))
    (len : ∀ ds R, G ds R → ds.length + 1 = ps.length) (body : ∀ p ds R, G ds R → SV (g.S N (defScope st) k) (some p) (defBody st) (startD N (.adr p :: ds)) (fun _ => R .non) R) : FnP g x (k + 1) (spV G) := by
  obtain ⟨fd, F⟩ := hf
  refine ⟨_, fd, ps, hm, F.kp, F.ok sc (fun vs H Q E h => ?_) (fun cdv A outer s H vs Q E hr h => ?_), F.bindsN hb⟩
  · obtain ⟨P, p, ds, R, _, r, hG, _⟩ := h
    rw [r.length, List.length_cons, len ds R hG]
  · obtain ⟨P, p, ds, R, w, r, hG, k⟩ := h
    refine ⟨wSs _ (defBody st), pss_w, ?_⟩
    refine body p ds R hG _ ?has P _ H w r.start _ (fun σ' ρ' H' go _ e => ?_) fun v z H' go rp e => ?_
    case has => exact ⟨rfl, rfl, rfl, rfl, rfl, rfl, rfl, fun _ _ => rfl, hr, rfl⟩
    · exact k .non .non H' go e rfl
    · exact k v z H' go e rp

section
variable {S : Sx} {q : Option Addr} {ρ : En} {d da db : Dt} {ds : List Dt} {e a b c : Expr} {es : List Expr} {pos p apos : Pos} {x f : Str} {sp : Sp} {k : Nat}
theorem Sx.Has.fnok {X : Cx} (hX : S.Has X) {fa : Addr} {fd : FuncData} {ps : List Str} (F : FnOk S.prog S.w S.K S.mg S.base CX0 k fa fd ps sp) : FnOk X.prog X.w X.K X.mg X.base CX0 k fa fd ps sp := by
  rw [hX.prog, hX.w, hX.K, hX.mg, hX.base]
  exact F
/-- f(e, ..) -/
theorem ed_call {G : List Dt → Dt → Prop} (F : FnP S.pg x k (spP G)) (ha : EA S (e :: es) ρ ds) (hG : G ds d) (hk : k ≤ S.k := by exact Nat.le_of_ble_eq_true rfl) (hg : S.sc.names.lookup x = some .globalImplicit := by rfl) (hd : (x == ("__debug__" : Str)) = false := by decide)
    (he : ∀ env : Env, starEach (e :: es) env = (false, eval e env) :: starEach es env := by intro _; rfl) (hpl : ∀ env : Env, (backTo pos (starEach es env)).any (·.1) = false := by intro _; rfl) : ED S (.Call (.Name x p) (e :: es) [] pos) ρ d := fun X hX P σ H w er Q z => by
  obtain ⟨fa, fd, ps, h1, h2, h3, h4⟩ := F.ex
  refine wE.of (pe_call (hX.fnok h3) (hX.room.mono hk) (hX.gl hg) (by rw [hX.mg]; exact h1) (by rw [hX.K]; exact h2) (by rw [hX.K]; exact h4) .nil pass0 pa_w hd (he X.env) (hpl X.env)) ?_
  refine ha X hX P σ H w er _ fun vs H1 s1 r1 => ?_
  show spP G (vs ++ []) H1 Q _
  rw [List.append_nil]
  exact ⟨P, ds, d, w.same s1, r1, hG, fun v H' s r => z v H' (s1.trans s) r⟩
/-- a pure def upon what the pot gave -/
theorem ev_call {G : List Dt → Dt → Prop} {R : Dt → Prop} {T : List Dt → Prop} (F : FnP S.pg x k (spP G)) (ha : VA S q (e :: es) ρ T) (hG : ∀ ds, T ds → ∃ d, R d ∧ G ds d) (hk : k ≤ S.k := by exact Nat.le_of_ble_eq_true rfl) (hg : S.sc.names.lookup x = some .globalImplicit := by rfl) (hd : (x == ("__debug__" : Str)) = false := by decide)
    (he : ∀ env : Env, starEach (e :: es) env = (false, eval e env) :: starEach es env := by intro _; rfl) (hpl : ∀ env : Env, (backTo pos (starEach es env)).any (·.1) = false := by intro _; rfl) : EV S q (.Call (.Name x p) (e :: es) [] pos) ρ R := fun X hX P σ H w er Q z => by
  obtain ⟨fa, fd, ps, h1, h2, h3, h4⟩ := F.ex
  refine wE.of (pe_call (hX.fnok h3) (hX.room.mono hk) (hX.gl hg) (by rw [hX.mg]; exact h1) (by rw [hX.K]; exact h2) (by rw [hX.K]; exact h4) .nil pass0 pa_w hd (he X.env) (hpl X.env)) ?_
  refine ha X hX P σ H w er _ fun vs ds H1 g1 t1 r1 => ?_
  show spP G (vs ++ []) H1 Q _
  rw [List.append_nil]
  obtain ⟨d, rd, hG⟩ := hG ds t1
  exact ⟨P, ds, d, (w.go g1).ok, r1, hG, fun v H' s r => z v d H' (g1.trans (.of s)) rd r⟩
/-- a def of the pot -/
theorem ev_callV {G : List Dt → (Dt → Prop) → Prop} {R : Dt → Prop} {T : List Dt → Prop} {pt : Addr} (F : FnP S.pg x k (spV G)) (ha : VA S (some pt) (e :: es) ρ (fun l => ∃ ds, l = .adr pt :: ds ∧ T ds)) (hG : ∀ ds, T ds → G ds R) (hk : k ≤ S.k := by exact Nat.le_of_ble_eq_true rfl) (hg : S.sc.names.lookup x = some .globalImplicit := by rfl) (hd : (x == ("__debug__" : Str)) = false := by decide)
    (he : ∀ env : Env, starEach (e :: es) env = (false, eval e env) :: starEach es env := by intro _; rfl) (hpl : ∀ env : Env, (backTo pos (starEach es env)).any (·.1) = false := by intro _; rfl) : EV S (some pt) (.Call (.Name x p) (e :: es) [] pos) ρ R := fun X hX P σ H w er Q z => by
  obtain ⟨fa, fd, ps, h1, h2, h3, h4⟩ := F.ex
  refine wE.of (pe_call (hX.fnok h3) (hX.room.mono hk) (hX.gl hg) (by rw [hX.mg]; exact h1) (by rw [hX.K]; exact h2) (by rw [hX.K]; exact h4) .nil pass0 pa_w hd (he X.env) (hpl X.env)) ?_
  refine ha X hX P σ H w er _ fun vs l H1 g1 t1 r1 => ?_
  show spV G (vs ++ []) H1 Q _
  rw [List.append_nil]
  obtain ⟨ds, e1, t1⟩ := t1
  subst e1
  exact ⟨P, pt, ds, R, w.go g1, r1, hG ds t1, fun v d H' g m r => z v d H' (g1.trans g) m r⟩
/-- arguments of such a call: the pot's name, then what is worth data -/
theorem va_pot {pt : Addr} {T : List Dt → Prop} (h : ED S e ρ (.adr pt)) (h2 : VA S (some pt) es ρ T) (hs : ∀ env : Env, starEach (e :: es) env = (false, eval e env) :: starEach es env := by intro _; rfl) : VA S (some pt) (e :: es) ρ (fun l => ∃ ds, l = .adr pt :: ds ∧ T ds) := fun X hX P σ H w er Q z =>
  va_cons (R := fun d => d = .adr pt) (T := T) (EV.of h rfl) h2 hs X hX P σ H w er Q fun vs l H' g ⟨d, ds, e1, e2, t⟩ r => z vs l H' g ⟨ds, by rw [e1, e2], t⟩ r

/-! ### built-ins -/
/-- what a built-in gives of data -/
def RC (r : List V → Hp → VK → Prop) (ds : List Dt) (d : Dt) : Prop := ∀ (P : Addr → Bool) (H : Hp) (vs : List V), Pok P H → RepL (hid P H) ds vs → ∀ Q : VK, (∀ v H', Same H H' → Rep (hid P H') d v → Q v H') → r vs H Q
theorem ed_bi {id : String} {r : List V → Hp → VK → Prop} (hc : ∀ X, S.Has X → CallR X (.builtin id) r) (ha : EA S (e :: es) ρ ds) (hr : RC r ds d) (hm : S.mg x = none) (hv : bootBuiltins x = some (.builtin id) := by decide +kernel) (hg : S.sc.names.lookup x = some .globalImplicit := by rfl)
    (hn : x ≠ "__name__" := by decide) (hd : (x == ("__debug__" : Str)) = false := by decide) (he : ∀ env : Env, starEach (e :: es) env = (false, eval e env) :: starEach es env := by intro _; rfl) (hpl : ∀ env : Env, (backTo pos (starEach es env)).any (·.1) = false := by intro _; rfl) :
    ED S (.Call (.Name x p) (e :: es) [] pos) ρ d := fun X hX P σ H w er Q z => by
  refine wE.of (pe_callB (hc X hX) (hX.gl hg) (by rw [hX.mg]; exact hm) hv pa_w hn hd (he X.env) (hpl X.env)) ?_
  refine ha X hX P σ H w er _ fun vs H1 s1 r1 => ?_
  exact hr P H1 vs (w.same s1) r1 Q fun v H' s r => z v H' (s1.trans s) r
theorem ed_ct {T : String} {r : List V → Hp → VK → Prop} (hc : ∀ X, S.Has X → CallR X (.type T) r) (ha : EA S (e :: es) ρ ds) (hr : RC r ds d) (hm : S.mg x = none) (hv : bootBuiltins x = some (.type T) := by decide +kernel) (hg : S.sc.names.lookup x = some .globalImplicit := by rfl)
    (hn : x ≠ "__name__" := by decide) (hd : (x == ("__debug__" : Str)) = false := by decide) (he : ∀ env : Env, starEach (e :: es) env = (false, eval e env) :: starEach es env := by intro _; rfl) (hpl : ∀ env : Env, (backTo pos (starEach es env)).any (·.1) = false := by intro _; rfl) :
    ED S (.Call (.Name x p) (e :: es) [] pos) ρ d := fun X hX P σ H w er Q z => by
  refine wE.of (pe_callTy (hc X hX) (hX.gl hg) (by rw [hX.mg]; exact hm) hv pa_w hn hd (he X.env) (hpl X.env)) ?_
  refine ha X hX P σ H w er _ fun vs H1 s1 r1 => ?_
  exact hr P H1 vs (w.same s1) r1 Q fun v H' s r => z v H' (s1.trans s) r
theorem RepL.at1 {H : Hp} {d : Dt} {vs : List V} (r : RepL H [d] vs) : ∃ v, vs = [v] ∧ Rep H d v := by
  obtain ⟨v, t, e, h, e2⟩ := r
  have e3 : t = [] := e2
  exact ⟨v, by rw [e, e3], h⟩
theorem RepL.at2 {H : Hp} {d d2 : Dt} {vs : List V} (r : RepL H [d, d2] vs) : ∃ v v2, vs = [v, v2] ∧ Rep H d v ∧ Rep H d2 v2 := by
  obtain ⟨v, t, e, h, r2⟩ := r
  obtain ⟨v2, e2, h2⟩ := r2.at1
  exact ⟨v, v2, by rw [e, e2], h, h2⟩
theorem ea_1 {ha : ED S a ρ da} (hs : ∀ env : Env, starEach [a] env = (false, eval a env) :: starEach [] env := by intro _; rfl) : EA S [a] ρ [da] := ea_cons ha ea_nil hs
theorem rep_lst {P : Addr → Bool} {H : Hp} {xs : List Dt} {v : V} (r : Rep (hid P H) (.lst xs) v) : ∃ a vs, v = .ref a ∧ H a = some (.lst vs) ∧ RepL (hid P H) xs vs := by
  obtain ⟨a, vs, e, g, r⟩ := r
  exact ⟨a, vs, e, (hid_some g).2, r⟩
theorem rep_tup {P : Addr → Bool} {H : Hp} {xs : List Dt} {v : V} (r : Rep (hid P H) (.tup xs) v) : ∃ a vs, v = .ref a ∧ H a = some (.tup vs) ∧ RepL (hid P H) xs vs := by
  obtain ⟨a, vs, e, g, r⟩ := r
  exact ⟨a, vs, e, (hid_some g).2, r⟩
def rLenQ (K : PySem.W.Frag) : List V → Hp → VK → Prop := fun xs H Q => ∃ p ys, xs = [.ref p] ∧ (SqL K H p ys ∨ SqT K H p ys) ∧ Q (.int ys.length) H
def rListQ (K : PySem.W.Frag) : List V → Hp → VK → Prop := fun xs H Q => ∃ p ys, xs = [.ref p] ∧ (SqL K H p ys ∨ SqT K H p ys) ∧ ∀ l, H l = none → Q (.ref l) (upd H l (.lst ys))
def rTupQ (K : PySem.W.Frag) : List V → Hp → VK → Prop := fun xs H Q => ∃ p ys, xs = [.ref p] ∧ ((SqL K H p ys ∧ ∀ l, H l = none → Q (.ref l) (upd H l (.tup ys))) ∨ (SqT K H p ys ∧ Q (.ref p) H))
theorem cl_of {f : Value} {r : PySem.W.Frag → List V → Hp → VK → Prop} (h : ∀ X : Cx, X.calm = true → CallR X f (r X.K)) : ∀ X, S.Has X → CallR X f (r S.K) := fun X hX => by
  rw [← hX.K]
  exact h X hX.calm
theorem ed_lenL {xs : List Dt} (ha : ED S a ρ (.lst xs)) (hm : S.mg "len" = none) (hg : S.sc.names.lookup ("len" : Str) = some .globalImplicit := by rfl) (hs : ∀ env : Env, starEach [a] env = (false, eval a env) :: starEach [] env := by intro _; rfl) : ED S (.Call (.Name "len" p) [a] [] pos) ρ (.int xs.length) :=
  ed_bi (cl_of (r := rLenQ) fun X _ => call_len_seq) (ha := ea_cons ha ea_nil hs) (he := hs) (hr := fun P H vs pk r0 Q z => by
    obtain ⟨v, rfl, r⟩ := r0.at1
    obtain ⟨l, ws, rfl, g, r⟩ := rep_lst r
    refine ⟨l, ws, rfl, .inl (.inl (.inl g)), ?_⟩
    rw [r.length]
    exact z _ H (Same.refl H) rfl) (hm := hm) (hv := PySem.boot_len) (hg := hg)
theorem ed_lenT {xs : List Dt} (ha : ED S a ρ (.tup xs)) (hm : S.mg "len" = none) (hg : S.sc.names.lookup ("len" : Str) = some .globalImplicit := by rfl) (hs : ∀ env : Env, starEach [a] env = (false, eval a env) :: starEach [] env := by intro _; rfl) : ED S (.Call (.Name "len" p) [a] [] pos) ρ (.int xs.length) :=
  ed_bi (cl_of (r := rLenQ) fun X _ => call_len_seq) (ha := ea_cons ha ea_nil hs) (he := hs) (hr := fun P H vs pk r0 Q z => by
    obtain ⟨v, rfl, r⟩ := r0.at1
    obtain ⟨l, ws, rfl, g, r⟩ := rep_tup r
    refine ⟨l, ws, rfl, .inr (.inl (.inl g)), ?_⟩
    rw [r.length]
    exact z _ H (Same.refl H) rfl) (hm := hm) (hv := PySem.boot_len) (hg := hg)
theorem ed_lenS {y : Str} (ha : ED S a ρ (.str y)) (hl : y.length ≤ 1000) (hm : S.mg "len" = none) (hg : S.sc.names.lookup ("len" : Str) = some .globalImplicit := by rfl) (hs : ∀ env : Env, starEach [a] env = (false, eval a env) :: starEach [] env := by intro _; rfl) : ED S (.Call (.Name "len" p) [a] [] pos) ρ (.int y.length) :=
  ed_bi (fun X hX => call_len_str) (ha := ea_cons ha ea_nil hs) (he := hs) (hr := fun P H vs pk r0 Q z => by
    obtain ⟨v, rfl, r⟩ := r0.at1
    exact ⟨y, by rw [show v = _ from r], Nat.le_of_lt (small1000 hl), z _ H (Same.refl H) rfl⟩) (hm := hm) (hv := PySem.boot_len) (hg := hg)
theorem ed_absI {n : Int} (ha : ED S a ρ (.int n)) (hm : S.mg "abs" = none) (hg : S.sc.names.lookup ("abs" : Str) = some .globalImplicit := by rfl) (hs : ∀ env : Env, starEach [a] env = (false, eval a env) :: starEach [] env := by intro _; rfl) : ED S (.Call (.Name "abs" p) [a] [] pos) ρ (.int (if n < 0 then -n else n)) :=
  ed_bi (fun X hX => call_abs) (ha := ea_cons ha ea_nil hs) (he := hs) (hr := fun P H vs pk r0 Q z => by
    obtain ⟨v, rfl, r⟩ := r0.at1
    exact ⟨n, by rw [show v = _ from r], z _ H (Same.refl H) rfl⟩) (hm := hm) (hg := hg)
theorem ed_max2 {m n : Int} (ha : ED S a ρ (.int m)) (hb : ED S b ρ (.int n)) (hm : S.mg "max" = none) (hg : S.sc.names.lookup ("max" : Str) = some .globalImplicit := by rfl) (hs : ∀ env : Env, starEach [a, b] env = (false, eval a env) :: starEach [b] env := by intro _; rfl) (hs2 : ∀ env : Env, starEach [b] env = (false, eval b env) :: starEach [] env := by intro _; rfl) (hpl : ∀ env : Env, (backTo pos (starEach [b] env)).any (·.1) = false := by intro _; rfl) : ED S (.Call (.Name "max" p) [a, b] [] pos) ρ (.int (if n > m then n else m)) :=
  ed_bi (fun X hX => call_max2 hX.calm) (ha := ea_cons ha (ea_cons hb ea_nil hs2) hs) (he := hs) (hpl := hpl) (hr := fun P H vs pk r0 Q z => by
    obtain ⟨v, v2, rfl, r, r2⟩ := r0.at2
    exact ⟨m, n, by rw [show v = _ from r, show v2 = _ from r2], z _ H (Same.refl H) rfl⟩) (hm := hm) (hg := hg)
theorem ed_min2 {m n : Int} (ha : ED S a ρ (.int m)) (hb : ED S b ρ (.int n)) (hm : S.mg "min" = none) (hg : S.sc.names.lookup ("min" : Str) = some .globalImplicit := by rfl) (hs : ∀ env : Env, starEach [a, b] env = (false, eval a env) :: starEach [b] env := by intro _; rfl) (hs2 : ∀ env : Env, starEach [b] env = (false, eval b env) :: starEach [] env := by intro _; rfl) (hpl : ∀ env : Env, (backTo pos (starEach [b] env)).any (·.1) = false := by intro _; rfl) : ED S (.Call (.Name "min" p) [a, b] [] pos) ρ (.int (if n < m then n else m)) :=
  ed_bi (fun X hX => call_min2 hX.calm) (ha := ea_cons ha (ea_cons hb ea_nil hs2) hs) (he := hs) (hpl := hpl) (hr := fun P H vs pk r0 Q z => by
    obtain ⟨v, v2, rfl, r, r2⟩ := r0.at2
    exact ⟨m, n, by rw [show v = _ from r, show v2 = _ from r2], z _ H (Same.refl H) rfl⟩) (hm := hm) (hg := hg)
theorem ed_intI {n : Int} (ha : ED S a ρ (.int n)) (hm : S.mg "int" = none) (hg : S.sc.names.lookup ("int" : Str) = some .globalImplicit := by rfl) (hs : ∀ env : Env, starEach [a] env = (false, eval a env) :: starEach [] env := by intro _; rfl) : ED S (.Call (.Name "int" p) [a] [] pos) ρ (.int n) :=
  ed_ct (fun X hX => call_int1) (ha := ea_cons ha ea_nil hs) (he := hs) (hr := fun P H vs pk r0 Q z => by
    obtain ⟨v, rfl, r⟩ := r0.at1
    exact .inl ⟨n, by rw [show v = _ from r], z _ H (Same.refl H) rfl⟩) (hm := hm) (hg := hg)
theorem ed_intB {n : Bool} (ha : ED S a ρ (.bl n)) (hm : S.mg "int" = none) (hg : S.sc.names.lookup ("int" : Str) = some .globalImplicit := by rfl) (hs : ∀ env : Env, starEach [a] env = (false, eval a env) :: starEach [] env := by intro _; rfl) : ED S (.Call (.Name "int" p) [a] [] pos) ρ (.int (if n then 1 else 0)) :=
  ed_ct (fun X hX => call_int1) (ha := ea_cons ha ea_nil hs) (he := hs) (hr := fun P H vs pk r0 Q z => by
    obtain ⟨v, rfl, r⟩ := r0.at1
    exact .inr ⟨n, by rw [show v = _ from r], z _ H (Same.refl H) rfl⟩) (hm := hm) (hg := hg)
theorem rep_new_lst {P : Addr → Bool} {H : Hp} {l : Addr} {xs : List Dt} {vs : List V} (pk : Pok P H) (n : H l = none) (r : RepL (hid P H) xs vs) : Rep (hid P (upd H l (.lst vs))) (.lst xs) (.ref l) := ⟨l, vs, rfl, hid_upd pk n, r.same (same_new n).hid⟩
theorem rep_new_tup {P : Addr → Bool} {H : Hp} {l : Addr} {xs : List Dt} {vs : List V} (pk : Pok P H) (n : H l = none) (r : RepL (hid P H) xs vs) : Rep (hid P (upd H l (.tup vs))) (.tup xs) (.ref l) := ⟨l, vs, rfl, hid_upd pk n, r.same (same_new n).hid⟩
theorem ed_listL {xs : List Dt} (ha : ED S a ρ (.lst xs)) (hm : S.mg "list" = none) (hg : S.sc.names.lookup ("list" : Str) = some .globalImplicit := by rfl) (hs : ∀ env : Env, starEach [a] env = (false, eval a env) :: starEach [] env := by intro _; rfl) : ED S (.Call (.Name "list" p) [a] [] pos) ρ (.lst xs) :=
  ed_ct (cl_of (r := rListQ) fun X _ => call_list_of) (ha := ea_cons ha ea_nil hs) (he := hs) (hr := fun P H vs pk r0 Q z => by
    obtain ⟨v, rfl, r⟩ := r0.at1
    obtain ⟨l, ws, rfl, g, r⟩ := rep_lst r
    exact ⟨l, ws, rfl, .inl (.inl (.inl g)), fun l2 n => z _ _ (same_new n) (rep_new_lst pk n r)⟩) (hm := hm) (hg := hg)
theorem ed_listT {xs : List Dt} (ha : ED S a ρ (.tup xs)) (hm : S.mg "list" = none) (hg : S.sc.names.lookup ("list" : Str) = some .globalImplicit := by rfl) (hs : ∀ env : Env, starEach [a] env = (false, eval a env) :: starEach [] env := by intro _; rfl) : ED S (.Call (.Name "list" p) [a] [] pos) ρ (.lst xs) :=
  ed_ct (cl_of (r := rListQ) fun X _ => call_list_of) (ha := ea_cons ha ea_nil hs) (he := hs) (hr := fun P H vs pk r0 Q z => by
    obtain ⟨v, rfl, r⟩ := r0.at1
    obtain ⟨l, ws, rfl, g, r⟩ := rep_tup r
    exact ⟨l, ws, rfl, .inr (.inl (.inl g)), fun l2 n => z _ _ (same_new n) (rep_new_lst pk n r)⟩) (hm := hm) (hg := hg)
theorem ed_tupleL {xs : List Dt} (ha : ED S a ρ (.lst xs)) (hm : S.mg "tuple" = none) (hg : S.sc.names.lookup ("tuple" : Str) = some .globalImplicit := by rfl) (hs : ∀ env : Env, starEach [a] env = (false, eval a env) :: starEach [] env := by intro _; rfl) : ED S (.Call (.Name "tuple" p) [a] [] pos) ρ (.tup xs) :=
  ed_ct (cl_of (r := rTupQ) fun X _ => call_tuple_of) (ha := ea_cons ha ea_nil hs) (he := hs) (hr := fun P H vs pk r0 Q z => by
    obtain ⟨v, rfl, r⟩ := r0.at1
    obtain ⟨l, ws, rfl, g, r⟩ := rep_lst r
    exact ⟨l, ws, rfl, .inl ⟨.inl (.inl g), fun l2 n => z _ _ (same_new n) (rep_new_tup pk n r)⟩⟩) (hm := hm) (hg := hg)
theorem ed_tupleT {xs : List Dt} (ha : ED S a ρ (.tup xs)) (hm : S.mg "tuple" = none) (hg : S.sc.names.lookup ("tuple" : Str) = some .globalImplicit := by rfl) (hs : ∀ env : Env, starEach [a] env = (false, eval a env) :: starEach [] env := by intro _; rfl) : ED S (.Call (.Name "tuple" p) [a] [] pos) ρ (.tup xs) :=
  ed_ct (cl_of (r := rTupQ) fun X _ => call_tuple_of) (ha := ea_cons ha ea_nil hs) (he := hs) (hr := fun P H vs pk r0 Q z => by
    obtain ⟨v, rfl, r⟩ := r0.at1
    obtain ⟨l, ws, rfl, g, r2⟩ := id r
    exact ⟨l, ws, rfl, .inr ⟨.inl (.inl (hid_some g).2), z _ H (Same.refl H) r⟩⟩) (hm := hm) (hg := hg)
/-- sum of a list, of a tuple of ints -/
theorem ed_sumL {ns : List Int} (ha : ED S a ρ (.lst (ns.map .int))) (hm : S.mg "sum" = none) (hg : S.sc.names.lookup ("sum" : Str) = some .globalImplicit := by rfl) (hs : ∀ env : Env, starEach [a] env = (false, eval a env) :: starEach [] env := by intro _; rfl) : ED S (.Call (.Name "sum" p) [a] [] pos) ρ (.int ns.sum) :=
  ed_bi (cl_of (r := rSum) fun X hc => cr_sum hc) (ha := ea_cons ha ea_nil hs) (he := hs) (hr := fun P H vs pk r0 Q z => by
    obtain ⟨v, rfl, r⟩ := r0.at1
    obtain ⟨l, ws, rfl, g, r⟩ := rep_lst r
    rw [r.of_ints] at g
    exact ⟨l, ns, rfl, .inl (.inl g), z _ H (Same.refl H) rfl⟩) (hm := hm) (hg := hg)
def rSumT (K : PySem.W.Frag) : List V → Hp → VK → Prop := fun vs H Q => ∃ (a : Addr) (ns : List Int), vs = [V.ref a] ∧ SqT K H a (ns.map V.int) ∧ Q (.int ns.sum) H
theorem cr_sumT {X : Cx} (hc : X.calm = true) : CallR X (.builtin "sum") (rSumT X.K) := by
  (intro pins s σ H vs us Q I r h)
  (obtain ⟨a, ns, rfl, hs, q⟩ := h)
  obtain ⟨its, rv, ht, _⟩ := I.tuple hs
  rw [Vals.ref1 r]
  obtain ⟨xs, ex⟩ := rv.ints.allInts.items
  have hn : numsOf (intItems xs).toList = ns := by
    rw [← ex]
    exact rv.ints.numsOf
  rw [nums_intItems] at hn
  have ht' : s.heap.IsTuple a its.toArray := ht
  rw [ex] at ht'
  refine PySem.W.ktm_sumG (I.ok.hd hc) ht' fun h' tk t' hk => ?_
  (rw [preSum_eq, List.take_of_length_le (by simp), hn])
  exact ⟨.int _, H, I.kept hk, ⟨_, rfl⟩, q⟩
theorem ed_sumT {ns : List Int} (ha : ED S a ρ (.tup (ns.map .int))) (hm : S.mg "sum" = none) (hg : S.sc.names.lookup ("sum" : Str) = some .globalImplicit := by rfl) (hs : ∀ env : Env, starEach [a] env = (false, eval a env) :: starEach [] env := by intro _; rfl) : ED S (.Call (.Name "sum" p) [a] [] pos) ρ (.int ns.sum) :=
  ed_bi (cl_of (r := rSumT) fun X hc => cr_sumT hc) (ha := ea_cons ha ea_nil hs) (he := hs) (hr := fun P H vs pk r0 Q z => by
    obtain ⟨v, rfl, r⟩ := r0.at1
    obtain ⟨l, ws, rfl, g, r⟩ := rep_tup r
    rw [r.of_ints] at g
    exact ⟨l, ns, rfl, .inl (.inl g), z _ H (Same.refl H) rfl⟩) (hm := hm) (hg := hg)
/-- max of a list of ints, not empty: its greatest one -/
theorem ed_maxL {ns : List Int} {m : Int} (ha : ED S a ρ (.lst (ns.map .int))) (h0 : 0 < ns.length) (h1 : ∀ k, k ∈ ns → (∀ y, y ∈ ns → y ≤ k) → k = m) (hm : S.mg "max" = none) (hg : S.sc.names.lookup ("max" : Str) = some .globalImplicit := by rfl) (hs : ∀ env : Env, starEach [a] env = (false, eval a env) :: starEach [] env := by intro _; rfl) :
    ED S (.Call (.Name "max" p) [a] [] pos) ρ (.int m) :=
  ed_bi (cl_of (r := rMax) fun X hc => cr_max hc) (ha := ea_cons ha ea_nil hs) (he := hs) (hr := fun P H vs pk r0 Q z => by
    obtain ⟨v, rfl, r⟩ := r0.at1
    obtain ⟨l, ws, rfl, g, r⟩ := rep_lst r
    rw [r.of_ints] at g
    exact ⟨l, ns, rfl, .inl (.inl g), h0, fun k h2 h3 => z _ H (Same.refl H) (by rw [h1 k h2 h3] <;> rfl)⟩) (hm := hm) (hg := hg)
theorem ed_allL {bs : List Bool} (ha : ED S a ρ (.lst (bs.map .bl))) (hm : S.mg "all" = none) (hg : S.sc.names.lookup ("all" : Str) = some .globalImplicit := by rfl) (hs : ∀ env : Env, starEach [a] env = (false, eval a env) :: starEach [] env := by intro _; rfl) : ED S (.Call (.Name "all" p) [a] [] pos) ρ (.bl (bs.all id)) :=
  ed_bi (cl_of (r := rAll) fun X hc => cr_all hc) (ha := ea_cons ha ea_nil hs) (he := hs) (hr := fun P H vs pk r0 Q z => by
    obtain ⟨v, rfl, r⟩ := r0.at1
    obtain ⟨l, ws, rfl, g, r⟩ := rep_lst r
    rw [r.of_bls] at g
    exact ⟨l, bs, rfl, .inl (.inl g), z _ H (Same.refl H) rfl⟩) (hm := hm) (hg := hg)
theorem ed_anyL {bs : List Bool} (ha : ED S a ρ (.lst (bs.map .bl))) (hm : S.mg "any" = none) (hg : S.sc.names.lookup ("any" : Str) = some .globalImplicit := by rfl) (hs : ∀ env : Env, starEach [a] env = (false, eval a env) :: starEach [] env := by intro _; rfl) : ED S (.Call (.Name "any" p) [a] [] pos) ρ (.bl (bs.any id)) :=
  ed_bi (cl_of (r := rAny) fun X hc => cr_any hc) (ha := ea_cons ha ea_nil hs) (he := hs) (hr := fun P H vs pk r0 Q z => by
    obtain ⟨v, rfl, r⟩ := r0.at1
    obtain ⟨l, ws, rfl, g, r⟩ := rep_lst r
    rw [r.of_bls] at g
    exact ⟨l, bs, rfl, .inl (.inl g), z _ H (Same.refl H) rfl⟩) (hm := hm) (hg := hg)
/-- sorted of fewer than 64 ints -/
theorem ed_sortI {ns ms : List Int} (ha : ED S a ρ (.lst (ns.map .int))) (h0 : ns.length < 64) (h1 : ∀ l : List Int, l.Perm ns → l.Pairwise (· ≤ ·) → l = ms) (hm : S.mg "sorted" = none) (hg : S.sc.names.lookup ("sorted" : Str) = some .globalImplicit := by rfl) (hs : ∀ env : Env, starEach [a] env = (false, eval a env) :: starEach [] env := by intro _; rfl) :
    ED S (.Call (.Name "sorted" p) [a] [] pos) ρ (.lst (ms.map .int)) :=
  ed_bi (cl_of (r := rSorted) fun X _ => cr_sorted) (ha := ea_cons ha ea_nil hs) (he := hs) (hr := fun P H vs pk r0 Q z => by
    obtain ⟨v, rfl, r⟩ := r0.at1
    obtain ⟨l, ws, rfl, g, r⟩ := rep_lst r
    rw [r.of_ints] at g
    refine ⟨l, ns, rfl, .inl (.inl g), h0, fun l2 p2 h3 h4 h5 => ?_⟩
    rw [h1 l2 h3 h4]
    exact z _ _ (same_new h5) (rep_new_lst pk h5 (RepL.ints _))) (hm := hm) (hg := hg)

/-! ### attributes, subscripts -/
theorem RepF.look {H : Hp} : ∀ {fs : List (Str × Dt)} {ws : List (Str × V)}, RepF H fs ws → ∀ {f : Str} {d : Dt}, fs.lookup f = some d → ∃ v, ws.lookup f = some v ∧ Rep H d v
  | [], _, _, f, d, e => by cases e
  | (n, d0) :: r, _, h, f, d, e => by
    obtain ⟨v, t, e1, g, h⟩ := h
    subst e1
    rw [List.lookup_cons] at e
    rw [List.lookup_cons]
    cases hx : f == n with
    | true =>
      rw [hx] at e
      have e2 : d0 = d := Option.some.inj e
      exact ⟨v, rfl, e2 ▸ g⟩
    | false =>
      rw [hx] at e
      exact RepF.look h e
theorem ed_fld {C : Addr} {fs : List (Str × Dt)} (ha : ED S a ρ (.ins C fs)) (hl : fs.lookup f = some d) (hc : Cls S.K C) (hn : NoAttr S.K C f) (hb : ∀ env : Env, attributeBase a f env (eval a env) = eval a env := by intro _; rfl) : ED S (.Attribute a f pos) ρ d := fun X hX P σ H w er Q z => by
  refine wE.of (pe_fld pe_w (hb X.env)) ?_
  refine ha X hX P σ H w er _ fun v H1 s1 r1 => ?_
  obtain ⟨o, dx, ws, e1, g, r⟩ := r1
  obtain ⟨u, hu, ru⟩ := r.look hl
  exact ⟨o, C, dx, ws, u, e1, (hid_some g).2, by rw [hX.K]; exact hc, by rw [hX.K]; exact hn, hu, z u H1 s1 ru⟩
theorem RepL.atI {H : Hp} {ds : List Dt} {vs : List V} (r : RepL H ds vs) {i : Int} {d : Dt} (e : L2.atI ds i = some d) : ∃ v, L2.atI vs i = some v ∧ Rep H d v := by
  unfold L2.atI at e ⊢
  rw [r.length]
  cases h : ixN ds.length i with
  | none =>
    rw [h] at e
    cases e
  | some j =>
    rw [h] at e
    exact r.at e
theorem ed_ixL {xs : List Dt} {i : Int} (ha : ED S a ρ (.lst xs)) (hb : ED S b ρ (.int i)) (hd : atI xs i = some d) (hs : PlainIx b := by exact fun _ _ => rfl) : ED S (.Subscript a b pos) ρ d := fun X hX P σ H w er Q z => by
  refine wE.of (pe_ix (r := rIxL S.K) (by rw [← hX.K]; exact ix_list) pe_w pe_w hs) ?_
  refine ha X hX P σ H w er _ fun v H1 s1 r1 => ?_
  refine hb X hX P σ H1 (w.same s1) (er.same s1.hid) _ fun u H2 s2 r2 => ?_
  obtain ⟨l, ws, e1, g, r⟩ := rep_lst (r1.same s2.hid)
  obtain ⟨y, hy, ry⟩ := r.atI hd
  exact ⟨l, ws, i, y, e1, r2, .inl (.inl g), hy, z y H2 (s1.trans s2) ry⟩
theorem ed_ixT {xs : List Dt} {i : Int} (ha : ED S a ρ (.tup xs)) (hb : ED S b ρ (.int i)) (hd : atI xs i = some d) (hs : PlainIx b := by exact fun _ _ => rfl) : ED S (.Subscript a b pos) ρ d := fun X hX P σ H w er Q z => by
  refine wE.of (pe_ix (r := rIxT S.K) (by rw [← hX.K]; exact ix_tup) pe_w pe_w hs) ?_
  refine ha X hX P σ H w er _ fun v H1 s1 r1 => ?_
  refine hb X hX P σ H1 (w.same s1) (er.same s1.hid) _ fun u H2 s2 r2 => ?_
  obtain ⟨l, ws, e1, g, r⟩ := rep_tup (r1.same s2.hid)
  obtain ⟨y, hy, ry⟩ := r.atI hd
  exact ⟨l, ws, i, y, e1, r2, .inl (.inl g), hy, z y H2 (s1.trans s2) ry⟩
theorem ed_ixS {y : Str} {i : Int} {n : Nat} (ha : ED S a ρ (.str y)) (hb : ED S b ρ (.int i)) (hl : y.length ≤ 1000) (hd : atI y.cps.toList i = some n) (hs : PlainIx b := by exact fun _ _ => rfl) : ED S (.Subscript a b pos) ρ (.str ⟨#[n]⟩) := fun X hX P σ H w er Q z => by
  refine wE.of (pe_ix ix_str pe_w pe_w hs) ?_
  refine ha X hX P σ H w er _ fun v H1 s1 r1 => ?_
  refine hb X hX P σ H1 (w.same s1) (er.same s1.hid) _ fun u H2 s2 r2 => ?_
  exact ⟨y, i, n, r1, r2, Nat.le_of_lt (small1000 hl), hd, z _ H2 (s1.trans s2) rfl⟩
/-- an item of a list by what the pot gave -/
theorem ev_ixL {xs : List Dt} {R T : Dt → Prop} (ha : ED S a ρ (.lst xs)) (hb : EV S q b ρ T) (hd : ∀ z, T z → ∃ i d, z = .int i ∧ atI xs i = some d ∧ R d) (hs : PlainIx b := by exact fun _ _ => rfl) : EV S q (.Subscript a b pos) ρ R := fun X hX P σ H w er Q z => by
  refine wE.of (pe_ix (r := rIxL S.K) (by rw [← hX.K]; exact ix_list) pe_w pe_w hs) ?_
  refine ha X hX P σ H w.ok er _ fun v H1 s1 r1 => ?_
  have w1 : Wd P q H1 := w.go (.of s1)
  refine hb X hX P σ H1 w1 (er.same s1.hid) _ fun u t H2 g2 m2 r2 => ?_
  obtain ⟨i, d, rfl, e, rd⟩ := hd t m2
  obtain ⟨l, ws, e1, g, r⟩ := rep_lst (r1.same (w1.same g2))
  obtain ⟨y, hy, ry⟩ := r.atI e
  exact ⟨l, ws, i, y, e1, r2, .inl (.inl g), hy, z y d H2 ((Go.of s1).trans g2) rd ry⟩
end
end Gl

namespace Gl
open PySem PySem.Spec L2 PyProof.Rows

/-- a tuple of ints; a list of such -/
def tI (ns : List Int) : Dt := .tup (ns.map .int)
def lI (ls : List (List Int)) : Dt := .lst (ls.map tI)
def encT (ns : List Int) : PyData := .tuple (ns.map .int)

/-! ### data of the library's kind -/
theorem dp_ints {K : PySem.W.Frag} {H : Hp} : ∀ ns : List Int, DpAll K H (ns.map .int) (ns.map .int)
  | [] => .nil
  | n :: ns => .cons (.int n) (dp_ints ns)
theorem dp_tI {K : PySem.W.Frag} {P : Addr → Bool} {H : Hp} {ns : List Int} {v : V} (r : Rep (hid P H) (tI ns) v) : Dp K H v (encT ns) := by
  obtain ⟨a, vs, e, g, r⟩ := r
  rw [r.of_ints] at g
  rw [e]
  exact .tup (.inl (.inl (hid_some g).2)) (dp_ints ns)
theorem dp_tIs {K : PySem.W.Frag} {P : Addr → Bool} {H : Hp} : ∀ {ls : List (List Int)} {vs : List V}, RepL (hid P H) (ls.map tI) vs → DpAll K H vs (ls.map encT)
  | [], vs, r => by
    rw [show vs = [] from r]
    exact .nil
  | l :: ls, vs, r => by
    obtain ⟨v, t, e, r1, r2⟩ := r
    rw [e]
    exact .cons (dp_tI r1) (dp_tIs r2)
theorem dp_lI {K : PySem.W.Frag} {P : Addr → Bool} {H : Hp} {ls : List (List Int)} {v : V} (r : Rep (hid P H) (lI ls) v) : Dp K H v (.list (ls.map encT)) := by
  obtain ⟨a, vs, e, g, r⟩ := r
  rw [e]
  exact .lst (.inl (.inl (hid_some g).2)) (dp_tIs r)
theorem eqv_ints : ∀ ns ms : List Int, PyData.eqvAll (ns.map .int) (ms.map .int) = decide (ns = ms)
  | [], [] => (by simp [PyData.eqvAll])
  | [], m :: ms => by simp [PyData.eqvAll]
  | n :: ns, [] => by simp [PyData.eqvAll]
  | n :: ns, m :: ms => by
    have ih := eqv_ints ns ms
    show PyData.eqvAll (.int n :: ns.map .int) (.int m :: ms.map .int) = _
    simp only [PyData.eqvAll, PyData.eqv, ih]
    by_cases h : n = m <;> simp [h]
theorem eqv_encT (ns ms : List Int) : PyData.eqv (encT ns) (encT ms) = decide (ns = ms) := by
  unfold encT
  rw [PyData.eqv]
  exact eqv_ints ns ms
theorem eqv_encTs : ∀ ls ms : List (List Int), PyData.eqvAll (ls.map encT) (ms.map encT) = decide (ls = ms)
  | [], [] => (by simp [PyData.eqvAll])
  | [], m :: ms => by simp [PyData.eqvAll]
  | n :: ns, [] => by simp [PyData.eqvAll]
  | n :: ns, m :: ms => by
    have ih := eqv_encTs ns ms
    show PyData.eqvAll (encT n :: ns.map encT) (encT m :: ms.map encT) = _
    simp only [PyData.eqvAll, eqv_encT, ih]
    by_cases h : n = m <;> simp [h]
theorem depth_encT (ns : List Int) : (encT ns).depth = 1 := by
  unfold encT
  rw [PyData.depth, PySem.W.depth_ints]
theorem canLay_ints : ∀ ns : List Int, PyData.canLayAll0 (ns.map .int) = true
  | [] => (by simp [PyData.canLayAll0])
  | n :: ns => by
    show PyData.canLayAll0 (.int n :: ns.map .int) = true
    rw [PyData.canLayAll0, canLay_ints ns]
    simp [PyData.canLay0]
theorem canLay_encT (ns : List Int) : (encT ns).canLay0 = true := by
  unfold encT
  rw [PyData.canLay0]
  exact canLay_ints ns
theorem canLay_encTs : ∀ ls : List (List Int), PyData.canLayAll0 (ls.map encT) = true
  | [] => (by simp [PyData.canLayAll0])
  | l :: ls => by
    show PyData.canLayAll0 (encT l :: ls.map encT) = true
    rw [PyData.canLayAll0, canLay_encTs ls, canLay_encT]
    rfl
theorem depth_encTs : ∀ ls : List (List Int), PyData.depthAll (ls.map encT) ≤ 1
  | [] => (by simp [PyData.depthAll])
  | l :: ls => by
    show PyData.depthAll (encT l :: ls.map encT) ≤ 1
    rw [PyData.depthAll, depth_encT]
    have := depth_encTs ls
    omega
theorem shaped_encT (ns : List Int) : SeqAt.shaped (encT ns) = true := by
  unfold SeqAt.shaped
  rw [canLay_encT, depth_encT]
  decide
theorem shaped_encTs (ls : List (List Int)) : SeqAt.shaped (.list (ls.map encT)) = true := by
  unfold SeqAt.shaped
  have h1 : PyData.canLay0 (.list (ls.map encT)) = true := by
    rw [PyData.canLay0]
    exact canLay_encTs ls
  have h2 : PyData.depth (.list (ls.map encT)) ≤ 64 := by
    rw [PyData.depth]
    have := depth_encTs ls
    omega
  rw [h1, decide_eq_true h2]
  rfl
theorem Sx.Has.hu {S : Sx} {X : Cx} (h : S.Has X) : X.A.units + 64 < cLine := h.room.units

section
variable {S : Sx} {q : Option Addr} {ρ : En} {d da db : Dt} {ds : List Dt} {e a b c : Expr} {es : List Expr} {pos p : Pos} {x : Str} {k : Nat}
/-! ### isinstance -/
def KindD (S : Sx) (d : Dt) (t : Value) : Prop := ∀ (P : Addr → Bool) (H : Hp) (v : V), Rep (hid P H) d v → TyX S.K H v t
theorem kd_int {n : Int} : KindD S (.int n) (.type "int") := fun P H v r => by
  rw [show v = _ from r]
  exact .base (.int n)
theorem kd_bl {n : Bool} : KindD S (.bl n) (.type "bool") := fun P H v r => by
  rw [show v = _ from r]
  exact .base (.bl n)
theorem kd_str {n : Str} : KindD S (.str n) (.type "str") := fun P H v r => by
  rw [show v = _ from r]
  exact .base (.str n)
theorem kd_tup {xs : List Dt} : KindD S (.tup xs) (.type "tuple") := fun P H v r => by
  obtain ⟨a, vs, e, g, _⟩ := r
  rw [e]
  exact .base (.tup (hid_some g).2)
theorem kd_lst {xs : List Dt} : KindD S (.lst xs) (.type "list") := fun P H v r => by
  obtain ⟨a, vs, e, g, _⟩ := r
  rw [e]
  exact .base (.lst (hid_some g).2)
theorem kd_ins {C : Addr} {fs : List (Str × Dt)} (cl : Cls S.K C) (ha : PySem.W.findIn S.K (.ref C) "__class__" = some (some (.builtin "object.__class__"))) (hn : PySem.W.specialIn S.K (.builtin "object.__class__") "__get__" = some (some (.builtin "getset_descriptor.__get__")))
    (htk : PySem.W.takesIn S.K (.builtin "object.__class__") = some true) (hm : PySem.W.mroIn S.K C (.type "object") = some true) : KindD S (.ins C fs) (.ref C) := fun P H v r => by
  obtain ⟨a, dx, ws, e, g, _⟩ := r
  rw [e]
  exact .base (.ins (hid_some g).2 cl ha hn htk hm)
theorem ed_isi {t : Value} {n : String} {r : Bool} (ha : ED S a ρ da) (hb : ED S b ρ (.ty n)) (kd : KindD S da t) (hk : PySem.W.kitOne S.K t (.type n) = some r) (hm : S.mg "isinstance" = none) (hg : S.sc.names.lookup ("isinstance" : Str) = some .globalImplicit := by rfl)
    (hs : ∀ env : Env, starEach [a, b] env = (false, eval a env) :: starEach [b] env := by intro _; rfl) (hs2 : ∀ env : Env, starEach [b] env = (false, eval b env) :: starEach [] env := by intro _; rfl) (hpl : ∀ env : Env, (backTo pos (starEach [b] env)).any (·.1) = false := by intro _; rfl) :
    ED S (.Call (.Name "isinstance" p) [a, b] [] pos) ρ (.bl r) :=
  ed_bi (cl_of (r := rIsi) fun X _ => call_isi) (ha := ea_cons ha (ea_cons hb ea_nil hs2) hs) (he := hs) (hpl := hpl) (hr := fun P H vs pk r0 Q z => by
    obtain ⟨v, v2, rfl, r1, r2⟩ := r0.at2
    exact ⟨v, v2, t, .type n, r, rfl, by rw [show v2 = _ from r2]; exact .ty n, kd P H v r1, hk, z _ H (Same.refl H) rfl⟩) (hm := hm) (hg := hg)
theorem ed_isC {t : Value} {C : Addr} {r : Bool} (ha : ED S a ρ da) (hb : ED S b ρ (.adr C)) (kd : KindD S da t) (hk : PySem.W.kitOne S.K t (.ref C) = some r) (hm : S.mg "isinstance" = none) (hg : S.sc.names.lookup ("isinstance" : Str) = some .globalImplicit := by rfl)
    (hs : ∀ env : Env, starEach [a, b] env = (false, eval a env) :: starEach [b] env := by intro _; rfl) (hs2 : ∀ env : Env, starEach [b] env = (false, eval b env) :: starEach [] env := by intro _; rfl) (hpl : ∀ env : Env, (backTo pos (starEach [b] env)).any (·.1) = false := by intro _; rfl) :
    ED S (.Call (.Name "isinstance" p) [a, b] [] pos) ρ (.bl r) :=
  ed_bi (cl_of (r := rIsi) fun X _ => call_isi) (ha := ea_cons ha (ea_cons hb ea_nil hs2) hs) (he := hs) (hpl := hpl) (hr := fun P H vs pk r0 Q z => by
    obtain ⟨v, v2, rfl, r1, r2⟩ := r0.at2
    exact ⟨v, v2, t, .ref C, r, rfl, by rw [show v2 = _ from r2]; exact .own C, kd P H v r1, hk, z _ H (Same.refl H) rfl⟩) (hm := hm) (hg := hg)
theorem kit_self {K : PySem.W.Frag} {C : Addr} : PySem.W.kitOne K (.ref C) (.ref C) = some true := by
  unfold PySem.W.kitOne
  rw [if_pos (by simp)]
/-- isinstance(x, (T, U)) -/
theorem ed_isT2 {t : Value} {n m : String} {r : Bool} (ha : ED S a ρ da) (hb : ED S b ρ (.tup [.ty n, .ty m])) (kd : KindD S da t) (hk : PySem.W.kitAny S.K t [.type n, .type m] = some r) (hm : S.mg "isinstance" = none) (hg : S.sc.names.lookup ("isinstance" : Str) = some .globalImplicit := by rfl)
    (hs : ∀ env : Env, starEach [a, b] env = (false, eval a env) :: starEach [b] env := by intro _; rfl) (hs2 : ∀ env : Env, starEach [b] env = (false, eval b env) :: starEach [] env := by intro _; rfl) (hpl : ∀ env : Env, (backTo pos (starEach [b] env)).any (·.1) = false := by intro _; rfl) :
    ED S (.Call (.Name "isinstance" p) [a, b] [] pos) ρ (.bl r) :=
  ed_bi (cl_of (r := rIsiT) fun X _ => call_isiT) (ha := ea_cons ha (ea_cons hb ea_nil hs2) hs) (he := hs) (hpl := hpl) (hr := fun P H vs pk r0 Q z => by
    obtain ⟨v, v2, rfl, r1, r2⟩ := r0.at2
    obtain ⟨tp, cs, rfl, g, r2⟩ := rep_tup r2
    obtain ⟨c1, c2, rfl, e1, e2⟩ := r2.at2
    have e1 : c1 = .ty n := e1
    have e2 : c2 = .ty m := e2
    subst e1 e2
    exact ⟨v, tp, _, t, [.type n, .type m], r, rfl, g, .cons (.ty n) (.cons (.ty m) .nil), kd P H v r1, hk, z _ H (Same.refl H) rfl⟩) (hm := hm) (hg := hg)

/-! ### membership -/
theorem flat_ints (ns : List Int) : (ns.map V.int).all flatV = true := by
  rw [List.all_eq_true]
  intro y hy
  obtain ⟨n, _, rfl⟩ := List.mem_map.mp hy
  rfl
theorem inV_ints (n : Int) : ∀ ns : List Int, inV (.int n) (ns.map V.int) = decide (n ∈ ns)
  | [] => by simp [inV]
  | m :: ms => by
    have ih := inV_ints n ms
    unfold inV at ih ⊢
    rw [List.map_cons, List.any_cons, ih]
    have e : eqV (.int m) (.int n) = decide (m = n) := Bool.beq_eq_decide_eq m n
    rw [e]
    by_cases h : m = n
    · simp [h]
    · by_cases h2 : n ∈ ms
      · simp [h2]
      · simp [h, h2, Ne.symm h]
theorem seq_ints {K : PySem.W.Frag} {P : Addr → Bool} {H : Hp} {ns : List Int} {v : V} (r : Rep (hid P H) (tI ns) v ∨ Rep (hid P H) (.lst (ns.map .int)) v) : ∃ p, v = .ref p ∧ (SqL K H p (ns.map V.int) ∨ SqT K H p (ns.map V.int)) := by
  rcases r with r | r
  · obtain ⟨p, vs, e, g, r⟩ := rep_tup r
    rw [r.of_ints] at g
    exact ⟨p, e, .inr (.inl (.inl g))⟩
  · obtain ⟨p, vs, e, g, r⟩ := rep_lst r
    rw [r.of_ints] at g
    exact ⟨p, e, .inl (.inl (.inl g))⟩
theorem ec_inI {n : Int} {ns : List Int} (ha : ED S a ρ (.int n)) (hb : ED S b ρ db) (h : db = tI ns ∨ db = .lst (ns.map .int)) : EC S .In a b ρ (.bl (decide (n ∈ ns))) :=
  ec_op (r := rIn S.K false) (fun X hX => by rw [← hX.K]; exact op_in_seq) ha hb fun P H x y pk rx ry Q z => by
    obtain ⟨p, e, g⟩ := seq_ints (K := S.K) (h.imp (fun h => by rw [← h]; exact ry) fun h => by rw [← h]; exact ry)
    refine ⟨p, _, e, g, by rw [show x = _ from rx] <;> rfl, flat_ints ns, ?_⟩
    rw [show x = _ from rx, inV_ints]
    exact z _ H (Same.refl H) rfl
theorem ec_niI {n : Int} {ns : List Int} (ha : ED S a ρ (.int n)) (hb : ED S b ρ db) (h : db = tI ns ∨ db = .lst (ns.map .int)) : EC S .NotIn a b ρ (.bl (!decide (n ∈ ns))) :=
  ec_op (r := rIn S.K true) (fun X hX => by rw [← hX.K]; exact op_notIn_seq) ha hb fun P H x y pk rx ry Q z => by
    obtain ⟨p, e, g⟩ := seq_ints (K := S.K) (h.imp (fun h => by rw [← h]; exact ry) fun h => by rw [← h]; exact ry)
    refine ⟨p, _, e, g, by rw [show x = _ from rx] <;> rfl, flat_ints ns, ?_⟩
    rw [show x = _ from rx, inV_ints]
    exact z _ H (Same.refl H) rfl
theorem any_encT (ns : List Int) : ∀ ls : List (List Int), ((ls.map encT).any fun z => PyData.eqv z (encT ns)) = decide (ns ∈ ls)
  | [] => by simp
  | l :: ls => by
    rw [List.map_cons, List.any_cons, any_encT ns ls, eqv_encT]
    by_cases h : l = ns
    · simp [h]
    · by_cases h2 : ns ∈ ls
      · simp [h2]
      · simp [h, h2, Ne.symm h]
theorem Sx.Has.hu65 {X : Cx} (h : S.Has X) (h1 : 1 ≤ S.k) : X.A.units + 65 < cLine := by
  have h2 := h.room.un
  have h3 : cLine = 10000 ∨ True := .inr trivial
  omega
theorem ec_inT {ns : List Int} {ls : List (List Int)} (ha : ED S a ρ (tI ns)) (hb : ED S b ρ (lI ls)) (h1 : 1 ≤ S.k := by exact Nat.le_of_ble_eq_true rfl) : EC S .In a b ρ (.bl (decide (ns ∈ ls))) :=
  ec_op (r := rInD S.K) (fun X hX => by rw [← hX.K]; exact op_inD (hX.hu65 h1)) ha hb fun P H x y pk rx ry Q z => by
    refine ⟨encT ns, ls.map encT, dp_tI rx, dp_lI ry, shaped_encT ns, shaped_encTs ls, ?_⟩
    rw [any_encT]
    exact z _ H (Same.refl H) rfl
theorem ec_niT {ns : List Int} {ls : List (List Int)} (ha : ED S a ρ (tI ns)) (hb : ED S b ρ (lI ls)) (h1 : 1 ≤ S.k := by exact Nat.le_of_ble_eq_true rfl) : EC S .NotIn a b ρ (.bl (!decide (ns ∈ ls))) :=
  ec_op (r := rNotInD S.K) (fun X hX => by rw [← hX.K]; exact op_notInD (hX.hu65 h1)) ha hb fun P H x y pk rx ry Q z => by
    refine ⟨encT ns, ls.map encT, dp_tI rx, dp_lI ry, shaped_encT ns, shaped_encTs ls, ?_⟩
    rw [any_encT]
    exact z _ H (Same.refl H) rfl
/-! ### equality of lists of tuples -/
theorem ec_eqL {ls ms : List (List Int)} (ha : ED S a ρ (lI ls)) (hb : ED S b ρ (lI ms)) : EC S .Eq a b ρ (.bl (decide (ls = ms))) :=
  ec_op (r := rEqD S.K) (fun X hX => by rw [← hX.K]; exact op_eqD hX.hu) ha hb fun P H x y pk rx ry Q z => by
    refine ⟨_, _, dp_lI rx, dp_lI ry, shaped_encTs ls, shaped_encTs ms, ?_⟩
    rw [PyData.eqv, eqv_encTs]
    exact z _ H (Same.refl H) rfl
theorem ec_neL {ls ms : List (List Int)} (ha : ED S a ρ (lI ls)) (hb : ED S b ρ (lI ms)) : EC S .NotEq a b ρ (.bl (!decide (ls = ms))) :=
  ec_op (r := rNeD S.K) (fun X hX => by rw [← hX.K]; exact op_neD hX.hu) ha hb fun P H x y pk rx ry Q z => by
    refine ⟨_, _, dp_lI rx, dp_lI ry, shaped_encTs ls, shaped_encTs ms, ?_⟩
    rw [PyData.eqv, eqv_encTs]
    exact z _ H (Same.refl H) rfl
/-- a list of ints against [] -/
theorem dp_il {K : PySem.W.Frag} {P : Addr → Bool} {H : Hp} {ns : List Int} {v : V} (r : Rep (hid P H) (.lst (ns.map .int)) v) : Dp K H v (.list (ns.map .int)) := by
  obtain ⟨a, vs, e, g, r⟩ := r
  rw [r.of_ints] at g
  rw [e]
  exact .lst (.inl (.inl (hid_some g).2)) (dp_ints ns)
theorem shaped_ints (ns : List Int) : SeqAt.shaped (.list (ns.map .int)) = true := by
  unfold SeqAt.shaped
  have h1 : PyData.canLay0 (.list (ns.map .int)) = true := by
    rw [PyData.canLay0]
    exact canLay_ints ns
  have h2 : PyData.depth (.list (ns.map .int)) ≤ 64 := by
    rw [PyData.depth, PySem.W.depth_ints]
    decide
  rw [h1, decide_eq_true h2]
  rfl
theorem ec_eqI' {ns ms : List Int} (ha : ED S a ρ (.lst (ns.map .int))) (hb : ED S b ρ (.lst (ms.map .int))) : EC S .Eq a b ρ (.bl (decide (ns = ms))) :=
  ec_op (r := rEqD S.K) (fun X hX => by rw [← hX.K]; exact op_eqD hX.hu) ha hb fun P H x y pk rx ry Q z => by
    refine ⟨_, _, dp_il rx, dp_il ry, shaped_ints ns, shaped_ints ms, ?_⟩
    rw [PyData.eqv, eqv_ints]
    exact z _ H (Same.refl H) rfl
theorem ec_neI' {ns ms : List Int} (ha : ED S a ρ (.lst (ns.map .int))) (hb : ED S b ρ (.lst (ms.map .int))) : EC S .NotEq a b ρ (.bl (!decide (ns = ms))) :=
  ec_op (r := rNeD S.K) (fun X hX => by rw [← hX.K]; exact op_neD hX.hu) ha hb fun P H x y pk rx ry Q z => by
    refine ⟨_, _, dp_il rx, dp_il ry, shaped_ints ns, shaped_ints ms, ?_⟩
    rw [PyData.eqv, eqv_ints]
    exact z _ H (Same.refl H) rfl

/-! ### one behind another, slices -/
theorem ed_catL {xs ys : List Dt} (ha : ED S a ρ (.lst xs)) (hb : ED S b ρ (.lst ys)) (hl : xs.length + ys.length ≤ 1000) : ED S (.BinOp a .Add b pos) ρ (.lst (xs ++ ys)) :=
  ed_op (fun X hX => op_cat) ha hb fun P H x y pk rx ry Q z => by
    obtain ⟨l, vs, e, g, r⟩ := rep_lst rx
    obtain ⟨l2, vs2, e2, g2, r2⟩ := rep_lst ry
    refine ⟨l, l2, vs, vs2, e, e2, g, g2, by rw [r.length, r2.length]; exact Nat.le_of_lt (small1000 hl), fun p n => z _ _ (same_new n) (rep_new_lst pk n (r.append r2))⟩
theorem ed_catT {xs ys : List Dt} (ha : ED S a ρ (.tup xs)) (hb : ED S b ρ (.tup ys)) (hl : xs.length + ys.length ≤ 1000) : ED S (.BinOp a .Add b pos) ρ (.tup (xs ++ ys)) :=
  ed_op (r := rCatA S.K) (fun X hX => by rw [← hX.K]; exact op_catA) ha hb fun P H x y pk rx ry Q z => by
    obtain ⟨l, vs, e, g, r⟩ := rep_tup rx
    obtain ⟨l2, vs2, e2, g2, r2⟩ := rep_tup ry
    refine ⟨l, l2, vs, vs2, e, e2, .inl (.inl g), .inl (.inl g2), by rw [r.length, r2.length]; exact Nat.le_of_lt (small1000 hl), fun h => ?_, fun h1 h => ?_, fun h1 h2 p n => z _ _ (same_new n) (rep_new_tup pk n (r.append r2))⟩
    · have h0 := r.length
      rw [h] at h0
      have e0 : xs = [] := List.eq_nil_of_length_eq_zero h0.symm
      refine z _ H (Same.refl H) ?_
      rw [e0, ← e2]
      exact ry
    · have h0 := r2.length
      rw [h] at h0
      have e0 : ys = [] := List.eq_nil_of_length_eq_zero h0.symm
      refine z _ H (Same.refl H) ?_
      rw [e0, List.append_nil, ← e]
      exact rx
/-- xs[:n], xs[n:] of a list -/
theorem ed_toL {xs : List Dt} {n : Nat} {p2 : Pos} (ha : ED S a ρ (.lst xs)) (hb : ED S b ρ (.int (n : Int))) : ED S (.Subscript a (.Slice none (some b) none p2) pos) ρ (.lst (xs.take n)) := fun X hX P σ H w er Q z => by
  refine wE.of (pe_slice (r := rSlL S.K) (by rw [← hX.K]; exact sl_list) pe_w po_none (po_some pe_w)) ?_
  refine ha X hX P σ H w er _ fun v H1 s1 r1 => ?_
  refine hb X hX P σ H1 (w.same s1) (er.same s1.hid) _ fun u H2 s2 r2 => ⟨(n : Int), r2, ?_⟩
  obtain ⟨l, ws, e1, g, r⟩ := rep_lst (r1.same s2.hid)
  refine ⟨l, ws, e1, .inl (.inl g), fun p2 n2 => z _ _ ((s1.trans s2).trans (same_new n2)) (rep_new_lst ((w.same s1).same s2) n2 ?_)⟩
  have e : cutV ws none (some (n : Int)) = ws.take n := by
    unfold cutV
    rw [HT.sIx_none, show HT.sIx ws.length ws.length (some (n : Int)) = min n ws.length from HT.sIx_nat ws.length ws.length n, List.drop_zero, Nat.sub_zero]
    by_cases h : n ≤ ws.length
    · rw [Nat.min_eq_left h]
    · rw [Nat.min_eq_right (by omega), List.take_length, List.take_of_length_le (by omega)]
  rw [e]
  exact r.take n
theorem ed_fromL {xs : List Dt} {n : Nat} {p2 : Pos} (ha : ED S a ρ (.lst xs)) (hb : ED S b ρ (.int (n : Int))) : ED S (.Subscript a (.Slice (some b) none none p2) pos) ρ (.lst (xs.drop n)) := fun X hX P σ H w er Q z => by
  refine wE.of (pe_slice (r := rSlL S.K) (by rw [← hX.K]; exact sl_list) pe_w (po_some pe_w) po_none) ?_
  refine ha X hX P σ H w er _ fun v H1 s1 r1 => ?_
  refine hb X hX P σ H1 (w.same s1) (er.same s1.hid) _ fun u H2 s2 r2 => ⟨(n : Int), r2, ?_⟩
  obtain ⟨l, ws, e1, g, r⟩ := rep_lst (r1.same s2.hid)
  refine ⟨l, ws, e1, .inl (.inl g), fun p2 n2 => z _ _ ((s1.trans s2).trans (same_new n2)) (rep_new_lst ((w.same s1).same s2) n2 ?_)⟩
  have e : cutV ws (some (n : Int)) none = ws.drop n := by
    unfold cutV
    rw [HT.sIx_none, show HT.sIx ws.length 0 (some (n : Int)) = min n ws.length from HT.sIx_nat ws.length 0 n]
    by_cases h : n ≤ ws.length
    · rw [Nat.min_eq_left h, List.take_of_length_le (by rw [List.length_drop]; omega)]
    · rw [Nat.min_eq_right (by omega), List.drop_length, List.drop_of_length_le (by omega)]
      simp
  rw [e]
  exact r.drop n
theorem ed_toS {y : Str} {n : Nat} {p2 : Pos} (ha : ED S a ρ (.str y)) (hl : y.length ≤ 1000) (hb : ED S b ρ (.int (n : Int))) : ED S (.Subscript a (.Slice none (some b) none p2) pos) ρ (.str (cutS y none (some (n : Int)))) := fun X hX P σ H w er Q z => by
  refine wE.of (pe_slice sl_str pe_w po_none (po_some pe_w)) ?_
  refine ha X hX P σ H w er _ fun v H1 s1 r1 => ?_
  refine hb X hX P σ H1 (w.same s1) (er.same s1.hid) _ fun u H2 s2 r2 => ⟨(n : Int), r2, ?_⟩
  exact ⟨y, r1, Nat.le_of_lt (small1000 hl), z _ H2 (s1.trans s2) rfl⟩
/-- list(range(n)) -/
theorem ed_listR {n : Nat} {p2 pos2 : Pos} (ha : ED S a ρ (.int (n : Int))) (hn : n < 100000) (hm : S.mg "list" = none) (hm2 : S.mg "range" = none) (hg : S.sc.names.lookup ("list" : Str) = some .globalImplicit := by rfl) (hg2 : S.sc.names.lookup ("range" : Str) = some .globalImplicit := by rfl)
    (hs : ∀ env : Env, starEach [a] env = (false, eval a env) :: starEach [] env := by intro _; rfl) : ED S (.Call (.Name "list" p) [.Call (.Name "range" p2) [a] [] pos2] [] pos) ρ (.lst (rangeD n)) := fun X hX P σ H w er Q z => by
  refine wE.of (pe_listRg hX.calm (hX.gl hg) (by rw [hX.mg]; exact hm) (prg_1 (hX.gl hg2) (by rw [hX.mg]; exact hm2) pe_w (hs X.env))) ?_
  refine ha X hX P σ H w er _ fun v H1 s1 r1 => ⟨(n : Int), r1, RgOk.of_le (by omega) (by omega) (by omega) (by omega), fun l nl => ?_⟩
  have e : rgV 0 (n : Int) = (List.range n).map fun i => V.int (i : Nat) := by
    unfold rgV
    simp
  rw [e]
  refine z _ _ (s1.trans (same_new nl)) (rep_new_lst (w.same s1) nl ?_)
  have h : ∀ l : List Nat, RepL (hid P H1) (l.map fun (i : Nat) => Dt.int (i : Int)) (l.map fun i => V.int (i : Nat)) := fun l => by
    induction l with
    | nil => exact rfl
    | cons m l ih => exact .cons rfl ih
  exact h _
end
end Gl

namespace Gl
open PySem PySem.Spec L2 PyProof.Rows

/-! ### the order -/
def pairLe (x y : Int × List Int) : Bool := decide (x.1 < y.1 ∨ (x.1 = y.1 ∧ x.2 ≤ y.2))
def rowLe (x y : List Int) : Bool := decide (x ≤ y)
def encP (x : Int × List Int) : PyData := .tuple [.int x.1, encT x.2]
theorem alike_encT (ns ms : List Int) : PySem.W.alike (encT ns) (encT ms) = true := by
  unfold encT
  rw [PySem.W.alike]
  exact PySem.W.alike_ints ns ms
theorem alike_encP (x y : Int × List Int) : PySem.W.alike (encP x) (encP y) = true := by
  unfold encP
  simp [PySem.W.alike, PySem.W.alikeAll, alike_encT]
theorem lt_encT (ns ms : List Int) : PySem.W.dataLt (encT ns) (encT ms) = decide (ns < ms) := by
  unfold encT
  rw [PySem.W.dataLt_tuple]
  exact PySem.W.dataLt_ints ns ms
theorem not_lt_rows (a b : List Int) : (!decide (a < b)) = decide (b ≤ a) := by
  by_cases h : a < b
  · rw [decide_eq_true h, decide_eq_false]
    · rfl
    · intro h2
      exact h2 h
  · rw [decide_eq_false h, decide_eq_true (show b ≤ a from h)]
    rfl
theorem le_encT : PySem.W.dataLe false encT = rowLe := by
  funext a b
  show (!PySem.W.dataLt (encT b) (encT a)) = rowLe a b
  rw [lt_encT, not_lt_rows]
  rfl
theorem le_encP : PySem.W.dataLe false encP = pairLe := by
  funext a b
  show (!PySem.W.dataLt (encP b) (encP a)) = pairLe a b
  unfold encP
  rw [PySem.W.dataLt_pair (by simp [PySem.W.alike]) (alike_encT _ _), PySem.W.dataLt_int, lt_encT, eqv_encT]
  have e1 : PyData.eqv (.int b.1) (.int a.1) = decide (b.1 = a.1) := by
    rw [PyData.eqv]
    exact Bool.beq_eq_decide_eq _ _
  rw [e1]
  unfold pairLe
  by_cases h1 : b.1 = a.1
  · rw [decide_eq_true h1, if_pos rfl]
    by_cases h2 : b.2 = a.2
    · rw [decide_eq_true h2, if_pos rfl]
      have h3 : a.2 ≤ b.2 := by
        rw [h2]
        exact List.le_refl _
      simp [h1, h3]
    · rw [decide_eq_false h2, if_neg Bool.false_ne_true, not_lt_rows]
      simp [h1]
  · rw [decide_eq_false h1, if_neg Bool.false_ne_true]
    by_cases h2 : b.1 < a.1
    · rw [decide_eq_true h2, decide_eq_false (by omega)]
      rfl
    · rw [decide_eq_false h2, decide_eq_true (by omega)]
      rfl
theorem pairLe_total (x y : Int × List Int) : (pairLe x y || pairLe y x) = true := by
  rw [Bool.or_eq_true]
  unfold pairLe
  rw [decide_eq_true_iff, decide_eq_true_iff]
  have := List.le_total x.2 y.2
  by_cases h : x.1 = y.1
  · rcases this with h2 | h2
    · exact .inl (.inr ⟨h, h2⟩)
    · exact .inr (.inr ⟨h.symm, h2⟩)
  · rcases Int.lt_or_lt_of_ne h with h2 | h2
    · exact .inl (.inl h2)
    · exact .inr (.inl h2)
theorem pairLe_trans (x y z : Int × List Int) (h1 : pairLe x y = true) (h2 : pairLe y z = true) : pairLe x z = true := by
  unfold pairLe at *
  rw [decide_eq_true_iff] at *
  rcases h1 with h1 | ⟨h1, h3⟩
  · rcases h2 with h2 | ⟨h2, h4⟩
    · exact .inl (Int.lt_trans h1 h2)
    · exact .inl (by omega)
  · rcases h2 with h2 | ⟨h2, h4⟩
    · exact .inl (by omega)
    · exact .inr ⟨h1.trans h2, List.le_trans h3 h4⟩
theorem pairLe_anti (x y : Int × List Int) (h1 : pairLe x y = true) (h2 : pairLe y x = true) : x = y := by
  unfold pairLe at *
  rw [decide_eq_true_iff] at *
  obtain ⟨a, b⟩ := x
  obtain ⟨a', b'⟩ := y
  simp only at h1 h2
  rcases h1 with h1 | ⟨h1, h3⟩
  · rcases h2 with h2 | ⟨h2, h4⟩ <;> omega
  · rcases h2 with h2 | ⟨h2, h4⟩
    · omega
    · rw [h1, List.le_antisymm h3 h4]
theorem rowLe_total (x y : List Int) : (rowLe x y || rowLe y x) = true := by
  rw [Bool.or_eq_true]
  unfold rowLe
  rw [decide_eq_true_iff, decide_eq_true_iff]
  exact List.le_total x y
theorem rowLe_trans (x y z : List Int) (h1 : rowLe x y = true) (h2 : rowLe y z = true) : rowLe x z = true := by
  unfold rowLe at *
  rw [decide_eq_true_iff] at *
  exact List.le_trans h1 h2
theorem rowLe_anti (x y : List Int) (h1 : rowLe x y = true) (h2 : rowLe y x = true) : x = y := by
  unfold rowLe at *
  rw [decide_eq_true_iff] at *
  exact List.le_antisymm h1 h2
/-- the one list in order -/
theorem sort_one {α : Type} {le : α → α → Bool} (tr : ∀ x y z, le x y = true → le y z = true → le x z = true) (to : ∀ x y, (le x y || le y x) = true) (an : ∀ x y, le x y = true → le y x = true → x = y) {l m : List α} (p : l.Perm m) (s : m.Pairwise fun a b => le a b = true) : l.mergeSort le = m := by
  have h1 : (l.mergeSort le).Perm m := (List.mergeSort_perm l le).trans p
  have h2 : (l.mergeSort le).Pairwise fun a b => le a b = true := List.pairwise_mergeSort (fun a b c => tr a b c) (fun a b => to a b) l
  refine List.Perm.eq_of_pairwise (le := fun a b => le a b = true) (fun a b _ _ => an a b) h2 s h1
/-- by length, then sorted -/
def byLen (ls : List (List Int)) : List (List Int) := ((ls.map fun l => ((l.length : Int), l)).mergeSort pairLe).map (·.2)
def sortR (ls : List (List Int)) : List (List Int) := ls.mergeSort rowLe

/-! ### the rule -/
theorem eachIs_vals {β : Type} {T : β → V → Prop} : ∀ {out : List Value} {bs : List β}, PySem.W.EachIs (fun v b => ∃ x, RelV x v ∧ T b x) out bs → ∃ ys : List V, Vals ys out ∧ Paired (fun y b => T b y) ys bs
  | _, _, .nil => ⟨[], .nil, .nil⟩
  | _, _, .cons ⟨x, r, t⟩ h => by
    obtain ⟨ys, h1, h2⟩ := eachIs_vals h
    exact ⟨x :: ys, .cons r h1, .cons t h2⟩
theorem eachIs_of {β : Type} {T : β → V → Prop} : ∀ {vs : List Value} {xs : List V} {bs : List β}, Vals xs vs → Paired (fun x b => T b x) xs bs → PySem.W.EachIs (fun v b => ∃ x, RelV x v ∧ T b x) vs bs
  | _, _, _, .nil, .nil => .nil
  | _, _, _, .cons r h, .cons t h2 => .cons ⟨_, r, t⟩ (eachIs_of h h2)
theorem eachIs_imp {α β : Type} {R R' : α → β → Prop} (f : ∀ a b, R a b → R' a b) : ∀ {as : List α} {bs : List β}, PySem.W.EachIs R as bs → PySem.W.EachIs R' as bs
  | _, _, .nil => .nil
  | _, _, .cons r h => .cons (f _ _ r) (eachIs_imp f h)
def rSortD {β : Type} (enc : β → PyData) (T : β → V → Prop) (K : PySem.W.Frag) : List V → Hp → VK → Prop := fun vs H Q => ∃ (a : Addr) (xs : List V) (bs : List β), vs = [.ref a] ∧ SqL K H a xs ∧ Paired (fun x b => T b x) xs bs ∧ (∀ b x, T b x → Dp K H x (enc b)) ∧
  (∀ b b', PySem.W.alike (enc b) (enc b') = true) ∧ ((∀ b ∈ bs, ∃ x r, enc b = .tuple (x :: r)) ∨ (bs.length ≤ 1 ∧ ∀ b, ∃ xs, enc b = .tuple xs)) ∧ bs.length ≤ 1000 ∧ (∀ b, (enc b).depth ≤ 8) ∧ ∀ p ys, H p = none → Paired (fun y b => T b y) ys (bs.mergeSort (PySem.W.dataLe false enc)) → Q (.ref p) (upd H p (.lst ys))
/-- a list of at most one tuple needs no order -/
theorem sortsAt_one {prog : Program} {w : World} {A : Around} {s : Shared} {vs : List Value} {ds : List PyData} (e : PySem.W.EachIs (fun v d => ∃ as, Reads s.heap v d as) vs ds) (hal : PySem.W.AllAlike ds) (h1 : vs.length ≤ 1) (ht : ∀ d, d ∈ ds → ∃ xs, d = .tuple xs) (hu : ∀ d, d ∈ ds → A.units + d.depth < cLine) :
    PySem.W.SortsAt prog w A s (PySem.W.dataKind s.heap ds) vs := by
  refine ⟨fun v hv => ?_, tuples' false, fun E x y a b Q ha hb hq => ?_, fun h2 => absurd h2 (by omega)⟩
  · (obtain ⟨d, hd, as, r⟩ := e.left v hv)
    exact ⟨_, PySem.W.dataKind_some hal hd r⟩
  · obtain ⟨d, as, hd, ra, rfl⟩ := PySem.W.dataKind_inv ha
    obtain ⟨d', as', hd', rb, rfl⟩ := PySem.W.dataKind_inv hb
    have hdd := hal d hd d' hd'
    have hr : A.units + d.depth < cLine := hu d hd
    obtain ⟨x1, rfl⟩ := ht d hd
    obtain ⟨x2, rfl⟩ := ht d' hd'
    have hq' : Q (PySem.W.dataLt (.tuple x1) (.tuple x2)) s := hq
    rw [PySem.W.dataLt_tuple] at hq'
    cases ra with
    | @tuple l o xs n _ _ g1 g2 g3 g4 =>
      cases rb with
      | @tuple _ _ xs' _ _ _ k1 k2 k3 k4 =>
        have n1 : xs.size = x1.length := by simpa using SeqAt.ReadsAll.length _ _ _ g4
        have n2 : xs'.size = x2.length := by simpa using SeqAt.ReadsAll.length _ _ _ k4
        refine PySem.W.kat_lt g1 g3 k1 k3 (PySem.W.katLex_alike x1 x2 0 _ _ _ _ g4 k4 (by simpa [PySem.W.alike] using hdd) ?_ (fun hb => absurd hb Bool.false_ne_true) (by rw [n1, n2]) hq')
        rw [PyData.depth] at hr
        omega
theorem cr_sortD {β : Type} (enc : β → PyData) (T : β → V → Prop) {X : Cx} (hu : X.A.units + 64 < cLine) : CallR X (.builtin "sorted") (rSortD enc T X.K) := by
  (intro pins s σ H vs us Q I r h)
  obtain ⟨a, xs, bs, rfl, hs, pr, hD, hal, hk, hl, hd, q⟩ := h
  obtain ⟨its, rv, ht, _⟩ := I.list hs
  rw [Vals.ref1 r]
  have e1 := eachIs_of rv pr
  have er : PySem.W.EachIs (fun v b => ∃ as, Reads s.heap v (enc b) as) its bs := eachIs_imp (fun v b ⟨x, r, t⟩ => Dp.reads I (enc b) x v (hD b x t) r) e1
  have hal' : PySem.W.AllAlike (bs.map enc) := PySem.W.AllAlike.of hal
  have hL : bs.length ≤ sizeLine := Nat.le_of_lt (small1000 hl)
  have fin : ∀ out : List Value, out.length = bs.length → PySem.W.EachIs (fun v b => ∃ x, RelV x v ∧ T b x) out (bs.mergeSort (PySem.W.dataLe false enc)) → EP X pins σ Q (.ref (s.heap.objs.size + 1)) { s with heap := sortedAll s.heap its (List.toArray out) } := fun out hlen eo => by
    obtain ⟨ys, rv2, pr2⟩ := eachIs_vals eo
    obtain ⟨ep, he'⟩ := sortedAll_at s.heap its (List.toArray out)
    refine ⟨.ref _, upd H (s.heap.objs.size + 1) (.lst ys), I.laid (t' := s.toks) (fun _ _ => sortedAll_old) (Nat.le_succ _) ⟨by rw [rv2.length, hlen]; exact hL, out, ep, rv2, he'⟩, rfl, q _ ys (I.hok.fresh (Nat.le_succ _)) pr2⟩
  rcases hk with hk | ⟨hk, ht2⟩
  · refine PySem.W.sorted_data (enc := enc) ht.isList e1 er hal' (.inl fun d hm => ?_) hL (fun b _ => by have := hd b; omega) fin
    obtain ⟨b, hb, rfl⟩ := List.mem_map.mp hm
    exact hk b hb
  · have er' : PySem.W.EachIs (fun v b => ∃ as, Reads (PySem.W.sortingHeap (PySem.W.copyHeap s.heap its) (s.heap.objs.size + 1) its) v (enc b) as) its bs := eachIs_imp (fun _ _ ⟨as, r⟩ => ⟨as, PyProof.Rows.Reads.keeps (fun _ _ => PySem.W.sorting_copy_old) r⟩) er
    have hlen : its.length = bs.length := e1.length
    refine PySem.W.sorted_vals ht.isList (sortsAt_one (s := { s with heap := PySem.W.sortingHeap (PySem.W.copyHeap s.heap its) (s.heap.objs.size + 1) its }) (PySem.W.each_map (R := fun v d => ∃ as, Reads (PySem.W.sortingHeap (PySem.W.copyHeap s.heap its) (s.heap.objs.size + 1) its) v d as) enc er') hal' (by omega) (fun d hm => ?_) (fun d hm => ?_)) (by rw [hlen]; exact hL) ?_
    · obtain ⟨b, _, rfl⟩ := List.mem_map.mp hm
      exact ht2 b
    · obtain ⟨b, _, rfl⟩ := List.mem_map.mp hm
      have := hd b
      show X.A.units + 2 + (enc b).depth < cLine
      omega
    · exact fin _ (by rw [PySem.W.sortVals_length false rfl]; exact hlen) (PySem.W.sortVals_data false e1 er' hal')
end Gl

namespace Gl
open PySem PySem.Spec L2 PyProof.Rows
structure Wl (g : Pg) : Prop where
  says : Says g.K
  ns : ∃ h : Heap, g.K.In h ∧ h.Ns mainGlobals g.mg
namespace Wl
variable {g : Pg}

theorem g_is_integer (W : Wl g) : g.mg "is_integer" = some (.ref (He.ga g.K "is_integer")) := W.ns.elim fun h p => He.glo_ok p.1 p.2 (W.says.d.fact 0 (f := .glo "is_integer") rfl)
theorem g_is_count (W : Wl g) : g.mg "is_count" = some (.ref (He.ga g.K "is_count")) := W.ns.elim fun h p => He.glo_ok p.1 p.2 (W.says.d.fact 1 (f := .glo "is_count") rfl)
theorem g_is_list (W : Wl g) : g.mg "is_list" = some (.ref (He.ga g.K "is_list")) := W.ns.elim fun h p => He.glo_ok p.1 p.2 (W.says.d.fact 2 (f := .glo "is_list") rfl)
theorem g_want_at_most (W : Wl g) : g.mg "want_at_most" = some (.ref (He.ga g.K "want_at_most")) := W.ns.elim fun h p => He.glo_ok p.1 p.2 (W.says.d.fact 3 (f := .glo "want_at_most") rfl)
theorem g_common_bottom (W : Wl g) : g.mg "common_bottom" = some (.ref (He.ga g.K "common_bottom")) := W.ns.elim fun h p => He.glo_ok p.1 p.2 (W.says.d.fact 4 (f := .glo "common_bottom") rfl)
theorem g_common_part (W : Wl g) : g.mg "common_part" = some (.ref (He.ga g.K "common_part")) := W.ns.elim fun h p => He.glo_ok p.1 p.2 (W.says.d.fact 5 (f := .glo "common_part") rfl)
theorem g_is_number (W : Wl g) : g.mg "is_number" = some (.ref (He.ga g.K "is_number")) := W.ns.elim fun h p => He.glo_ok p.1 p.2 (W.says.d.fact 6 (f := .glo "is_number") rfl)
theorem g_ratio_of (W : Wl g) : g.mg "ratio_of" = some (.ref (He.ga g.K "ratio_of")) := W.ns.elim fun h p => He.glo_ok p.1 p.2 (W.says.d.fact 7 (f := .glo "ratio_of") rfl)
theorem g_pair_sum (W : Wl g) : g.mg "pair_sum" = some (.ref (He.ga g.K "pair_sum")) := W.ns.elim fun h p => He.glo_ok p.1 p.2 (W.says.d.fact 8 (f := .glo "pair_sum") rfl)
theorem g_pair_product (W : Wl g) : g.mg "pair_product" = some (.ref (He.ga g.K "pair_product")) := W.ns.elim fun h p => He.glo_ok p.1 p.2 (W.says.d.fact 9 (f := .glo "pair_product") rfl)
theorem g_top_of (W : Wl g) : g.mg "top_of" = some (.ref (He.ga g.K "top_of")) := W.ns.elim fun h p => He.glo_ok p.1 p.2 (W.says.d.fact 10 (f := .glo "top_of") rfl)
theorem g_is_above (W : Wl g) : g.mg "is_above" = some (.ref (He.ga g.K "is_above")) := W.ns.elim fun h p => He.glo_ok p.1 p.2 (W.says.d.fact 11 (f := .glo "is_above") rfl)
theorem g_wholes (W : Wl g) : g.mg "wholes" = some (.ref (He.ga g.K "wholes")) := W.ns.elim fun h p => He.glo_ok p.1 p.2 (W.says.d.fact 12 (f := .glo "wholes") rfl)
theorem g_is_small (W : Wl g) : g.mg "is_small" = some (.ref (He.ga g.K "is_small")) := W.ns.elim fun h p => He.glo_ok p.1 p.2 (W.says.d.fact 13 (f := .glo "is_small") rfl)
theorem g_is_letters (W : Wl g) : g.mg "is_letters" = some (.ref (He.ga g.K "is_letters")) := W.ns.elim fun h p => He.glo_ok p.1 p.2 (W.says.d.fact 14 (f := .glo "is_letters") rfl)
theorem g_want_letters (W : Wl g) : g.mg "want_letters" = some (.ref (He.ga g.K "want_letters")) := W.ns.elim fun h p => He.glo_ok p.1 p.2 (W.says.d.fact 15 (f := .glo "want_letters") rfl)
theorem g_are_counts (W : Wl g) : g.mg "are_counts" = some (.ref (He.ga g.K "are_counts")) := W.ns.elim fun h p => He.glo_ok p.1 p.2 (W.says.d.fact 16 (f := .glo "are_counts") rfl)
theorem g_is_entry (W : Wl g) : g.mg "is_entry" = some (.ref (He.ga g.K "is_entry")) := W.ns.elim fun h p => He.glo_ok p.1 p.2 (W.says.d.fact 17 (f := .glo "is_entry") rfl)
theorem g_amounts_sorted (W : Wl g) : g.mg "amounts_sorted" = some (.ref (He.ga g.K "amounts_sorted")) := W.ns.elim fun h p => He.glo_ok p.1 p.2 (W.says.d.fact 18 (f := .glo "amounts_sorted") rfl)
theorem g_told_amounts (W : Wl g) : g.mg "told_amounts" = some (.ref (He.ga g.K "told_amounts")) := W.ns.elim fun h p => He.glo_ok p.1 p.2 (W.says.d.fact 19 (f := .glo "told_amounts") rfl)
theorem g_degree_of (W : Wl g) : g.mg "degree_of" = some (.ref (He.ga g.K "degree_of")) := W.ns.elim fun h p => He.glo_ok p.1 p.2 (W.says.d.fact 20 (f := .glo "degree_of") rfl)
theorem g_blend_of (W : Wl g) : g.mg "blend_of" = some (.ref (He.ga g.K "blend_of")) := W.ns.elim fun h p => He.glo_ok p.1 p.2 (W.says.d.fact 21 (f := .glo "blend_of") rfl)
theorem g_blends_added (W : Wl g) : g.mg "blends_added" = some (.ref (He.ga g.K "blends_added")) := W.ns.elim fun h p => He.glo_ok p.1 p.2 (W.says.d.fact 22 (f := .glo "blends_added") rfl)
theorem g_blends_multiplied (W : Wl g) : g.mg "blends_multiplied" = some (.ref (He.ga g.K "blends_multiplied")) := W.ns.elim fun h p => He.glo_ok p.1 p.2 (W.says.d.fact 23 (f := .glo "blends_multiplied") rfl)
theorem g_want_blend (W : Wl g) : g.mg "want_blend" = some (.ref (He.ga g.K "want_blend")) := W.ns.elim fun h p => He.glo_ok p.1 p.2 (W.says.d.fact 24 (f := .glo "want_blend") rfl)
theorem g_want_alike (W : Wl g) : g.mg "want_alike" = some (.ref (He.ga g.K "want_alike")) := W.ns.elim fun h p => He.glo_ok p.1 p.2 (W.says.d.fact 25 (f := .glo "want_alike") rfl)
theorem g_is_rising (W : Wl g) : g.mg "is_rising" = some (.ref (He.ga g.K "is_rising")) := W.ns.elim fun h p => He.glo_ok p.1 p.2 (W.says.d.fact 26 (f := .glo "is_rising") rfl)
theorem g_want_things_many (W : Wl g) : g.mg "want_things_many" = some (.ref (He.ga g.K "want_things_many")) := W.ns.elim fun h p => He.glo_ok p.1 p.2 (W.says.d.fact 27 (f := .glo "want_things_many") rfl)
theorem g_is_lot (W : Wl g) : g.mg "is_lot" = some (.ref (He.ga g.K "is_lot")) := W.ns.elim fun h p => He.glo_ok p.1 p.2 (W.says.d.fact 28 (f := .glo "is_lot") rfl)
theorem g_want_lots (W : Wl g) : g.mg "want_lots" = some (.ref (He.ga g.K "want_lots")) := W.ns.elim fun h p => He.glo_ok p.1 p.2 (W.says.d.fact 29 (f := .glo "want_lots") rfl)
theorem g_by_length (W : Wl g) : g.mg "by_length" = some (.ref (He.ga g.K "by_length")) := W.ns.elim fun h p => He.glo_ok p.1 p.2 (W.says.d.fact 30 (f := .glo "by_length") rfl)
theorem g_less (W : Wl g) : g.mg "less" = some (.ref (He.ga g.K "less")) := W.ns.elim fun h p => He.glo_ok p.1 p.2 (W.says.d.fact 31 (f := .glo "less") rfl)
theorem g_more_by (W : Wl g) : g.mg "more_by" = some (.ref (He.ga g.K "more_by")) := W.ns.elim fun h p => He.glo_ok p.1 p.2 (W.says.d.fact 32 (f := .glo "more_by") rfl)
theorem g_lacking_lot (W : Wl g) : g.mg "lacking_lot" = some (.ref (He.ga g.K "lacking_lot")) := W.ns.elim fun h p => He.glo_ok p.1 p.2 (W.says.d.fact 33 (f := .glo "lacking_lot") rfl)
theorem g_is_stuck (W : Wl g) : g.mg "is_stuck" = some (.ref (He.ga g.K "is_stuck")) := W.ns.elim fun h p => He.glo_ok p.1 p.2 (W.says.d.fact 34 (f := .glo "is_stuck") rfl)
theorem g_stuck_pair (W : Wl g) : g.mg "stuck_pair" = some (.ref (He.ga g.K "stuck_pair")) := W.ns.elim fun h p => He.glo_ok p.1 p.2 (W.says.d.fact 35 (f := .glo "stuck_pair") rfl)
theorem g_fault_of (W : Wl g) : g.mg "fault_of" = some (.ref (He.ga g.K "fault_of")) := W.ns.elim fun h p => He.glo_ok p.1 p.2 (W.says.d.fact 36 (f := .glo "fault_of") rfl)
theorem g_want_house (W : Wl g) : g.mg "want_house" = some (.ref (He.ga g.K "want_house")) := W.ns.elim fun h p => He.glo_ok p.1 p.2 (W.says.d.fact 37 (f := .glo "want_house") rfl)
theorem g_told_lots (W : Wl g) : g.mg "told_lots" = some (.ref (He.ga g.K "told_lots")) := W.ns.elim fun h p => He.glo_ok p.1 p.2 (W.says.d.fact 38 (f := .glo "told_lots") rfl)
theorem g_told_house (W : Wl g) : g.mg "told_house" = some (.ref (He.ga g.K "told_house")) := W.ns.elim fun h p => He.glo_ok p.1 p.2 (W.says.d.fact 39 (f := .glo "told_house") rfl)
theorem g_is_house (W : Wl g) : g.mg "is_house" = some (.ref (He.ga g.K "is_house")) := W.ns.elim fun h p => He.glo_ok p.1 p.2 (W.says.d.fact 40 (f := .glo "is_house") rfl)
theorem g_bad_lot (W : Wl g) : g.mg "bad_lot" = some (.ref (He.ga g.K "bad_lot")) := W.ns.elim fun h p => He.glo_ok p.1 p.2 (W.says.d.fact 41 (f := .glo "bad_lot") rfl)
theorem g_longest_of (W : Wl g) : g.mg "longest_of" = some (.ref (He.ga g.K "longest_of")) := W.ns.elim fun h p => He.glo_ok p.1 p.2 (W.says.d.fact 42 (f := .glo "longest_of") rfl)
theorem g_greatest (W : Wl g) : g.mg "greatest" = some (.ref (He.ga g.K "greatest")) := W.ns.elim fun h p => He.glo_ok p.1 p.2 (W.says.d.fact 43 (f := .glo "greatest") rfl)
theorem g_want_thing (W : Wl g) : g.mg "want_thing" = some (.ref (He.ga g.K "want_thing")) := W.ns.elim fun h p => He.glo_ok p.1 p.2 (W.says.d.fact 44 (f := .glo "want_thing") rfl)
theorem g_without (W : Wl g) : g.mg "without" = some (.ref (He.ga g.K "without")) := W.ns.elim fun h p => He.glo_ok p.1 p.2 (W.says.d.fact 45 (f := .glo "without") rfl)
theorem g_having (W : Wl g) : g.mg "having" = some (.ref (He.ga g.K "having")) := W.ns.elim fun h p => He.glo_ok p.1 p.2 (W.says.d.fact 46 (f := .glo "having") rfl)
theorem g_all_lots (W : Wl g) : g.mg "all_lots" = some (.ref (He.ga g.K "all_lots")) := W.ns.elim fun h p => He.glo_ok p.1 p.2 (W.says.d.fact 47 (f := .glo "all_lots") rfl)
theorem g_mirror (W : Wl g) : g.mg "mirror" = some (.ref (He.ga g.K "mirror")) := W.ns.elim fun h p => He.glo_ok p.1 p.2 (W.says.d.fact 48 (f := .glo "mirror") rfl)
theorem g_counts_of (W : Wl g) : g.mg "counts_of" = some (.ref (He.ga g.K "counts_of")) := W.ns.elim fun h p => He.glo_ok p.1 p.2 (W.says.d.fact 49 (f := .glo "counts_of") rfl)
theorem g_greatest_blend (W : Wl g) : g.mg "greatest_blend" = some (.ref (He.ga g.K "greatest_blend")) := W.ns.elim fun h p => He.glo_ok p.1 p.2 (W.says.d.fact 50 (f := .glo "greatest_blend") rfl)
theorem g_law_pot (W : Wl g) : g.mg "_law_pot" = some (.ref (He.ga g.K "_law_pot")) := W.ns.elim fun h p => He.glo_ok p.1 p.2 (W.says.d.fact 51 (f := .glo "_law_pot") rfl)
theorem g_law_draw (W : Wl g) : g.mg "_law_draw" = some (.ref (He.ga g.K "_law_draw")) := W.ns.elim fun h p => He.glo_ok p.1 p.2 (W.says.d.fact 52 (f := .glo "_law_draw") rfl)
theorem g_law_pick (W : Wl g) : g.mg "_law_pick" = some (.ref (He.ga g.K "_law_pick")) := W.ns.elim fun h p => He.glo_ok p.1 p.2 (W.says.d.fact 53 (f := .glo "_law_pick") rfl)
theorem g_law_all (W : Wl g) : g.mg "_law_all" = some (.ref (He.ga g.K "_law_all")) := W.ns.elim fun h p => He.glo_ok p.1 p.2 (W.says.d.fact 54 (f := .glo "_law_all") rfl)
theorem g_law_by_length (W : Wl g) : g.mg "_law_by_length" = some (.ref (He.ga g.K "_law_by_length")) := W.ns.elim fun h p => He.glo_ok p.1 p.2 (W.says.d.fact 55 (f := .glo "_law_by_length") rfl)
theorem g_law_mixed (W : Wl g) : g.mg "_law_mixed" = some (.ref (He.ga g.K "_law_mixed")) := W.ns.elim fun h p => He.glo_ok p.1 p.2 (W.says.d.fact 56 (f := .glo "_law_mixed") rfl)
theorem g_law_det (W : Wl g) : g.mg "_law_det" = some (.ref (He.ga g.K "_law_det")) := W.ns.elim fun h p => He.glo_ok p.1 p.2 (W.says.d.fact 57 (f := .glo "_law_det") rfl)
theorem g_law_are_free (W : Wl g) : g.mg "_law_are_free" = some (.ref (He.ga g.K "_law_are_free")) := W.ns.elim fun h p => He.glo_ok p.1 p.2 (W.says.d.fact 58 (f := .glo "_law_are_free") rfl)
theorem g_law_no_ring (W : Wl g) : g.mg "_law_no_ring" = some (.ref (He.ga g.K "_law_no_ring")) := W.ns.elim fun h p => He.glo_ok p.1 p.2 (W.says.d.fact 59 (f := .glo "_law_no_ring") rfl)
theorem g_law_house (W : Wl g) : g.mg "_law_house" = some (.ref (He.ga g.K "_law_house")) := W.ns.elim fun h p => He.glo_ok p.1 p.2 (W.says.d.fact 60 (f := .glo "_law_house") rfl)
theorem g_law_exchanged (W : Wl g) : g.mg "_law_exchanged" = some (.ref (He.ga g.K "_law_exchanged")) := W.ns.elim fun h p => He.glo_ok p.1 p.2 (W.says.d.fact 61 (f := .glo "_law_exchanged") rfl)
theorem g_law_exchange_right (W : Wl g) : g.mg "_law_exchange_right" = some (.ref (He.ga g.K "_law_exchange_right")) := W.ns.elim fun h p => He.glo_ok p.1 p.2 (W.says.d.fact 62 (f := .glo "_law_exchange_right") rfl)
theorem g_law_heavy_right (W : Wl g) : g.mg "_law_heavy_right" = some (.ref (He.ga g.K "_law_heavy_right")) := W.ns.elim fun h p => He.glo_ok p.1 p.2 (W.says.d.fact 63 (f := .glo "_law_heavy_right") rfl)
theorem g_law_thing_right (W : Wl g) : g.mg "_law_thing_right" = some (.ref (He.ga g.K "_law_thing_right")) := W.ns.elim fun h p => He.glo_ok p.1 p.2 (W.says.d.fact 64 (f := .glo "_law_thing_right") rfl)
theorem g_law_lines_right (W : Wl g) : g.mg "_law_lines_right" = some (.ref (He.ga g.K "_law_lines_right")) := W.ns.elim fun h p => He.glo_ok p.1 p.2 (W.says.d.fact 65 (f := .glo "_law_lines_right") rfl)
theorem g_law_right (W : Wl g) : g.mg "_law_right" = some (.ref (He.ga g.K "_law_right")) := W.ns.elim fun h p => He.glo_ok p.1 p.2 (W.says.d.fact 66 (f := .glo "_law_right") rfl)
theorem g_law (W : Wl g) : g.mg "law" = some (.ref (He.ga g.K "law")) := W.ns.elim fun h p => He.glo_ok p.1 p.2 (W.says.d.fact 67 (f := .glo "law") rfl)
theorem g_Ratio (W : Wl g) : g.mg "Ratio" = some (.ref (He.ga g.K "Ratio")) := W.ns.elim fun h p => He.glo_ok p.1 p.2 (W.says.d.fact 68 (f := .glo "Ratio") rfl)
theorem g_Amounts (W : Wl g) : g.mg "Amounts" = some (.ref (He.ga g.K "Amounts")) := W.ns.elim fun h p => He.glo_ok p.1 p.2 (W.says.d.fact 69 (f := .glo "Amounts") rfl)
theorem g_Blend (W : Wl g) : g.mg "Blend" = some (.ref (He.ga g.K "Blend")) := W.ns.elim fun h p => He.glo_ok p.1 p.2 (W.says.d.fact 70 (f := .glo "Blend") rfl)
theorem f_isinstance (W : Wl g) : g.mg "isinstance" = none := W.ns.elim fun h p => He.free_ok p.1 p.2 (W.says.d.fact 71 (f := .free "isinstance") rfl)
theorem f_int (W : Wl g) : g.mg "int" = none := W.ns.elim fun h p => He.free_ok p.1 p.2 (W.says.d.fact 72 (f := .free "int") rfl)
theorem f_bool (W : Wl g) : g.mg "bool" = none := W.ns.elim fun h p => He.free_ok p.1 p.2 (W.says.d.fact 73 (f := .free "bool") rfl)
theorem f_str (W : Wl g) : g.mg "str" = none := W.ns.elim fun h p => He.free_ok p.1 p.2 (W.says.d.fact 74 (f := .free "str") rfl)
theorem f_list (W : Wl g) : g.mg "list" = none := W.ns.elim fun h p => He.free_ok p.1 p.2 (W.says.d.fact 75 (f := .free "list") rfl)
theorem f_tuple (W : Wl g) : g.mg "tuple" = none := W.ns.elim fun h p => He.free_ok p.1 p.2 (W.says.d.fact 76 (f := .free "tuple") rfl)
theorem f_len (W : Wl g) : g.mg "len" = none := W.ns.elim fun h p => He.free_ok p.1 p.2 (W.says.d.fact 77 (f := .free "len") rfl)
theorem f_abs (W : Wl g) : g.mg "abs" = none := W.ns.elim fun h p => He.free_ok p.1 p.2 (W.says.d.fact 78 (f := .free "abs") rfl)
theorem f_all (W : Wl g) : g.mg "all" = none := W.ns.elim fun h p => He.free_ok p.1 p.2 (W.says.d.fact 79 (f := .free "all") rfl)
theorem f_any (W : Wl g) : g.mg "any" = none := W.ns.elim fun h p => He.free_ok p.1 p.2 (W.says.d.fact 80 (f := .free "any") rfl)
theorem f_sum (W : Wl g) : g.mg "sum" = none := W.ns.elim fun h p => He.free_ok p.1 p.2 (W.says.d.fact 81 (f := .free "sum") rfl)
theorem f_range (W : Wl g) : g.mg "range" = none := W.ns.elim fun h p => He.free_ok p.1 p.2 (W.says.d.fact 82 (f := .free "range") rfl)
theorem f_sorted (W : Wl g) : g.mg "sorted" = none := W.ns.elim fun h p => He.free_ok p.1 p.2 (W.says.d.fact 83 (f := .free "sorted") rfl)
theorem f_dict (W : Wl g) : g.mg "dict" = none := W.ns.elim fun h p => He.free_ok p.1 p.2 (W.says.d.fact 84 (f := .free "dict") rfl)
theorem f_zip (W : Wl g) : g.mg "zip" = none := W.ns.elim fun h p => He.free_ok p.1 p.2 (W.says.d.fact 85 (f := .free "zip") rfl)
theorem f_enumerate (W : Wl g) : g.mg "enumerate" = none := W.ns.elim fun h p => He.free_ok p.1 p.2 (W.says.d.fact 86 (f := .free "enumerate") rfl)
theorem f_max (W : Wl g) : g.mg "max" = none := W.ns.elim fun h p => He.free_ok p.1 p.2 (W.says.d.fact 87 (f := .free "max") rfl)
theorem f_min (W : Wl g) : g.mg "min" = none := W.ns.elim fun h p => He.free_ok p.1 p.2 (W.says.d.fact 88 (f := .free "min") rfl)
theorem f_divmod (W : Wl g) : g.mg "divmod" = none := W.ns.elim fun h p => He.free_ok p.1 p.2 (W.says.d.fact 89 (f := .free "divmod") rfl)
theorem i_MOST_LETTERS (W : Wl g) : ∃ t, g.mg "MOST_LETTERS" = some (.int 8 t) := W.ns.elim fun h p => He.int_ok p.1 p.2 (W.says.d.fact 90 (f := .int "MOST_LETTERS" 8) rfl)
theorem i_MOST_DEGREE (W : Wl g) : ∃ t, g.mg "MOST_DEGREE" = some (.int 8 t) := W.ns.elim fun h p => He.int_ok p.1 p.2 (W.says.d.fact 91 (f := .int "MOST_DEGREE" 8) rfl)
theorem i_MOST_ENTRIES (W : Wl g) : ∃ t, g.mg "MOST_ENTRIES" = some (.int 300 t) := W.ns.elim fun h p => He.int_ok p.1 p.2 (W.says.d.fact 92 (f := .int "MOST_ENTRIES" 300) rfl)
theorem i_MOST_THINGS (W : Wl g) : ∃ t, g.mg "MOST_THINGS" = some (.int 7 t) := W.ns.elim fun h p => He.int_ok p.1 p.2 (W.says.d.fact 93 (f := .int "MOST_THINGS" 7) rfl)
theorem s_SMALL (W : Wl g) : ∃ t, g.mg "SMALL" = some (.str "abcdefghijklmnopqrstuvwxyz" t) := W.ns.elim fun h p => He.str_ok p.1 p.2 (W.says.d.fact 94 (f := .str "SMALL" "abcdefghijklmnopqrstuvwxyz") rfl)
theorem s_LETTERS (W : Wl g) : ∃ t, g.mg "LETTERS" = some (.str "abcdefg" t) := W.ns.elim fun h p => He.str_ok p.1 p.2 (W.says.d.fact 95 (f := .str "LETTERS" "abcdefg") rfl)
theorem c_Ratio (W : Wl g) : Cls g.K (He.ga g.K "Ratio") := He.cls_ok (W.says.d.fact 96 (f := .cls "Ratio") rfl)
theorem c_Amounts (W : Wl g) : Cls g.K (He.ga g.K "Amounts") := He.cls_ok (W.says.d.fact 97 (f := .cls "Amounts") rfl)
theorem c_Blend (W : Wl g) : Cls g.K (He.ga g.K "Blend") := He.cls_ok (W.says.d.fact 98 (f := .cls "Blend") rfl)
theorem k_Ratio (W : Wl g) : Mk g.K (He.ga g.K "Ratio") (He.ma g.K (He.ga g.K "Ratio") "__init__") := He.mkr_ok (W.says.d.fact 99 (f := .mkr "Ratio") rfl)
theorem k_Amounts (W : Wl g) : Mk g.K (He.ga g.K "Amounts") (He.ma g.K (He.ga g.K "Amounts") "__init__") := He.mkr_ok (W.says.d.fact 100 (f := .mkr "Amounts") rfl)
theorem k_Blend (W : Wl g) : Mk g.K (He.ga g.K "Blend") (He.ma g.K (He.ga g.K "Blend") "__init__") := He.mkr_ok (W.says.d.fact 101 (f := .mkr "Blend") rfl)
theorem n_Ratio_own_top (W : Wl g) : NoAttr g.K (He.ga g.K "Ratio") "own_top" := He.noat_ok (W.says.d.fact 102 (f := .noat "Ratio" "own_top") rfl)
theorem n_Ratio_own_bottom (W : Wl g) : NoAttr g.K (He.ga g.K "Ratio") "own_bottom" := He.noat_ok (W.says.d.fact 103 (f := .noat "Ratio" "own_bottom") rfl)
theorem n_Amounts_own_dict (W : Wl g) : NoAttr g.K (He.ga g.K "Amounts") "own_dict" := He.noat_ok (W.says.d.fact 104 (f := .noat "Amounts" "own_dict") rfl)
theorem n_Blend_own_letters (W : Wl g) : NoAttr g.K (He.ga g.K "Blend") "own_letters" := He.noat_ok (W.says.d.fact 105 (f := .noat "Blend" "own_letters") rfl)
theorem n_Blend_own_amounts (W : Wl g) : NoAttr g.K (He.ga g.K "Blend") "own_amounts" := He.noat_ok (W.says.d.fact 106 (f := .noat "Blend" "own_amounts") rfl)
theorem n_Blend_own_degree (W : Wl g) : NoAttr g.K (He.ga g.K "Blend") "own_degree" := He.noat_ok (W.says.d.fact 107 (f := .noat "Blend" "own_degree") rfl)
theorem n_Blend_own_bottom (W : Wl g) : NoAttr g.K (He.ga g.K "Blend") "own_bottom" := He.noat_ok (W.says.d.fact 108 (f := .noat "Blend" "own_bottom") rfl)
theorem n_Blend_own_tops (W : Wl g) : NoAttr g.K (He.ga g.K "Blend") "own_tops" := He.noat_ok (W.says.d.fact 109 (f := .noat "Blend" "own_tops") rfl)
theorem m_Ratio_eq (W : Wl g) : Meth g.K (He.ga g.K "Ratio") "__eq__" (He.ma g.K (He.ga g.K "Ratio") "__eq__") := He.meth_ok (W.says.d.fact 110 (f := .meth "Ratio" "__eq__") rfl)
theorem m_Blend_eq (W : Wl g) : Meth g.K (He.ga g.K "Blend") "__eq__" (He.ma g.K (He.ga g.K "Blend") "__eq__") := He.meth_ok (W.says.d.fact 111 (f := .meth "Blend" "__eq__") rfl)
theorem m_Blend_add (W : Wl g) : Meth g.K (He.ga g.K "Blend") "__add__" (He.ma g.K (He.ga g.K "Blend") "__add__") := He.meth_ok (W.says.d.fact 112 (f := .meth "Blend" "__add__") rfl)
theorem m_Blend_mul (W : Wl g) : Meth g.K (He.ga g.K "Blend") "__mul__" (He.ma g.K (He.ga g.K "Blend") "__mul__") := He.meth_ok (W.says.d.fact 113 (f := .meth "Blend" "__mul__") rfl)
theorem d_is_integer (W : Wl g) : ∃ fd, FunD g.K Gl.d_is_integer.name Gl.d_is_integer.qual Gl.d_is_integer.params Gl.d_is_integer.body Gl.d_is_integer.scope (Gl.d_is_integer.dvs g.K) (Gl.d_is_integer.kws g.K) (He.fAd g.K Gl.d_is_integer.at_) fd := W.says.d.def_ 0 (d := Gl.d_is_integer) rfl
theorem d_is_count (W : Wl g) : ∃ fd, FunD g.K Gl.d_is_count.name Gl.d_is_count.qual Gl.d_is_count.params Gl.d_is_count.body Gl.d_is_count.scope (Gl.d_is_count.dvs g.K) (Gl.d_is_count.kws g.K) (He.fAd g.K Gl.d_is_count.at_) fd := W.says.d.def_ 1 (d := Gl.d_is_count) rfl
theorem d_is_list (W : Wl g) : ∃ fd, FunD g.K Gl.d_is_list.name Gl.d_is_list.qual Gl.d_is_list.params Gl.d_is_list.body Gl.d_is_list.scope (Gl.d_is_list.dvs g.K) (Gl.d_is_list.kws g.K) (He.fAd g.K Gl.d_is_list.at_) fd := W.says.d.def_ 2 (d := Gl.d_is_list) rfl
theorem d_want_at_most (W : Wl g) : ∃ fd, FunD g.K Gl.d_want_at_most.name Gl.d_want_at_most.qual Gl.d_want_at_most.params Gl.d_want_at_most.body Gl.d_want_at_most.scope (Gl.d_want_at_most.dvs g.K) (Gl.d_want_at_most.kws g.K) (He.fAd g.K Gl.d_want_at_most.at_) fd := W.says.d.def_ 3 (d := Gl.d_want_at_most) rfl
theorem d_common_bottom (W : Wl g) : ∃ fd, FunD g.K Gl.d_common_bottom.name Gl.d_common_bottom.qual Gl.d_common_bottom.params Gl.d_common_bottom.body Gl.d_common_bottom.scope (Gl.d_common_bottom.dvs g.K) (Gl.d_common_bottom.kws g.K) (He.fAd g.K Gl.d_common_bottom.at_) fd := W.says.d.def_ 4 (d := Gl.d_common_bottom) rfl
theorem d_common_part (W : Wl g) : ∃ fd, FunD g.K Gl.d_common_part.name Gl.d_common_part.qual Gl.d_common_part.params Gl.d_common_part.body Gl.d_common_part.scope (Gl.d_common_part.dvs g.K) (Gl.d_common_part.kws g.K) (He.fAd g.K Gl.d_common_part.at_) fd := W.says.d.def_ 5 (d := Gl.d_common_part) rfl
theorem d_Ratio_init (W : Wl g) : ∃ fd, FunD g.K Gl.d_Ratio_init.name Gl.d_Ratio_init.qual Gl.d_Ratio_init.params Gl.d_Ratio_init.body Gl.d_Ratio_init.scope (Gl.d_Ratio_init.dvs g.K) (Gl.d_Ratio_init.kws g.K) (He.fAd g.K Gl.d_Ratio_init.at_) fd := W.says.d.def_ 6 (d := Gl.d_Ratio_init) rfl
theorem d_Ratio_eq (W : Wl g) : ∃ fd, FunD g.K Gl.d_Ratio_eq.name Gl.d_Ratio_eq.qual Gl.d_Ratio_eq.params Gl.d_Ratio_eq.body Gl.d_Ratio_eq.scope (Gl.d_Ratio_eq.dvs g.K) (Gl.d_Ratio_eq.kws g.K) (He.fAd g.K Gl.d_Ratio_eq.at_) fd := W.says.d.def_ 7 (d := Gl.d_Ratio_eq) rfl
theorem d_is_number (W : Wl g) : ∃ fd, FunD g.K Gl.d_is_number.name Gl.d_is_number.qual Gl.d_is_number.params Gl.d_is_number.body Gl.d_is_number.scope (Gl.d_is_number.dvs g.K) (Gl.d_is_number.kws g.K) (He.fAd g.K Gl.d_is_number.at_) fd := W.says.d.def_ 8 (d := Gl.d_is_number) rfl
theorem d_ratio_of (W : Wl g) : ∃ fd, FunD g.K Gl.d_ratio_of.name Gl.d_ratio_of.qual Gl.d_ratio_of.params Gl.d_ratio_of.body Gl.d_ratio_of.scope (Gl.d_ratio_of.dvs g.K) (Gl.d_ratio_of.kws g.K) (He.fAd g.K Gl.d_ratio_of.at_) fd := W.says.d.def_ 9 (d := Gl.d_ratio_of) rfl
theorem d_pair_sum (W : Wl g) : ∃ fd, FunD g.K Gl.d_pair_sum.name Gl.d_pair_sum.qual Gl.d_pair_sum.params Gl.d_pair_sum.body Gl.d_pair_sum.scope (Gl.d_pair_sum.dvs g.K) (Gl.d_pair_sum.kws g.K) (He.fAd g.K Gl.d_pair_sum.at_) fd := W.says.d.def_ 10 (d := Gl.d_pair_sum) rfl
theorem d_pair_product (W : Wl g) : ∃ fd, FunD g.K Gl.d_pair_product.name Gl.d_pair_product.qual Gl.d_pair_product.params Gl.d_pair_product.body Gl.d_pair_product.scope (Gl.d_pair_product.dvs g.K) (Gl.d_pair_product.kws g.K) (He.fAd g.K Gl.d_pair_product.at_) fd := W.says.d.def_ 11 (d := Gl.d_pair_product) rfl
theorem d_top_of (W : Wl g) : ∃ fd, FunD g.K Gl.d_top_of.name Gl.d_top_of.qual Gl.d_top_of.params Gl.d_top_of.body Gl.d_top_of.scope (Gl.d_top_of.dvs g.K) (Gl.d_top_of.kws g.K) (He.fAd g.K Gl.d_top_of.at_) fd := W.says.d.def_ 12 (d := Gl.d_top_of) rfl
theorem d_is_above (W : Wl g) : ∃ fd, FunD g.K Gl.d_is_above.name Gl.d_is_above.qual Gl.d_is_above.params Gl.d_is_above.body Gl.d_is_above.scope (Gl.d_is_above.dvs g.K) (Gl.d_is_above.kws g.K) (He.fAd g.K Gl.d_is_above.at_) fd := W.says.d.def_ 13 (d := Gl.d_is_above) rfl
theorem d_wholes (W : Wl g) : ∃ fd, FunD g.K Gl.d_wholes.name Gl.d_wholes.qual Gl.d_wholes.params Gl.d_wholes.body Gl.d_wholes.scope (Gl.d_wholes.dvs g.K) (Gl.d_wholes.kws g.K) (He.fAd g.K Gl.d_wholes.at_) fd := W.says.d.def_ 14 (d := Gl.d_wholes) rfl
theorem d_is_small (W : Wl g) : ∃ fd, FunD g.K Gl.d_is_small.name Gl.d_is_small.qual Gl.d_is_small.params Gl.d_is_small.body Gl.d_is_small.scope (Gl.d_is_small.dvs g.K) (Gl.d_is_small.kws g.K) (He.fAd g.K Gl.d_is_small.at_) fd := W.says.d.def_ 15 (d := Gl.d_is_small) rfl
theorem d_is_letters (W : Wl g) : ∃ fd, FunD g.K Gl.d_is_letters.name Gl.d_is_letters.qual Gl.d_is_letters.params Gl.d_is_letters.body Gl.d_is_letters.scope (Gl.d_is_letters.dvs g.K) (Gl.d_is_letters.kws g.K) (He.fAd g.K Gl.d_is_letters.at_) fd := W.says.d.def_ 16 (d := Gl.d_is_letters) rfl
theorem d_want_letters (W : Wl g) : ∃ fd, FunD g.K Gl.d_want_letters.name Gl.d_want_letters.qual Gl.d_want_letters.params Gl.d_want_letters.body Gl.d_want_letters.scope (Gl.d_want_letters.dvs g.K) (Gl.d_want_letters.kws g.K) (He.fAd g.K Gl.d_want_letters.at_) fd := W.says.d.def_ 17 (d := Gl.d_want_letters) rfl
theorem d_are_counts (W : Wl g) : ∃ fd, FunD g.K Gl.d_are_counts.name Gl.d_are_counts.qual Gl.d_are_counts.params Gl.d_are_counts.body Gl.d_are_counts.scope (Gl.d_are_counts.dvs g.K) (Gl.d_are_counts.kws g.K) (He.fAd g.K Gl.d_are_counts.at_) fd := W.says.d.def_ 18 (d := Gl.d_are_counts) rfl
theorem d_is_entry (W : Wl g) : ∃ fd, FunD g.K Gl.d_is_entry.name Gl.d_is_entry.qual Gl.d_is_entry.params Gl.d_is_entry.body Gl.d_is_entry.scope (Gl.d_is_entry.dvs g.K) (Gl.d_is_entry.kws g.K) (He.fAd g.K Gl.d_is_entry.at_) fd := W.says.d.def_ 19 (d := Gl.d_is_entry) rfl
theorem d_Amounts_init (W : Wl g) : ∃ fd, FunD g.K Gl.d_Amounts_init.name Gl.d_Amounts_init.qual Gl.d_Amounts_init.params Gl.d_Amounts_init.body Gl.d_Amounts_init.scope (Gl.d_Amounts_init.dvs g.K) (Gl.d_Amounts_init.kws g.K) (He.fAd g.K Gl.d_Amounts_init.at_) fd := W.says.d.def_ 20 (d := Gl.d_Amounts_init) rfl
theorem d_amounts_sorted (W : Wl g) : ∃ fd, FunD g.K Gl.d_amounts_sorted.name Gl.d_amounts_sorted.qual Gl.d_amounts_sorted.params Gl.d_amounts_sorted.body Gl.d_amounts_sorted.scope (Gl.d_amounts_sorted.dvs g.K) (Gl.d_amounts_sorted.kws g.K) (He.fAd g.K Gl.d_amounts_sorted.at_) fd := W.says.d.def_ 21 (d := Gl.d_amounts_sorted) rfl
theorem d_told_amounts (W : Wl g) : ∃ fd, FunD g.K Gl.d_told_amounts.name Gl.d_told_amounts.qual Gl.d_told_amounts.params Gl.d_told_amounts.body Gl.d_told_amounts.scope (Gl.d_told_amounts.dvs g.K) (Gl.d_told_amounts.kws g.K) (He.fAd g.K Gl.d_told_amounts.at_) fd := W.says.d.def_ 22 (d := Gl.d_told_amounts) rfl
theorem d_degree_of (W : Wl g) : ∃ fd, FunD g.K Gl.d_degree_of.name Gl.d_degree_of.qual Gl.d_degree_of.params Gl.d_degree_of.body Gl.d_degree_of.scope (Gl.d_degree_of.dvs g.K) (Gl.d_degree_of.kws g.K) (He.fAd g.K Gl.d_degree_of.at_) fd := W.says.d.def_ 23 (d := Gl.d_degree_of) rfl
theorem d_Blend_init (W : Wl g) : ∃ fd, FunD g.K Gl.d_Blend_init.name Gl.d_Blend_init.qual Gl.d_Blend_init.params Gl.d_Blend_init.body Gl.d_Blend_init.scope (Gl.d_Blend_init.dvs g.K) (Gl.d_Blend_init.kws g.K) (He.fAd g.K Gl.d_Blend_init.at_) fd := W.says.d.def_ 24 (d := Gl.d_Blend_init) rfl
theorem d_Blend_add (W : Wl g) : ∃ fd, FunD g.K Gl.d_Blend_add.name Gl.d_Blend_add.qual Gl.d_Blend_add.params Gl.d_Blend_add.body Gl.d_Blend_add.scope (Gl.d_Blend_add.dvs g.K) (Gl.d_Blend_add.kws g.K) (He.fAd g.K Gl.d_Blend_add.at_) fd := W.says.d.def_ 25 (d := Gl.d_Blend_add) rfl
theorem d_Blend_mul (W : Wl g) : ∃ fd, FunD g.K Gl.d_Blend_mul.name Gl.d_Blend_mul.qual Gl.d_Blend_mul.params Gl.d_Blend_mul.body Gl.d_Blend_mul.scope (Gl.d_Blend_mul.dvs g.K) (Gl.d_Blend_mul.kws g.K) (He.fAd g.K Gl.d_Blend_mul.at_) fd := W.says.d.def_ 26 (d := Gl.d_Blend_mul) rfl
theorem d_Blend_eq (W : Wl g) : ∃ fd, FunD g.K Gl.d_Blend_eq.name Gl.d_Blend_eq.qual Gl.d_Blend_eq.params Gl.d_Blend_eq.body Gl.d_Blend_eq.scope (Gl.d_Blend_eq.dvs g.K) (Gl.d_Blend_eq.kws g.K) (He.fAd g.K Gl.d_Blend_eq.at_) fd := W.says.d.def_ 27 (d := Gl.d_Blend_eq) rfl
theorem d_blend_of (W : Wl g) : ∃ fd, FunD g.K Gl.d_blend_of.name Gl.d_blend_of.qual Gl.d_blend_of.params Gl.d_blend_of.body Gl.d_blend_of.scope (Gl.d_blend_of.dvs g.K) (Gl.d_blend_of.kws g.K) (He.fAd g.K Gl.d_blend_of.at_) fd := W.says.d.def_ 28 (d := Gl.d_blend_of) rfl
theorem d_blends_added (W : Wl g) : ∃ fd, FunD g.K Gl.d_blends_added.name Gl.d_blends_added.qual Gl.d_blends_added.params Gl.d_blends_added.body Gl.d_blends_added.scope (Gl.d_blends_added.dvs g.K) (Gl.d_blends_added.kws g.K) (He.fAd g.K Gl.d_blends_added.at_) fd := W.says.d.def_ 29 (d := Gl.d_blends_added) rfl
theorem d_blends_multiplied (W : Wl g) : ∃ fd, FunD g.K Gl.d_blends_multiplied.name Gl.d_blends_multiplied.qual Gl.d_blends_multiplied.params Gl.d_blends_multiplied.body Gl.d_blends_multiplied.scope (Gl.d_blends_multiplied.dvs g.K) (Gl.d_blends_multiplied.kws g.K) (He.fAd g.K Gl.d_blends_multiplied.at_) fd := W.says.d.def_ 30 (d := Gl.d_blends_multiplied) rfl
theorem d_want_blend (W : Wl g) : ∃ fd, FunD g.K Gl.d_want_blend.name Gl.d_want_blend.qual Gl.d_want_blend.params Gl.d_want_blend.body Gl.d_want_blend.scope (Gl.d_want_blend.dvs g.K) (Gl.d_want_blend.kws g.K) (He.fAd g.K Gl.d_want_blend.at_) fd := W.says.d.def_ 31 (d := Gl.d_want_blend) rfl
theorem d_want_alike (W : Wl g) : ∃ fd, FunD g.K Gl.d_want_alike.name Gl.d_want_alike.qual Gl.d_want_alike.params Gl.d_want_alike.body Gl.d_want_alike.scope (Gl.d_want_alike.dvs g.K) (Gl.d_want_alike.kws g.K) (He.fAd g.K Gl.d_want_alike.at_) fd := W.says.d.def_ 32 (d := Gl.d_want_alike) rfl
theorem d_is_rising (W : Wl g) : ∃ fd, FunD g.K Gl.d_is_rising.name Gl.d_is_rising.qual Gl.d_is_rising.params Gl.d_is_rising.body Gl.d_is_rising.scope (Gl.d_is_rising.dvs g.K) (Gl.d_is_rising.kws g.K) (He.fAd g.K Gl.d_is_rising.at_) fd := W.says.d.def_ 33 (d := Gl.d_is_rising) rfl
theorem d_want_things_many (W : Wl g) : ∃ fd, FunD g.K Gl.d_want_things_many.name Gl.d_want_things_many.qual Gl.d_want_things_many.params Gl.d_want_things_many.body Gl.d_want_things_many.scope (Gl.d_want_things_many.dvs g.K) (Gl.d_want_things_many.kws g.K) (He.fAd g.K Gl.d_want_things_many.at_) fd := W.says.d.def_ 34 (d := Gl.d_want_things_many) rfl
theorem d_is_lot (W : Wl g) : ∃ fd, FunD g.K Gl.d_is_lot.name Gl.d_is_lot.qual Gl.d_is_lot.params Gl.d_is_lot.body Gl.d_is_lot.scope (Gl.d_is_lot.dvs g.K) (Gl.d_is_lot.kws g.K) (He.fAd g.K Gl.d_is_lot.at_) fd := W.says.d.def_ 35 (d := Gl.d_is_lot) rfl
theorem d_want_lots (W : Wl g) : ∃ fd, FunD g.K Gl.d_want_lots.name Gl.d_want_lots.qual Gl.d_want_lots.params Gl.d_want_lots.body Gl.d_want_lots.scope (Gl.d_want_lots.dvs g.K) (Gl.d_want_lots.kws g.K) (He.fAd g.K Gl.d_want_lots.at_) fd := W.says.d.def_ 36 (d := Gl.d_want_lots) rfl
theorem d_by_length (W : Wl g) : ∃ fd, FunD g.K Gl.d_by_length.name Gl.d_by_length.qual Gl.d_by_length.params Gl.d_by_length.body Gl.d_by_length.scope (Gl.d_by_length.dvs g.K) (Gl.d_by_length.kws g.K) (He.fAd g.K Gl.d_by_length.at_) fd := W.says.d.def_ 37 (d := Gl.d_by_length) rfl
theorem d_less (W : Wl g) : ∃ fd, FunD g.K Gl.d_less.name Gl.d_less.qual Gl.d_less.params Gl.d_less.body Gl.d_less.scope (Gl.d_less.dvs g.K) (Gl.d_less.kws g.K) (He.fAd g.K Gl.d_less.at_) fd := W.says.d.def_ 38 (d := Gl.d_less) rfl
theorem d_more_by (W : Wl g) : ∃ fd, FunD g.K Gl.d_more_by.name Gl.d_more_by.qual Gl.d_more_by.params Gl.d_more_by.body Gl.d_more_by.scope (Gl.d_more_by.dvs g.K) (Gl.d_more_by.kws g.K) (He.fAd g.K Gl.d_more_by.at_) fd := W.says.d.def_ 39 (d := Gl.d_more_by) rfl
theorem d_lacking_lot (W : Wl g) : ∃ fd, FunD g.K Gl.d_lacking_lot.name Gl.d_lacking_lot.qual Gl.d_lacking_lot.params Gl.d_lacking_lot.body Gl.d_lacking_lot.scope (Gl.d_lacking_lot.dvs g.K) (Gl.d_lacking_lot.kws g.K) (He.fAd g.K Gl.d_lacking_lot.at_) fd := W.says.d.def_ 40 (d := Gl.d_lacking_lot) rfl
theorem d_is_stuck (W : Wl g) : ∃ fd, FunD g.K Gl.d_is_stuck.name Gl.d_is_stuck.qual Gl.d_is_stuck.params Gl.d_is_stuck.body Gl.d_is_stuck.scope (Gl.d_is_stuck.dvs g.K) (Gl.d_is_stuck.kws g.K) (He.fAd g.K Gl.d_is_stuck.at_) fd := W.says.d.def_ 41 (d := Gl.d_is_stuck) rfl
theorem d_stuck_pair (W : Wl g) : ∃ fd, FunD g.K Gl.d_stuck_pair.name Gl.d_stuck_pair.qual Gl.d_stuck_pair.params Gl.d_stuck_pair.body Gl.d_stuck_pair.scope (Gl.d_stuck_pair.dvs g.K) (Gl.d_stuck_pair.kws g.K) (He.fAd g.K Gl.d_stuck_pair.at_) fd := W.says.d.def_ 42 (d := Gl.d_stuck_pair) rfl
theorem d_fault_of (W : Wl g) : ∃ fd, FunD g.K Gl.d_fault_of.name Gl.d_fault_of.qual Gl.d_fault_of.params Gl.d_fault_of.body Gl.d_fault_of.scope (Gl.d_fault_of.dvs g.K) (Gl.d_fault_of.kws g.K) (He.fAd g.K Gl.d_fault_of.at_) fd := W.says.d.def_ 43 (d := Gl.d_fault_of) rfl
theorem d_want_house (W : Wl g) : ∃ fd, FunD g.K Gl.d_want_house.name Gl.d_want_house.qual Gl.d_want_house.params Gl.d_want_house.body Gl.d_want_house.scope (Gl.d_want_house.dvs g.K) (Gl.d_want_house.kws g.K) (He.fAd g.K Gl.d_want_house.at_) fd := W.says.d.def_ 44 (d := Gl.d_want_house) rfl
theorem d_told_lots (W : Wl g) : ∃ fd, FunD g.K Gl.d_told_lots.name Gl.d_told_lots.qual Gl.d_told_lots.params Gl.d_told_lots.body Gl.d_told_lots.scope (Gl.d_told_lots.dvs g.K) (Gl.d_told_lots.kws g.K) (He.fAd g.K Gl.d_told_lots.at_) fd := W.says.d.def_ 45 (d := Gl.d_told_lots) rfl
theorem d_told_house (W : Wl g) : ∃ fd, FunD g.K Gl.d_told_house.name Gl.d_told_house.qual Gl.d_told_house.params Gl.d_told_house.body Gl.d_told_house.scope (Gl.d_told_house.dvs g.K) (Gl.d_told_house.kws g.K) (He.fAd g.K Gl.d_told_house.at_) fd := W.says.d.def_ 46 (d := Gl.d_told_house) rfl
theorem d_is_house (W : Wl g) : ∃ fd, FunD g.K Gl.d_is_house.name Gl.d_is_house.qual Gl.d_is_house.params Gl.d_is_house.body Gl.d_is_house.scope (Gl.d_is_house.dvs g.K) (Gl.d_is_house.kws g.K) (He.fAd g.K Gl.d_is_house.at_) fd := W.says.d.def_ 47 (d := Gl.d_is_house) rfl
theorem d_bad_lot (W : Wl g) : ∃ fd, FunD g.K Gl.d_bad_lot.name Gl.d_bad_lot.qual Gl.d_bad_lot.params Gl.d_bad_lot.body Gl.d_bad_lot.scope (Gl.d_bad_lot.dvs g.K) (Gl.d_bad_lot.kws g.K) (He.fAd g.K Gl.d_bad_lot.at_) fd := W.says.d.def_ 48 (d := Gl.d_bad_lot) rfl
theorem d_longest_of (W : Wl g) : ∃ fd, FunD g.K Gl.d_longest_of.name Gl.d_longest_of.qual Gl.d_longest_of.params Gl.d_longest_of.body Gl.d_longest_of.scope (Gl.d_longest_of.dvs g.K) (Gl.d_longest_of.kws g.K) (He.fAd g.K Gl.d_longest_of.at_) fd := W.says.d.def_ 49 (d := Gl.d_longest_of) rfl
theorem d_greatest (W : Wl g) : ∃ fd, FunD g.K Gl.d_greatest.name Gl.d_greatest.qual Gl.d_greatest.params Gl.d_greatest.body Gl.d_greatest.scope (Gl.d_greatest.dvs g.K) (Gl.d_greatest.kws g.K) (He.fAd g.K Gl.d_greatest.at_) fd := W.says.d.def_ 50 (d := Gl.d_greatest) rfl
theorem d_want_thing (W : Wl g) : ∃ fd, FunD g.K Gl.d_want_thing.name Gl.d_want_thing.qual Gl.d_want_thing.params Gl.d_want_thing.body Gl.d_want_thing.scope (Gl.d_want_thing.dvs g.K) (Gl.d_want_thing.kws g.K) (He.fAd g.K Gl.d_want_thing.at_) fd := W.says.d.def_ 51 (d := Gl.d_want_thing) rfl
theorem d_without (W : Wl g) : ∃ fd, FunD g.K Gl.d_without.name Gl.d_without.qual Gl.d_without.params Gl.d_without.body Gl.d_without.scope (Gl.d_without.dvs g.K) (Gl.d_without.kws g.K) (He.fAd g.K Gl.d_without.at_) fd := W.says.d.def_ 52 (d := Gl.d_without) rfl
theorem d_having (W : Wl g) : ∃ fd, FunD g.K Gl.d_having.name Gl.d_having.qual Gl.d_having.params Gl.d_having.body Gl.d_having.scope (Gl.d_having.dvs g.K) (Gl.d_having.kws g.K) (He.fAd g.K Gl.d_having.at_) fd := W.says.d.def_ 53 (d := Gl.d_having) rfl
theorem d_all_lots (W : Wl g) : ∃ fd, FunD g.K Gl.d_all_lots.name Gl.d_all_lots.qual Gl.d_all_lots.params Gl.d_all_lots.body Gl.d_all_lots.scope (Gl.d_all_lots.dvs g.K) (Gl.d_all_lots.kws g.K) (He.fAd g.K Gl.d_all_lots.at_) fd := W.says.d.def_ 54 (d := Gl.d_all_lots) rfl
theorem d_mirror (W : Wl g) : ∃ fd, FunD g.K Gl.d_mirror.name Gl.d_mirror.qual Gl.d_mirror.params Gl.d_mirror.body Gl.d_mirror.scope (Gl.d_mirror.dvs g.K) (Gl.d_mirror.kws g.K) (He.fAd g.K Gl.d_mirror.at_) fd := W.says.d.def_ 55 (d := Gl.d_mirror) rfl
theorem d_counts_of (W : Wl g) : ∃ fd, FunD g.K Gl.d_counts_of.name Gl.d_counts_of.qual Gl.d_counts_of.params Gl.d_counts_of.body Gl.d_counts_of.scope (Gl.d_counts_of.dvs g.K) (Gl.d_counts_of.kws g.K) (He.fAd g.K Gl.d_counts_of.at_) fd := W.says.d.def_ 56 (d := Gl.d_counts_of) rfl
theorem d_greatest_blend (W : Wl g) : ∃ fd, FunD g.K Gl.d_greatest_blend.name Gl.d_greatest_blend.qual Gl.d_greatest_blend.params Gl.d_greatest_blend.body Gl.d_greatest_blend.scope (Gl.d_greatest_blend.dvs g.K) (Gl.d_greatest_blend.kws g.K) (He.fAd g.K Gl.d_greatest_blend.at_) fd := W.says.d.def_ 57 (d := Gl.d_greatest_blend) rfl
theorem d_law_pot (W : Wl g) : ∃ fd, FunD g.K Gl.d_law_pot.name Gl.d_law_pot.qual Gl.d_law_pot.params Gl.d_law_pot.body Gl.d_law_pot.scope (Gl.d_law_pot.dvs g.K) (Gl.d_law_pot.kws g.K) (He.fAd g.K Gl.d_law_pot.at_) fd := W.says.d.def_ 58 (d := Gl.d_law_pot) rfl
theorem d_law_draw (W : Wl g) : ∃ fd, FunD g.K Gl.d_law_draw.name Gl.d_law_draw.qual Gl.d_law_draw.params Gl.d_law_draw.body Gl.d_law_draw.scope (Gl.d_law_draw.dvs g.K) (Gl.d_law_draw.kws g.K) (He.fAd g.K Gl.d_law_draw.at_) fd := W.says.d.def_ 59 (d := Gl.d_law_draw) rfl
theorem d_law_pick (W : Wl g) : ∃ fd, FunD g.K Gl.d_law_pick.name Gl.d_law_pick.qual Gl.d_law_pick.params Gl.d_law_pick.body Gl.d_law_pick.scope (Gl.d_law_pick.dvs g.K) (Gl.d_law_pick.kws g.K) (He.fAd g.K Gl.d_law_pick.at_) fd := W.says.d.def_ 60 (d := Gl.d_law_pick) rfl
theorem d_law_all (W : Wl g) : ∃ fd, FunD g.K Gl.d_law_all.name Gl.d_law_all.qual Gl.d_law_all.params Gl.d_law_all.body Gl.d_law_all.scope (Gl.d_law_all.dvs g.K) (Gl.d_law_all.kws g.K) (He.fAd g.K Gl.d_law_all.at_) fd := W.says.d.def_ 61 (d := Gl.d_law_all) rfl
theorem d_law_by_length (W : Wl g) : ∃ fd, FunD g.K Gl.d_law_by_length.name Gl.d_law_by_length.qual Gl.d_law_by_length.params Gl.d_law_by_length.body Gl.d_law_by_length.scope (Gl.d_law_by_length.dvs g.K) (Gl.d_law_by_length.kws g.K) (He.fAd g.K Gl.d_law_by_length.at_) fd := W.says.d.def_ 62 (d := Gl.d_law_by_length) rfl
theorem d_law_mixed (W : Wl g) : ∃ fd, FunD g.K Gl.d_law_mixed.name Gl.d_law_mixed.qual Gl.d_law_mixed.params Gl.d_law_mixed.body Gl.d_law_mixed.scope (Gl.d_law_mixed.dvs g.K) (Gl.d_law_mixed.kws g.K) (He.fAd g.K Gl.d_law_mixed.at_) fd := W.says.d.def_ 63 (d := Gl.d_law_mixed) rfl
theorem d_law_det (W : Wl g) : ∃ fd, FunD g.K Gl.d_law_det.name Gl.d_law_det.qual Gl.d_law_det.params Gl.d_law_det.body Gl.d_law_det.scope (Gl.d_law_det.dvs g.K) (Gl.d_law_det.kws g.K) (He.fAd g.K Gl.d_law_det.at_) fd := W.says.d.def_ 64 (d := Gl.d_law_det) rfl
theorem d_law_are_free (W : Wl g) : ∃ fd, FunD g.K Gl.d_law_are_free.name Gl.d_law_are_free.qual Gl.d_law_are_free.params Gl.d_law_are_free.body Gl.d_law_are_free.scope (Gl.d_law_are_free.dvs g.K) (Gl.d_law_are_free.kws g.K) (He.fAd g.K Gl.d_law_are_free.at_) fd := W.says.d.def_ 65 (d := Gl.d_law_are_free) rfl
theorem d_law_no_ring (W : Wl g) : ∃ fd, FunD g.K Gl.d_law_no_ring.name Gl.d_law_no_ring.qual Gl.d_law_no_ring.params Gl.d_law_no_ring.body Gl.d_law_no_ring.scope (Gl.d_law_no_ring.dvs g.K) (Gl.d_law_no_ring.kws g.K) (He.fAd g.K Gl.d_law_no_ring.at_) fd := W.says.d.def_ 66 (d := Gl.d_law_no_ring) rfl
theorem d_law_house (W : Wl g) : ∃ fd, FunD g.K Gl.d_law_house.name Gl.d_law_house.qual Gl.d_law_house.params Gl.d_law_house.body Gl.d_law_house.scope (Gl.d_law_house.dvs g.K) (Gl.d_law_house.kws g.K) (He.fAd g.K Gl.d_law_house.at_) fd := W.says.d.def_ 67 (d := Gl.d_law_house) rfl
theorem d_law_exchanged (W : Wl g) : ∃ fd, FunD g.K Gl.d_law_exchanged.name Gl.d_law_exchanged.qual Gl.d_law_exchanged.params Gl.d_law_exchanged.body Gl.d_law_exchanged.scope (Gl.d_law_exchanged.dvs g.K) (Gl.d_law_exchanged.kws g.K) (He.fAd g.K Gl.d_law_exchanged.at_) fd := W.says.d.def_ 68 (d := Gl.d_law_exchanged) rfl
theorem d_law_exchange_right (W : Wl g) : ∃ fd, FunD g.K Gl.d_law_exchange_right.name Gl.d_law_exchange_right.qual Gl.d_law_exchange_right.params Gl.d_law_exchange_right.body Gl.d_law_exchange_right.scope (Gl.d_law_exchange_right.dvs g.K) (Gl.d_law_exchange_right.kws g.K) (He.fAd g.K Gl.d_law_exchange_right.at_) fd := W.says.d.def_ 69 (d := Gl.d_law_exchange_right) rfl
theorem d_law_heavy_right (W : Wl g) : ∃ fd, FunD g.K Gl.d_law_heavy_right.name Gl.d_law_heavy_right.qual Gl.d_law_heavy_right.params Gl.d_law_heavy_right.body Gl.d_law_heavy_right.scope (Gl.d_law_heavy_right.dvs g.K) (Gl.d_law_heavy_right.kws g.K) (He.fAd g.K Gl.d_law_heavy_right.at_) fd := W.says.d.def_ 70 (d := Gl.d_law_heavy_right) rfl
theorem d_law_thing_right (W : Wl g) : ∃ fd, FunD g.K Gl.d_law_thing_right.name Gl.d_law_thing_right.qual Gl.d_law_thing_right.params Gl.d_law_thing_right.body Gl.d_law_thing_right.scope (Gl.d_law_thing_right.dvs g.K) (Gl.d_law_thing_right.kws g.K) (He.fAd g.K Gl.d_law_thing_right.at_) fd := W.says.d.def_ 71 (d := Gl.d_law_thing_right) rfl
theorem d_law_lines_right (W : Wl g) : ∃ fd, FunD g.K Gl.d_law_lines_right.name Gl.d_law_lines_right.qual Gl.d_law_lines_right.params Gl.d_law_lines_right.body Gl.d_law_lines_right.scope (Gl.d_law_lines_right.dvs g.K) (Gl.d_law_lines_right.kws g.K) (He.fAd g.K Gl.d_law_lines_right.at_) fd := W.says.d.def_ 72 (d := Gl.d_law_lines_right) rfl
theorem d_law_right (W : Wl g) : ∃ fd, FunD g.K Gl.d_law_right.name Gl.d_law_right.qual Gl.d_law_right.params Gl.d_law_right.body Gl.d_law_right.scope (Gl.d_law_right.dvs g.K) (Gl.d_law_right.kws g.K) (He.fAd g.K Gl.d_law_right.at_) fd := W.says.d.def_ 73 (d := Gl.d_law_right) rfl
theorem d_law (W : Wl g) : ∃ fd, FunD g.K Gl.d_law.name Gl.d_law.qual Gl.d_law.params Gl.d_law.body Gl.d_law.scope (Gl.d_law.dvs g.K) (Gl.d_law.kws g.K) (He.fAd g.K Gl.d_law.at_) fd := W.says.d.def_ 74 (d := Gl.d_law) rfl
end Wl
end Gl

namespace Gl
open PySem PySem.Spec L2 PyProof.Rows
variable {g : Pg}

section
variable {S : Sx} {q : Option Addr} {ρ : En} {d da db : Dt} {e a b c : Expr} {es : List Expr} {pos p : Pos} {x : Str} {k : Nat} {α : Type}
theorem ed_tyN (n : String) (hm : S.mg x = none) (hv : bootBuiltins x = some (.type n) := by decide +kernel) (hg : S.sc.names.lookup x = some .globalImplicit := by rfl) (hn : x ≠ "__name__" := by decide) (hd : (x == ("__debug__" : Str)) = false := by decide) :
    ED S (.Name x pos) ρ (.ty n) := ed_ty hm hv hg hn hd
theorem kit_eq {K : PySem.W.Frag} {n : String} : PySem.W.kitOne K (.type n) (.type n) = some true := by
  unfold PySem.W.kitOne
  rw [if_pos (by simp)]
theorem ed_allM {as : List α} {f : α → Bool} (ha : ED S a ρ (.lst (as.map fun z => .bl (f z)))) (hm : S.mg "all" = none) (hg : S.sc.names.lookup ("all" : Str) = some .globalImplicit := by rfl) (hs : ∀ env : Env, starEach [a] env = (false, eval a env) :: starEach [] env := by intro _; rfl) : ED S (.Call (.Name "all" p) [a] [] pos) ρ (.bl (as.all f)) := by
  have e : as.map (fun z => Dt.bl (f z)) = (as.map f).map .bl := by rw [List.map_map] <;> rfl
  rw [e] at ha
  refine (ed_allL ha hm hg hs).is ?_
  rw [List.all_map]
  rfl
theorem ed_anyM {as : List α} {f : α → Bool} (ha : ED S a ρ (.lst (as.map fun z => .bl (f z)))) (hm : S.mg "any" = none) (hg : S.sc.names.lookup ("any" : Str) = some .globalImplicit := by rfl) (hs : ∀ env : Env, starEach [a] env = (false, eval a env) :: starEach [] env := by intro _; rfl) : ED S (.Call (.Name "any" p) [a] [] pos) ρ (.bl (as.any f)) := by
  have e : as.map (fun z => Dt.bl (f z)) = (as.map f).map .bl := by rw [List.map_map] <;> rfl
  rw [e] at ha
  refine (ed_anyL ha hm hg hs).is ?_
  rw [List.any_map]
  rfl
theorem ed_sumM {as : List α} {f : α → Int} (ha : ED S a ρ (.lst (as.map fun z => .int (f z)))) (hm : S.mg "sum" = none) (hg : S.sc.names.lookup ("sum" : Str) = some .globalImplicit := by rfl) (hs : ∀ env : Env, starEach [a] env = (false, eval a env) :: starEach [] env := by intro _; rfl) : ED S (.Call (.Name "sum" p) [a] [] pos) ρ (.int (as.map f).sum) := by
  have e : as.map (fun z => Dt.int (f z)) = (as.map f).map .int := by rw [List.map_map] <;> rfl
  rw [e] at ha
  exact ed_sumL ha hm hg hs
theorem ed_tupM {as : List α} {f : α → Int} (ha : ED S a ρ (.lst (as.map fun z => .int (f z)))) (hm : S.mg "tuple" = none) (hg : S.sc.names.lookup ("tuple" : Str) = some .globalImplicit := by rfl) (hs : ∀ env : Env, starEach [a] env = (false, eval a env) :: starEach [] env := by intro _; rfl) : ED S (.Call (.Name "tuple" p) [a] [] pos) ρ (tI (as.map f)) := by
  have e : as.map (fun z => Dt.int (f z)) = (as.map f).map .int := by rw [List.map_map] <;> rfl
  rw [e] at ha
  exact ed_tupleL ha hm hg hs
theorem nat_cast {m : Int} {n : Nat} (h : ED S a ρ (.int m)) (e : m = (n : Int)) : ED S a ρ (.int (n : Int)) := e ▸ h
/-- an item of a tuple of ints, of a list of tuples, by a whole number that is there -/
theorem atI_nat {α : Type} {xs : List α} {i : Nat} {x : α} (h : xs[i]? = some x) : atI xs (i : Int) = some x := by
  have hl : i < xs.length := (List.getElem?_eq_some_iff.mp h).1
  unfold atI ixN
  (rw [if_pos (by omega), if_pos (by omega)])
  simpa using h
theorem ed_atT {ns : List Int} {i : Nat} {m : Int} (ha : ED S a ρ (tI ns)) (hb : ED S b ρ (.int (i : Int))) (h : ns[i]? = some m) (hs : PlainIx b := by exact fun _ _ => rfl) : ED S (.Subscript a b pos) ρ (.int m) :=
  ed_ixT ha hb (atI_nat (by rw [List.getElem?_map, h] <;> rfl)) hs
theorem ed_atL {ls : List α} {f : α → Dt} {i : Nat} {m : α} (ha : ED S a ρ (.lst (ls.map f))) (hb : ED S b ρ (.int (i : Int))) (h : ls[i]? = some m) (hs : PlainIx b := by exact fun _ _ => rfl) : ED S (.Subscript a b pos) ρ (f m) :=
  ed_ixL ha hb (atI_nat (by rw [List.getElem?_map, h] <;> rfl)) hs
theorem ed_lenI {ns : List Int} (ha : ED S a ρ (tI ns)) (hm : S.mg "len" = none) (hg : S.sc.names.lookup ("len" : Str) = some .globalImplicit := by rfl) (hs : ∀ env : Env, starEach [a] env = (false, eval a env) :: starEach [] env := by intro _; rfl) : ED S (.Call (.Name "len" p) [a] [] pos) ρ (.int ns.length) := by
  have h := ed_lenT (p := p) (pos := pos) ha hm hg hs
  rw [List.length_map] at h
  exact h
theorem ed_lenM {ls : List α} {f : α → Dt} (ha : ED S a ρ (.lst (ls.map f))) (hm : S.mg "len" = none) (hg : S.sc.names.lookup ("len" : Str) = some .globalImplicit := by rfl) (hs : ∀ env : Env, starEach [a] env = (false, eval a env) :: starEach [] env := by intro _; rfl) : ED S (.Call (.Name "len" p) [a] [] pos) ρ (.int ls.length) := by
  have h := ed_lenL (p := p) (pos := pos) ha hm hg hs
  rw [List.length_map] at h
  exact h
theorem iv_rangeZ {m : Int} {n : Nat} {tg : Expr} (h : ED S a ρ (.int m)) (e : m.toNat = n) (hn : -100000 < m ∧ m < 100000) (hm : S.mg "range" = none) (hg : S.sc.names.lookup ("range" : Str) = some .globalImplicit := by rfl) (hs : ∀ env : Env, starEach [a] env = [(false, eval a env)] := by intro _; rfl) :
    IV S tg (.Call (.Name "range" p) [a] [] pos) ρ ((List.range n).map fun (i : Nat) => .int (i : Int)) := fun X hX P σ H w er R k => by
  subst e
  refine wI.of (pi_range1 (hX.gl hg) (by rw [hX.mg]; exact hm) pa_w (hs X.env)) ?_
  refine (ea_cons h ea_nil (fun env => (hs env).trans rfl)) X hX P σ H w er _ fun vs H1 s1 r1 => ?_
  obtain ⟨v, r, e1, r2, r3⟩ := r1
  have e2 : v = .int m := r2
  have e3 : r = [] := r3
  subst e1 e2 e3
  have hl : ((List.range m.toNat).map fun (i : Nat) => Dt.int (i : Int)).length = m.toNat := by simp
  refine ⟨m, rfl, by omega, by omega, k _ H1 s1 ⟨fun i H s hi => ?_, fun i H s hi => ?_, fun P' wx i H x H' s pk hi y => ?_⟩⟩
  · rw [hl] at hi
    exact hi
  · rw [hl] at hi
    exact hi
  · obtain ⟨rfl, rfl⟩ := y
    rw [hl] at hi
    exact ⟨Same.refl _, .int (i : Int), by simp [hi], by rw [Int.zero_add] <;> rfl⟩
end

end Gl

namespace Gl
open PySem PySem.Spec L2 PyProof.Rows
variable {g : Pg}

/-- a pair (n, lot) -/
def dP (z : Int × List Int) : Dt := .tup [.int z.1, tI z.2]
theorem repL_paired {β : Type} {f : β → Dt} {H : Hp} : ∀ {bs : List β} {xs : List V}, RepL H (bs.map f) xs → Paired (fun x b => Rep H (f b) x) xs bs
  | [], xs, r => by
    rw [show xs = [] from r]
    exact .nil
  | b :: bs, xs, r => by
    obtain ⟨v, t, e, h, r⟩ := r
    rw [e]
    exact .cons h (repL_paired r)
theorem paired_repL {β : Type} {f : β → Dt} {H : Hp} : ∀ {bs : List β} {xs : List V}, Paired (fun x b => Rep H (f b) x) xs bs → RepL H (bs.map f) xs
  | _, _, .nil => rfl
  | _, _, .cons h r => ⟨_, _, rfl, h, paired_repL r⟩
section
variable {S : Sx} {q : Option Addr} {ρ : En} {d da db : Dt} {e a b c tg iter elt : Expr} {es : List Expr} {pos p : Pos} {x : Str} {k : Nat} {α : Type}
def rSortX {β : Type} (enc : β → PyData) (K : PySem.W.Frag) : List V → Hp → VK → Prop := fun vs H Q => ∃ T : β → V → Prop, rSortD enc T K vs H Q
theorem cr_sortX {β : Type} (enc : β → PyData) {X : Cx} (hu : X.A.units + 64 < cLine) : CallR X (.builtin "sorted") (rSortX enc X.K) := fun pins s σ H vs us Q I r ⟨T, h⟩ => cr_sortD enc T hu pins s σ H vs us Q I r h
theorem ed_sortG {β : Type} (enc : β → PyData) (f : β → Dt) (hD : ∀ (K : PySem.W.Frag) (P : Addr → Bool) (H : Hp) (b : β) (v : V), Rep (hid P H) (f b) v → Dp K H v (enc b)) (hal : ∀ b b', PySem.W.alike (enc b) (enc b') = true) {bs : List β}
    (hk : (∀ b ∈ bs, ∃ x r, enc b = .tuple (x :: r)) ∨ (bs.length ≤ 1 ∧ ∀ b, ∃ xs, enc b = .tuple xs)) (hdp : ∀ b, (enc b).depth ≤ 8) (ha : ED S a ρ (.lst (bs.map f))) (hl : bs.length ≤ 1000) (hm : S.mg "sorted" = none) (hg : S.sc.names.lookup ("sorted" : Str) = some .globalImplicit := by rfl)
    (hs : ∀ env : Env, starEach [a] env = (false, eval a env) :: starEach [] env := by intro _; rfl) : ED S (.Call (.Name "sorted" p) [a] [] pos) ρ (.lst ((bs.mergeSort (PySem.W.dataLe false enc)).map f)) :=
  ed_bi (r := rSortX enc S.K) (fun X hX => by rw [← hX.K]; exact cr_sortX enc hX.hu) (ha := ea_cons ha ea_nil hs) (he := hs) (hr := fun P H vs pk r0 Q z => by
    obtain ⟨v, rfl, r⟩ := r0.at1
    obtain ⟨l, ws, rfl, g, r⟩ := rep_lst r
    exact ⟨fun b x => Rep (hid P H) (f b) x, l, ws, bs, rfl, .inl (.inl g), repL_paired r, fun b x t => hD S.K P H b x t, hal, hk, hl, hdp, fun p2 ys n pr => z _ _ (same_new n) (rep_new_lst pk n (paired_repL pr))⟩) (hm := hm) (hg := hg)
theorem depth_encP (b : Int × List Int) : (encP b).depth = 2 := by
  unfold encP
  simp [PyData.depth, PyData.depthAll, depth_encT]
theorem ed_sortP {bs : List (Int × List Int)} (ha : ED S a ρ (.lst (bs.map dP))) (hl : bs.length ≤ 1000) (hm : S.mg "sorted" = none) (hg : S.sc.names.lookup ("sorted" : Str) = some .globalImplicit := by rfl) (hs : ∀ env : Env, starEach [a] env = (false, eval a env) :: starEach [] env := by intro _; rfl) :
    ED S (.Call (.Name "sorted" p) [a] [] pos) ρ (.lst ((bs.mergeSort pairLe).map dP)) := by
  rw [← le_encP]
  refine ed_sortG encP dP (fun K P H b v r => ?_) alike_encP (.inl fun b _ => ⟨_, _, rfl⟩) (fun b => by rw [depth_encP]; decide) ha hl hm hg hs
  obtain ⟨l, ws, rfl, g, r⟩ := rep_tup r
  obtain ⟨v1, v2, rfl, r1, r2⟩ := r.at2
  rw [show v1 = .int b.1 from r1] at g
  exact .tup (.inl (.inl g)) (.cons (.int b.1) (.cons (dp_tI r2) .nil))
theorem ed_sortT {ls : List (List Int)} (ha : ED S a ρ (lI ls)) (hk : (∀ l ∈ ls, l ≠ []) ∨ ls.length ≤ 1) (hl : ls.length ≤ 1000) (hm : S.mg "sorted" = none) (hg : S.sc.names.lookup ("sorted" : Str) = some .globalImplicit := by rfl) (hs : ∀ env : Env, starEach [a] env = (false, eval a env) :: starEach [] env := by intro _; rfl) :
    ED S (.Call (.Name "sorted" p) [a] [] pos) ρ (lI (sortR ls)) := by
  unfold sortR
  rw [← le_encT]
  refine ed_sortG encT tI (fun K P H b v r => dp_tI r) alike_encT ?_ (fun b => by rw [depth_encT]; decide) ha hl hm hg hs
  rcases hk with hk | hk
  · refine .inl fun l hl => ?_
    cases l with
    | nil => exact absurd rfl (hk _ hl)
    | cons x r => exact ⟨.int x, r.map .int, rfl⟩
  · exact .inr ⟨hk, fun b => ⟨b.map .int, rfl⟩⟩
end
/-! ### sorted of ints, of a list or of a tuple -/
def srtI (ns : List Int) : List Int := ns.mergeSort fun a b => decide (a ≤ b)
theorem srtI_of {ns l : List Int} (p : l.Perm ns) (s : l.Pairwise (· ≤ ·)) : l = srtI ns := by
  unfold srtI
  symm
  refine sort_one (le := fun a b : Int => decide (a ≤ b)) (fun x y z h1 h2 => ?_) (fun x y => ?_) (fun x y h1 h2 => ?_) p.symm (s.imp fun h => by simpa using h)
  · simp only [decide_eq_true_iff] at *
    omega
  · simp only [Bool.or_eq_true, decide_eq_true_iff]
    omega
  · simp only [decide_eq_true_iff] at *
    omega
def rSortTI (K : PySem.W.Frag) : List V → Hp → VK → Prop := fun vs H Q => ∃ (a : Addr) (ns : List Int), vs = [V.ref a] ∧ SqT K H a (ns.map V.int) ∧ ns.length < 64 ∧ ∀ (ns' : List Int) (p : Addr), ns'.Perm ns → ns'.Pairwise (· ≤ ·) → H p = none → Q (.ref p) (upd H p (.lst (ns'.map V.int)))
theorem cr_sortTI {X : Cx} : CallR X (.builtin "sorted") (rSortTI X.K) := by
  (intro pins s σ H vs us Q I r h)
  (obtain ⟨a, ns, rfl, hs, h64, q⟩ := h)
  (obtain ⟨its, rv, ⟨o, ho, hc, n, hd⟩, _⟩ := I.tuple hs)
  rw [Vals.ref1 r]
  have hi := rv.ints
  have hl : its.length = ns.length := hi.length
  (refine Calls.call_function_entry PyProof.Rows.kind_sorted PyProof.Rows.plain_sorted PyProof.Rows.entry_sorted (PyProof.Rows.args_sorted1 _) ?_)
  unfold Builtin.«sorted»
  (refine wpAny_bind (m := checkCount "sorted" 1 1 _) (wpAny_pure ?_))
  refine wpAny_bind (wpAny_collect_seq (A := X.A.in1) (hsz := by simp only [List.size_toArray]; exact small64 (by omega)) a (.inr rfl) ho hc hd fun h' hk => ?_)
  (have I1 : Inv X pins σ H { s with heap := h' } := I.kept (t' := s.toks) hk)
  refine wpAny_bind (wpAny_newList ?_ (by show its.length ≤ sizeLine; exact small64 (by omega)))
  have hoL : (h'.push (seqObj "list" its.toArray 0)).get? h'.objs.size = some (seqObj "list" its.toArray 0) := Heap.get?_push_size _ rfl
  show wpAny _ _ _ _ _ { s with heap := h'.push (seqObj "list" its.toArray 0) }
  refine wpAny_bind (wpAny_holding (wpAny_call_entry PyProof.Rows.slot_list_sort ⟨_, hoL, rfl⟩ PyProof.Rows.entry_list_sort (PyProof.Rows.list_sort_tree (s := { s with heap := h'.push (seqObj "list" its.toArray 0) }) hoL hi (by omega) fun out ys g1 g2 g3 => ⟨_, rfl, ?_⟩) (PyProof.Rows.args_list_sort _)))
  obtain ⟨e', he'⟩ := PyProof.Rows.sortedHeap_at (vs := its) (out := out) hoL
  have hlen : ((ys.map V.int).length ≤ sizeLine) := by
    (rw [List.length_map, g2.length_eq])
    exact small64 h64
  refine wpAny_pure ⟨_, rfl, .ref h'.objs.size, upd H h'.objs.size (.lst (ys.map V.int)), I1.laid (t' := s.toks) (fun b u e => ?_) (Nat.le_refl _) (show ObjOk X.prog X.w _ _ _ (.lst (ys.map V.int)) from ⟨hlen, out.toList, e', vals_of_ints g1, by rw [Array.toArray_toList]; exact he'⟩), rfl, q ys _ g2 g3 (I1.hok.fresh (Nat.le_refl _))⟩
  (have hb : b < h'.objs.size := Heap.lt_size e)
  (rw [PyProof.Rows.sortedHeap_old (Nat.ne_of_lt hb) (by rw [size_push']; exact Nat.lt_succ_of_lt hb)])
  (exact Heap.get?_push_of_some _ e)
section
variable {S : Sx} {ρ : En} {a : Expr} {pos p : Pos}
theorem ed_srtL {ns : List Int} (ha : ED S a ρ (.lst (ns.map .int))) (h0 : ns.length < 64) (hm : S.mg "sorted" = none) (hg : S.sc.names.lookup ("sorted" : Str) = some .globalImplicit := by rfl) (hs : ∀ env : Env, starEach [a] env = (false, eval a env) :: starEach [] env := by intro _; rfl) :
    ED S (.Call (.Name "sorted" p) [a] [] pos) ρ (.lst ((srtI ns).map .int)) := ed_sortI ha h0 (fun l p s => srtI_of p s) hm hg hs
theorem ed_srtT {ns : List Int} (ha : ED S a ρ (tI ns)) (h0 : ns.length < 64) (hm : S.mg "sorted" = none) (hg : S.sc.names.lookup ("sorted" : Str) = some .globalImplicit := by rfl) (hs : ∀ env : Env, starEach [a] env = (false, eval a env) :: starEach [] env := by intro _; rfl) :
    ED S (.Call (.Name "sorted" p) [a] [] pos) ρ (.lst ((srtI ns).map .int)) :=
  ed_bi (cl_of (r := rSortTI) fun X _ => cr_sortTI) (ha := ea_cons ha ea_nil hs) (he := hs) (hr := fun P H vs pk r0 Q z => by
    obtain ⟨v, rfl, r⟩ := r0.at1
    obtain ⟨l, ws, rfl, g, r⟩ := rep_tup r
    rw [r.of_ints] at g
    refine ⟨l, ns, rfl, .inl (.inl g), h0, fun l2 p2 h3 h4 h5 => ?_⟩
    rw [srtI_of h3 h4]
    exact z _ _ (same_new h5) (rep_new_lst pk h5 (RepL.ints _))) (hm := hm) (hg := hg)
end

end Gl

namespace Gl
open PySem PySem.Spec L2 PyProof.Rows

def ik (k : List Int) : List Key := k.map Sum.inl
theorem ik_inj {k k' : List Int} : ik k = ik k' ↔ k = k' := by
  unfold ik
  exact List.map_inj_right fun x y h => Sum.inl.inj h
theorem ik_kV (k : List Int) : (ik k).map kV = k.map V.int := by
  unfold ik
  rw [List.map_map]
  rfl
theorem rd_hid {P : Addr → Bool} {H : Hp} {a : Addr} {u : HO} (h : Rd (hid P H) a u) : Rd H a u := by
  rcases h with h | ⟨o, h⟩
  · exact .inl (hid_some h).2
  · exact .inr ⟨o, (hid_some h).2⟩
theorem rd_vis {P : Addr → Bool} {H : Hp} {a : Addr} {u : HO} (h : Rd (hid P H) a u) : P a = false := by
  rcases h with h | ⟨o, h⟩
  · exact (hid_some h).1
  · exact (hid_some h).1
theorem key_at {P : Addr → Bool} {H : Hp} {k : List Int} {y : V} (r : Rep (hid P H) (tI k) y) : ∃ b, y = .ref b ∧ H b = some (.tup ((ik k).map kV)) := by
  obtain ⟨b, vs, e, g, r⟩ := rep_tup r
  rw [r.of_ints] at g
  exact ⟨b, e, by rw [ik_kV]; exact g⟩
theorem RepK.val {H : Hp} : ∀ {kvs : List (List Int × Dt)} {ws : List (List Key × V)}, RepK H kvs ws → ∀ k : List Int, (kvs.lookup k = none → valV ws (ik k) = none) ∧ ∀ d, kvs.lookup k = some d → ∃ v, valV ws (ik k) = some v ∧ Rep H d v
  | [], ws, h, k => by
    rw [show ws = [] from h]
    exact ⟨fun _ => rfl, fun d e => by cases e⟩
  | (k0, d0) :: r, ws, h, k => by
    obtain ⟨v, t, e, g, h⟩ := h
    subst e
    have ih := RepK.val h k
    rw [List.lookup_cons]
    by_cases hk : k = k0
    · subst hk
      rw [show (k == k) = true from beq_self_eq_true k]
      refine ⟨fun z => (nomatch (show some d0 = none from z)), fun d z => ?_⟩
      have z2 : d0 = d := Option.some.inj z
      exact ⟨v, valV_pos rfl, z2 ▸ g⟩
    · rw [show (k == k0) = false from by simpa using hk]
      have e2 : valV ((ik k0, v) :: t) (ik k) = valV t (ik k) := by
        unfold valV
        rw [List.find?_cons]
        have e3 : decide (ik k0 = ik k) = false := decide_eq_false fun z => hk (ik_inj.mp z).symm
        simp only [e3]
      rw [show (List.map Sum.inl k0 : List Key) = ik k0 from rfl, e2]
      exact ih
theorem RepK.length {H : Hp} : ∀ {kvs : List (List Int × Dt)} {ws : List (List Key × V)}, RepK H kvs ws → ws.length = kvs.length
  | [], ws, h => by rw [show ws = [] from h] <;> rfl
  | (k0, d0) :: r, ws, h => by
    obtain ⟨v, t, e, g, h⟩ := h
    rw [e, List.length_cons, List.length_cons, RepK.length h]
theorem Sx.Has.hu1 {S : Sx} {X : Cx} (h : S.Has X) : X.A.units + 1 < cLine := by
  have := h.hu
  omega
def rLenD : List V → Hp → VK → Prop := fun xs H Q => ∃ (p : Addr) (kvs : List (List Key × V)), xs = [.ref p] ∧ Rd H p (.dT kvs) ∧ Q (.int ((kvs.length : Nat) : Int)) H
theorem cr_lenD {X : Cx} : CallR X (.builtin "len") rLenD := by
  (intro pins s σ H xs us Q I r h)
  (obtain ⟨p, kvs, rfl, hp, q⟩ := h)
  (obtain ⟨u, rfl, rx⟩ := vals1 r)
  obtain rfl : u = .ref p := rx
  obtain ⟨z, hd, ys, rel, dd⟩ := dt_rd I.hok hp
  (have hl : kvs.length = ys.length := Paired.length rel)
  (refine call_len_dictH hd dd (by rw [← hl]; rw [sizeLine_eq] at z; omega) ?_)
  rw [← hl]
  (exact ⟨.int ((kvs.length : Nat) : Int), H, I.tok _, ⟨_, rfl⟩, q⟩)

section
variable {S : Sx} {q : Option Addr} {ρ : En} {d da db : Dt} {e a b c tg iter elt : Expr} {es : List Expr} {pos p : Pos} {x : Str} {k : Nat} {kk : List Int} {kvs : List (List Int × Dt)}
theorem ed_getD (ha : ED S a ρ (.dic kvs)) (hb : ED S b ρ (tI kk)) (h : kvs.lookup kk = some d) (hs : NoSl b := by exact fun _ _ => rfl) : ED S (.Subscript a b pos) ρ d := fun X hX P σ H w er Q z => by
  refine wE.of (pe_dget hX.hu1 pe_w pe_w hs) ?_
  refine ha X hX P σ H w er _ fun v H1 s1 r1 => ?_
  refine hb X hX P σ H1 (w.same s1) (er.same s1.hid) _ fun u H2 s2 r2 => ?_
  obtain ⟨a, ws, rfl, rd, rk⟩ := r1.same s2.hid
  obtain ⟨bb, e, g⟩ := key_at r2
  obtain ⟨x, hx, rx⟩ := (rk.val kk).2 d h
  exact ⟨a, x, rfl, .inr ⟨ws, ik kk, bb, rd_hid rd, e, g, hx.symm⟩, z x H2 (s1.trans s2) rx⟩
theorem RepK.some {H : Hp} {ws : List (List Key × V)} (rk : RepK H kvs ws) (k : List Int) : (valV ws (ik k)).isSome = (kvs.lookup k).isSome := by
  cases e : kvs.lookup k with
  | none => rw [(rk.val k).1 e] <;> rfl
  | some d =>
    obtain ⟨v, h, _⟩ := (rk.val k).2 d e
    rw [h]
    rfl
theorem ec_inD (ha : ED S a ρ (tI kk)) (hb : ED S b ρ (.dic kvs)) : EC S .In a b ρ (.bl (kvs.lookup kk).isSome) := fun X hX P σ H w er Q z => by
  refine wC.of (pc_din hX.hu1 pe_w pe_w) ?_
  refine ha X hX P σ H w er _ fun v H1 s1 r1 => ?_
  refine hb X hX P σ H1 (w.same s1) (er.same s1.hid) _ fun u H2 s2 r2 => ?_
  obtain ⟨a, ws, rfl, rd, rk⟩ := r2
  obtain ⟨bb, e, g⟩ := key_at (r1.same s2.hid)
  refine ⟨a, _, rfl, .inr ⟨ws, ik kk, bb, rd_hid rd, e, g, rfl⟩, ?_⟩
  rw [rk.some]
  exact z _ H2 (s1.trans s2) rfl
theorem ec_niD (ha : ED S a ρ (tI kk)) (hb : ED S b ρ (.dic kvs)) : EC S .NotIn a b ρ (.bl (!(kvs.lookup kk).isSome)) := fun X hX P σ H w er Q z => by
  refine wC.of (pc_dnotin hX.hu1 pe_w pe_w) ?_
  refine ha X hX P σ H w er _ fun v H1 s1 r1 => ?_
  refine hb X hX P σ H1 (w.same s1) (er.same s1.hid) _ fun u H2 s2 r2 => ?_
  obtain ⟨a, ws, rfl, rd, rk⟩ := r2
  obtain ⟨bb, e, g⟩ := key_at (r1.same s2.hid)
  refine ⟨a, _, rfl, .inr ⟨ws, ik kk, bb, rd_hid rd, e, g, rfl⟩, ?_⟩
  rw [rk.some]
  exact z _ H2 (s1.trans s2) rfl
theorem ed_lenD (ha : ED S a ρ (.dic kvs)) (hm : S.mg "len" = none) (hg : S.sc.names.lookup ("len" : Str) = some .globalImplicit := by rfl) (hs : ∀ env : Env, starEach [a] env = (false, eval a env) :: starEach [] env := by intro _; rfl) : ED S (.Call (.Name "len" p) [a] [] pos) ρ (.int kvs.length) :=
  ed_bi (fun X _ => cr_lenD) (ha := ea_cons ha ea_nil hs) (he := hs) (hr := fun P H vs pk r0 Q z => by
    obtain ⟨v, rfl, r⟩ := r0.at1
    obtain ⟨l, ws, rfl, rd, r⟩ := r
    refine ⟨l, ws, rfl, rd_hid rd, ?_⟩
    rw [r.length]
    exact z _ H (Same.refl H) rfl) (hm := hm) (hv := PySem.boot_len) (hg := hg)
end

/-! ### dict(list of pairs) -/
abbrev Pq : Type := Addr × Addr × List Key × V
def rDictP : List V → Hp → VK → Prop := fun vs H Q => ∃ (l : Addr) (ps : List Pq), vs = [.ref l] ∧ H l = some (.lst (ps.map fun p => .ref p.1)) ∧ (∀ p ∈ ps, H p.1 = some (.tup [.ref p.2.1, p.2.2.2]) ∧ H p.2.1 = some (.tup (p.2.2.1.map kV))) ∧
  (ps.map fun p => p.2.2.1).Nodup ∧ ps.length ≤ 1000 ∧ ∀ d, H d = none → Q (.ref d) (upd H d (.dT (ps.map fun p => (p.2.2.1, p.2.2.2))))
theorem vals_ref_eq : ∀ {as : List Addr} {us : List Value}, Vals (as.map V.ref) us → us = as.map Value.ref
  | [], _, .nil => rfl
  | a :: as, _, .cons r t => by
    cases r
    rw [vals_ref_eq t] <;> rfl
theorem pairs_of {X : Cx} {pins : List (Addr × Obj)} {σ : L2.St} {H : Hp} {s : Shared} (I : Inv X pins σ H s) : ∀ ps : List Pq, (∀ p ∈ ps, H p.1 = some (.tup [.ref p.2.1, p.2.2.2]) ∧ H p.2.1 = some (.tup (p.2.2.1.map kV))) →
    ∃ xs : List (List Key × Addr × Value), Paired (fun (p : Pq) (x : List Key × Addr × Value) => p.2.2.1 = x.1 ∧ p.2.1 = x.2.1 ∧ H x.2.1 = some (.tup (x.1.map kV)) ∧ RelV p.2.2.2 x.2.2 ∧ s.heap.IsTuple p.1 #[.ref x.2.1, x.2.2]) ps xs
  | [], _ => ⟨[], .nil⟩
  | p :: ps, h => by
    obtain ⟨xs, pr⟩ := pairs_of I ps fun q hq => h q (List.mem_cons_of_mem _ hq)
    obtain ⟨h1, h2⟩ := h p List.mem_cons_self
    obtain ⟨its, rv, it, _⟩ := I.tuple (.inl (.inl h1))
    cases rv with
    | cons r rv =>
      cases rv with
      | cons r2 rv =>
        cases rv
        cases r
        exact ⟨(p.2.2.1, p.2.1, _) :: xs, .cons ⟨rfl, rfl, h2, r2, it⟩ pr⟩
theorem pairedAt {α β : Type} {R : α → β → Prop} : ∀ {as : List α} {bs : List β}, Paired R as bs → ∀ {j : Nat} {b : β}, bs[j]? = some b → ∃ a, as[j]? = some a ∧ R a b
  | _, _, .nil, j, b, e => by simp at e
  | _, _, .cons h t, 0, b, e => by
    have e2 := Option.some.inj e
    subst e2
    exact ⟨_, rfl, h⟩
  | _, _, .cons h t, j + 1, b, e => by
    have e2 : _ := e
    rw [List.getElem?_cons_succ] at e2
    obtain ⟨a, h1, h2⟩ := pairedAt t e2
    exact ⟨a, by rw [List.getElem?_cons_succ]; exact h1, h2⟩
theorem pairedMem {α β : Type} {R : α → β → Prop} {as : List α} {bs : List β} (p : Paired R as bs) {b : β} (h : b ∈ bs) : ∃ a, R a b := by
  obtain ⟨j, hj⟩ := List.getElem?_of_mem h
  obtain ⟨a, _, r⟩ := pairedAt p hj
  exact ⟨a, r⟩
theorem pairedMap {α β γ : Type} {R : α → β → Prop} {f : α → γ} {h : β → γ} (e : ∀ a b, R a b → f a = h b) : ∀ {as : List α} {bs : List β}, Paired R as bs → as.map f = bs.map h
  | _, _, .nil => rfl
  | _, _, .cons r t => by rw [List.map_cons, List.map_cons, e _ _ r, pairedMap e t]
theorem pairedConv {α β γ : Type} {R : α → β → Prop} {R2 : γ → β → Prop} {f : α → γ} (e : ∀ a b, R a b → R2 (f a) b) : ∀ {as : List α} {bs : List β}, Paired R as bs → Paired R2 (as.map f) bs
  | _, _, .nil => .nil
  | _, _, .cons r t => .cons (e _ _ r) (pairedConv e t)
theorem cr_dictP {X : Cx} (hc : X.calm = true) (hu : X.A.units + 64 < cLine) : CallR X (.type "dict") rDictP := by
  (intro pins s σ H vs us Q I r h)
  obtain ⟨l, ps, rfl, g, hp, nd, hz, q⟩ := h
  obtain ⟨_, its, n, rv, _, hl⟩ := I.lstM g
  rw [Vals.ref1 r]
  obtain ⟨xs, pr⟩ := pairs_of I ps hp
  have e1 : its = ps.map fun p => Value.ref p.1 := by
    have h1 : Vals ((ps.map fun p => p.1).map V.ref) its := by rw [List.map_map]; exact rv
    rw [vals_ref_eq h1, List.map_map]
    rfl
  have hlen : ps.length = xs.length := Paired.length pr
  let qs : List (Value × Value) := xs.map fun x => (Value.ref x.2.1, x.2.2)
  have hql : qs.length = ps.length := by simp [qs, hlen]
  have hkx : (ps.map fun p => p.2.2.1) = xs.map (·.1) := pairedMap (fun a b r => r.1) pr
  have hnd : (xs.map (·.1)).Nodup := by rw [← hkx]; exact nd
  have hs0 : PlainSeq "list" s.heap l its.toArray := ⟨_, n, hl, rfl, rfl, rfl⟩
  have hpi : PairItems s.heap its.toArray (fun j => (ps[j]?.map (·.1)).getD 0) qs := by
    refine ⟨by simp [hql, e1], fun j k v hj => ?_⟩
    rw [List.getElem?_map] at hj
    cases hx : xs[j]? with
    | none =>
      rw [hx] at hj
      cases hj
    | some x =>
      rw [hx] at hj
      have hj2 := Option.some.inj hj
      obtain ⟨p, hpj, r1, r2, r3, r4, r5⟩ := pairedAt pr hx
      cases hj2
      refine ⟨?_, .inl ?_⟩
      · show its.toArray[j]? = some (Value.ref ((ps[j]?.map (·.1)).getD 0))
        rw [List.getElem?_toArray, e1, List.getElem?_map, hpj]
        rfl
      · show s.heap.IsTuple ((ps[j]?.map (·.1)).getD 0) _
        rw [hpj]
        exact r5
  have hsl : ps.length ≤ sizeLine := Nat.le_of_lt (small1000 hz)
  refine call_dict_pairsH (knd := tupleKind (mixKind X.prog X.w)) (ps := xs) (PairArg.list l its.toArray (fun j => (ps[j]?.map (·.1)).getD 0) qs) (I.ok.hd hc) (tupleKind_room_in1 (by show X.A.units + 1 + 1 < cLine; omega)) ⟨hs0, hpi⟩ ⟨by rw [hql, hlen], fun i key v hr => ?_⟩ ?_ (by rw [hql]; exact hsl) fun h' tk hd hk => ?_
  · have hr2 : qs[i]? = some (key, v) := hr
    rw [List.getElem?_map] at hr2
    cases hx : xs[i]? with
    | none =>
      rw [hx] at hr2
      cases hr2
    | some x =>
      rw [hx] at hr2
      have := Option.some.inj hr2
      cases this
      exact ⟨x.1, x.2.1, rfl, rfl⟩
  · intro h' hk x hx
    obtain ⟨p, r1, r2, r3, r4, r5⟩ := pairedMem pr hx
    obtain ⟨o, its2, n2, k1, k2, k3, k4⟩ := key_of I.hok r3
    exact ⟨o, its2, n2, hk _ _ (Nat.ne_of_lt (Heap.lt_size k1)) (by simp) k1, k2, k3, k4⟩
  · rw [storedAllH_nil_of_nodup xs hnd] at hd
    obtain ⟨o, es, ep, d1, d2, d3, d4, d5, d6⟩ := hd
    have hbig := I.big
    refine ⟨.ref s.heap.objs.size, _, I.laid (t' := tk) (o := .dT (ps.map fun p => (p.2.2.1, p.2.2.2))) (fun b o e => hk b o (by simp) e) (Nat.le_refl _) ⟨by rw [List.length_map]; exact hsl, ?_, xs, pairedConv (fun p x r => ⟨r.1, ?_, r.2.2.2.1⟩) pr, o, es, ep, d1, d2, d3, d4, d6⟩, rfl, q _ (I.hok.fresh (Nat.le_refl _))⟩
    · exact beq_eq_false_iff_ne.mpr (Nat.ne_of_gt hbig)
    · have e3 : H x.2.1 = some (.tup (p.2.2.1.map kV)) := by
        rw [r.1]
        exact r.2.2.1
      rw [upd_ne (ne_of_none e3 (I.hok.fresh (Nat.le_refl _)))]
      exact e3
end Gl

namespace Gl
open PySem PySem.Spec L2 PyProof.Rows

theorem pairedImp {α β : Type} {R R2 : α → β → Prop} (e : ∀ a b, R a b → R2 a b) : ∀ {as : List α} {bs : List β}, Paired R as bs → Paired R2 as bs
  | _, _, .nil => .nil
  | _, _, .cons r t => .cons (e _ _ r) (pairedImp e t)
theorem rep_new_dic {P : Addr → Bool} {H : Hp} {l : Addr} {kvs : List (List Int × Dt)} {ws : List (List Key × V)} (pk : Pok P H) (n : H l = none) (r : RepK (hid P H) kvs ws) : Rep (hid P (upd H l (.dT ws))) (.dic kvs) (.ref l) :=
  ⟨l, ws, rfl, .inl (hid_upd pk n), r.same (same_new n).hid⟩
theorem repL_pairs {P : Addr → Bool} {H : Hp} : ∀ {ls : List (List Int × Dt)} {ws : List V}, RepL (hid P H) (ls.map fun p => .tup [tI p.1, p.2]) ws →
    ∃ ps : List Pq, ws = ps.map (fun p => .ref p.1) ∧ (∀ p ∈ ps, H p.1 = some (.tup [.ref p.2.1, p.2.2.2]) ∧ H p.2.1 = some (.tup (p.2.2.1.map kV))) ∧ RepK (hid P H) ls (ps.map fun p => (p.2.2.1, p.2.2.2)) ∧ (ps.map fun p => p.2.2.1) = ls.map fun p => ik p.1
  | [], ws, r => ⟨[], by rw [show ws = [] from r] <;> rfl, fun p h => (nomatch h), rfl, rfl⟩
  | l :: ls, ws, r => by
    obtain ⟨v, t, e, r1, r2⟩ := r
    obtain ⟨ps, e2, h2, k2, n2⟩ := repL_pairs r2
    obtain ⟨a, vs, e3, g, r3⟩ := rep_tup r1
    obtain ⟨x, y, e4, r5, r6⟩ := r3.at2
    obtain ⟨b, e7, g2⟩ := key_at r5
    subst e e2 e3 e4 e7
    refine ⟨(a, b, ik l.1, y) :: ps, rfl, fun p hp => ?_, ⟨y, _, rfl, r6, k2⟩, by rw [List.map_cons, List.map_cons, n2]⟩
    (rcases List.mem_cons.mp hp with rfl | hp)
    · exact ⟨g, g2⟩
    · exact h2 p hp
def rDictC (P : Program) (w : World) : List V → Hp → VK → Prop := fun vs H Q => ∃ (a : Addr) (ws : List (List Key × V)), vs = [.ref a] ∧ Rd H a (.dT ws) ∧ (ws.map fun x => (tupleKind (mixKind P w)).hash x.1).Nodup ∧ ∀ d, H d = none → Q (.ref d) (upd H d (.dT ws))
theorem cr_dictC {X : Cx} (hu : X.A.units + 64 < cLine) : CallR X (.type "dict") (rDictC X.prog X.w) := by
  intro pins s σ H vs us Q I rr hh
  obtain ⟨a, ws, rfl, rd, hap, q⟩ := hh
  rw [Vals.ref1 rr]
  obtain ⟨z, hd, xs, rel, dd⟩ := dt_rd I.hok rd
  have hkx : ws.map (·.1) = xs.map (·.1) := pairedMap (fun _ _ h => h.1) rel
  have hap2 : (xs.map fun x => (tupleKind (mixKind X.prog X.w)).hash x.1).Nodup := by
    have e : (xs.map fun x => (tupleKind (mixKind X.prog X.w)).hash x.1) = (xs.map (·.1)).map (tupleKind (mixKind X.prog X.w)).hash := by
      rw [List.map_map]
      rfl
    rw [e, ← hkx, List.map_map]
    exact hap
  have hnd : (xs.map (·.1)).Nodup := Heap.DictOfH.nodup dd
  have hz : xs.length ≤ sizeLine := by
    rw [← Paired.length rel]
    exact z
  have hlt : a < s.heap.objs.size := by
    obtain ⟨o, es, ep, g1, _⟩ := dd
    exact Heap.lt_size g1
  have hbig := I.big
  have hdo : s.heap.objs.size ≠ a := Nat.ne_of_gt hlt
  (refine callType_codes (Q₁ := fun obj s₁ => obj = .ref s.heap.objs.size ∧ s₁ = { s with heap := s.heap.push { cls := .type "dict", data := .dict #[] } }) F.kt_called_dict (F.kt_typeCall_dict_1 _) F.entry_dict_init (kt_code_dict_new _ ⟨rfl, rfl⟩) ?_)
  rintro nd s1 ⟨rfl, rfl⟩
  (have hT : Shared.TypeIs { s with heap := s.heap.push { cls := .type "dict", data := .dict #[] } } (.ref s.heap.objs.size) "dict" := ⟨_, Heap.get?_push_size _ rfl, rfl⟩)
  have dd1 : (s.heap.push { cls := .type "dict", data := .dict #[] }).DictOfH (tupleKind (mixKind X.prog X.w)) a xs := by
    obtain ⟨o, es, ep, g1, g2, g3, g4, g5, g6⟩ := dd
    refine ⟨o, es, ep, Heap.get?_push_of_some _ g1, g2, g3, g4, fun x hx => ?_, g6⟩
    obtain ⟨o2, its2, n2, k1, k2, k3, k4⟩ := g5 x hx
    exact ⟨o2, its2, n2, Heap.get?_push_of_some _ k1, k2, k3, k4⟩
  (refine ⟨hT, F.args_dict_init_2 _ _, ?_⟩)
  unfold Builtin.«dict.__init__»; refine wpAny_bind ?_
  unfold Builtin.Dict.selfAndRest; refine wpAny_bind (wpAny_notOrdered_dict hT ?_)
  show wpAny _ _ (pure (s.heap.objs.size, [Value.ref a])) _ _ _; refine wpAny_pure ?_
  refine updateFrom_dictH (A := X.A.in1) (knd := tupleKind (mixKind X.prog X.w)) (kvs := []) (more := xs) (R := wants (fun r s₂ => r = .none ∧ EP X pins σ Q (.ref s.heap.objs.size) s₂) X.xe) .none (tupleKind_room_in1 (by show X.A.units + 1 + 1 < cLine; omega)) hdo hd (Heap.DictOfH.new s.heap) dd1 (.inr ⟨fun x hx => ?_, hap2⟩) (by simpa using hz) fun h' d1 d2 sb => ?_
  · obtain ⟨o, es, ep, g1, g2, g3, g4, g5, g6⟩ := dd1
    exact IsTupleKey.typeIs (g5 x hx)
  · rw [storedAllH_nil_of_nodup xs hnd] at d1
    obtain ⟨o, es, ep, e1, e2, e3, e4, e5, e6⟩ := d1
    have kp : ∀ b ob, s.heap.get? b = some ob → h'.get? b = some ob := fun b ob g => (sb.2 b (Nat.ne_of_lt (Heap.lt_size g))).trans (Heap.get?_push_of_some _ g)
    refine ⟨rfl, .ref s.heap.objs.size, _, I.laid (t' := s.toks) (o := .dT ws) kp (Nat.le_refl _) ⟨z, beq_eq_false_iff_ne.mpr (Nat.ne_of_gt hbig), xs, pairedImp (fun p x r => ⟨r.1, ?_, r.2.2⟩) rel, o, es, ep, e1, e2, e3, e4, e6⟩, rfl, q _ (I.hok.fresh (Nat.le_refl _))⟩
    have e3 := r.2.1
    rw [upd_ne (ne_of_none e3 (I.hok.fresh (Nat.le_refl _)))]
    exact e3
section
variable {S : Sx} {ρ : En} {a : Expr} {pos p : Pos} {kvs : List (List Int × Dt)}
theorem ed_dictP (ha : ED S a ρ (.lst (kvs.map fun p => .tup [tI p.1, p.2]))) (nd : (kvs.map (·.1)).Nodup) (hl : kvs.length ≤ 1000) (hm : S.mg "dict" = none) (hg : S.sc.names.lookup ("dict" : Str) = some .globalImplicit := by rfl) (hs : ∀ env : Env, starEach [a] env = (false, eval a env) :: starEach [] env := by intro _; rfl) :
    ED S (.Call (.Name "dict" p) [a] [] pos) ρ (.dic kvs) :=
  ed_ct (fun X hX => cr_dictP hX.calm hX.hu) (ha := ea_cons ha ea_nil hs) (he := hs) (hr := fun P H vs pk r0 Q z => by
    obtain ⟨v, rfl, r⟩ := r0.at1
    obtain ⟨l, ws, rfl, g, r⟩ := rep_lst r
    obtain ⟨ps, rfl, h1, h2, h3⟩ := repL_pairs r
    have hlen : ps.length = kvs.length := by
      have := congrArg List.length h3
      simpa using this
    refine ⟨l, ps, rfl, g, h1, ?_, by omega, fun d2 n => z _ _ (same_new n) (rep_new_dic pk n h2)⟩
    rw [h3]
    have e : kvs.map (fun p => ik p.1) = (kvs.map (·.1)).map ik := by
      rw [List.map_map]
      rfl
    rw [e]
    exact nd.map ik fun x y hxy e => hxy (ik_inj.mp e)) (hm := hm) (hg := hg)
theorem repK_keys {H : Hp} : ∀ {kvs : List (List Int × Dt)} {ws : List (List Key × V)}, RepK H kvs ws → ws.map (·.1) = kvs.map fun p => ik p.1
  | [], ws, h => by rw [show ws = [] from h] <;> rfl
  | (k0, d0) :: r, ws, h => by
    obtain ⟨v, t, e, g, h⟩ := h
    rw [e, List.map_cons, List.map_cons, repK_keys h]
    rfl
def hashK (k : List Int) : Int := reduceHash (Builtin.Tuple.tupleHashOf (k.map hashInt))
theorem hash_ik (P : Program) (w : World) (k : List Int) : (tupleKind (mixKind P w)).hash (ik k) = hashK k := by
  show reduceHash (Builtin.Tuple.tupleHashOf ((ik k).map (keyH w))) = _
  unfold ik
  rw [List.map_map]
  rfl
theorem ed_dictC (ha : ED S a ρ (.dic kvs)) (hh : (kvs.map fun p => hashK p.1).Nodup) (hm : S.mg "dict" = none) (hg : S.sc.names.lookup ("dict" : Str) = some .globalImplicit := by rfl) (hs : ∀ env : Env, starEach [a] env = (false, eval a env) :: starEach [] env := by intro _; rfl) :
    ED S (.Call (.Name "dict" p) [a] [] pos) ρ (.dic kvs) :=
  ed_ct (r := rDictC S.prog S.w) (fun X hX => by rw [← hX.prog, ← hX.w]; exact cr_dictC hX.hu) (ha := ea_cons ha ea_nil hs) (he := hs) (hr := fun P H vs pk r0 Q z => by
    obtain ⟨v, rfl, r⟩ := r0.at1
    obtain ⟨l, ws, rfl, rd, r⟩ := r
    refine ⟨l, ws, rfl, rd_hid rd, ?_, fun d2 n => z _ _ (same_new n) (rep_new_dic pk n r)⟩
    have e : (ws.map fun x => (tupleKind (mixKind S.prog S.w)).hash x.1) = (ws.map (·.1)).map (tupleKind (mixKind S.prog S.w)).hash := by
      rw [List.map_map]
      rfl
    rw [e, repK_keys r, List.map_map]
    have e2 : kvs.map ((tupleKind (mixKind S.prog S.w)).hash ∘ fun p => ik p.1) = kvs.map fun p => hashK p.1 := List.map_congr_left fun p _ => hash_ik S.prog S.w p.1
    rw [e2]
    exact hh) (hm := hm) (hg := hg)
end
end Gl

namespace Gl
open PySem PySem.Spec L2 PyProof.Rows

theorem reads_ints {h : Heap} : ∀ {ns : List Int} {us : List Value}, Vals (ns.map V.int) us → ReadsAll h us (ns.map .int) []
  | [], _, .nil => .nil
  | n :: ns, _, .cons r t => by
    obtain ⟨tk, rfl⟩ := r
    exact .cons (as := []) (bs := []) (.int n tk) (reads_ints t)
theorem reads_tup {X : Cx} {pins : List (Addr × Obj)} {σ : L2.St} {H : Hp} {s : Shared} {b : Addr} {ns : List Int} (I : Inv X pins σ H s) (h : H b = some (.tup (ns.map V.int))) : Reads s.heap (.ref b) (encT ns) [] := by
  obtain ⟨its, rv, ⟨o, ho, hc, n, hd⟩, _⟩ := I.tuple (.inl (.inl h))
  exact .tuple ho hc hd (by simpa using reads_ints rv)
/-- a key, in sight -/
def KeyV (H : Hp) (y : V) (k : List Int) : Prop := ∃ b, y = .ref b ∧ H b = some (.tup ((ik k).map kV))
def rSortDK : List V → Hp → VK → Prop := fun vs H Q => ∃ (a : Addr) (ws : List (List Key × V)) (ks : List (List Int)), vs = [.ref a] ∧ Rd H a (.dT ws) ∧ ws.map (·.1) = ks.map ik ∧ ks.length ≤ 1000 ∧ (∀ k ∈ ks, k ≠ []) ∧
  ∀ p (ys : List V), H p = none → Paired (KeyV H) ys (ks.mergeSort rowLe) → Q (.ref p) (upd H p (.lst ys))
theorem cr_sortDK {X : Cx} (hcalm : X.calm = true) (hu : X.A.units + 64 < cLine) : CallR X (.builtin "sorted") rSortDK := by
  intro pins s σ H vs us Q I rr hh
  obtain ⟨a, ws, ks, rfl, rd, hks, hl, hne, q⟩ := hh
  rw [Vals.ref1 rr]
  obtain ⟨z, hs, xs, pr, o, es, ep, ho, hx, hdt, he, hn⟩ := (show ObjOk X.prog X.w H s.heap a (.dT ws) from rd.ok I.hok)
  have l1 : es.size = xs.length := size_of_entries he
  have l2 : ws.length = xs.length := Paired.length pr
  have l3 : ks.length = xs.length := by
    have := congrArg List.length hks
    simp only [List.length_map] at this
    omega
  have hL : xs.length ≤ sizeLine := by
    rw [← l3]
    exact Nat.le_of_lt (small1000 hl)
  (refine Calls.call_function_entry kind_sorted plain_sorted entry_sorted (args_sorted1 _) ?_)
  unfold Builtin.«sorted»; refine wpAny_bind (wpAny_pure ?_)
  refine wpAny_bind (PySem.W.kdu_collect (A := X.A.in1) (kdl_raw hs hx hdt) (I.ok.hd hcalm) ho (by omega) fun h1 tk acc kp it => ?_)
  have ea : acc.toList = xs.map fun x => Value.ref x.2.1 := by
    have hl2 : acc.toList.length = xs.length := by rw [Array.length_toList, it.1, l1]
    (refine List.ext_getElem? fun j => ?_)
    cases hj : acc.toList[j]? with
    | none =>
      (have h1 := List.getElem?_eq_none_iff.mp hj)
      rw [List.getElem?_eq_none (by rw [List.length_map]; omega)]
    | some v =>
      (obtain ⟨en, hen, hv⟩ := it.2 j v (by rw [← Array.getElem?_toList]; exact hj))
      have qe := entry_at he j
      rw [hen] at qe
      rw [List.getElem?_map]
      cases hb : xs[j]? with
      | none =>
        rw [hb] at qe
        cases qe
      | some b =>
        rw [hb] at qe
        have e2 := Option.some.inj qe
        rw [hv, e2]
        rfl
  have I1 : Inv X pins σ H { s with heap := h1, toks := tk } := I.kept kp
  let vals : List Value := xs.map fun x => Value.ref x.2.1
  rw [ea]
  have hvl : vals.length = ks.length := by simp [vals, l3]
  refine wpAny_bind (wpAny_newList ?_ (by show vals.length ≤ sizeLine; rw [hvl]; exact Nat.le_of_lt (small1000 hl)))
  have hoL : (h1.push (seqObj "list" vals.toArray 0)).get? h1.objs.size = some (seqObj "list" vals.toArray 0) := Heap.get?_push_size _ rfl
  show wpAny _ _ _ _ _ { s with heap := h1.push (seqObj "list" vals.toArray 0), toks := tk }
  have prk : ∀ {ks : List (List Int)} {ws : List (List Key × V)} {xs : List (List Key × Addr × Value)}, ws.map (·.1) = ks.map ik → Paired (fun (p : List Key × V) (q : List Key × Addr × Value) => p.1 = q.1 ∧ H q.2.1 = some (.tup (p.1.map kV)) ∧ RelV p.2 q.2.2) ws xs →
      PySem.W.EachIs (fun v k => ∃ b, v = Value.ref b ∧ H b = some (.tup ((ik k).map kV))) (xs.map fun x => Value.ref x.2.1) ks := by
    intro ks ws xs hk pr
    induction pr generalizing ks with
    | nil =>
      cases ks with
      | nil => exact .nil
      | cons k ks => cases hk
    | cons h t ih =>
      cases ks with
      | nil => cases hk
      | cons k ks =>
        rw [List.map_cons, List.map_cons] at hk
        have h1 := (List.cons.inj hk).1
        exact .cons ⟨_, rfl, by rw [← h1]; exact h.2.1⟩ (ih (List.cons.inj hk).2)
  have e0 := prk hks pr
  have er : PySem.W.EachIs (fun v k => ∃ as, Reads (h1.push (seqObj "list" vals.toArray 0)) v (encT k) as ∧ h1.objs.size ∉ as) vals ks := eachIs_imp (fun v k ⟨b, e1, e2⟩ => by
    rw [e1]
    rw [ik_kV] at e2
    exact ⟨[], PyProof.Rows.Reads.keeps (fun c o g => Heap.get?_push_of_some _ g) (reads_tup I1 e2), by simp⟩) e0
  have hal : PySem.W.AllAlike (ks.map encT) := PySem.W.AllAlike.of alike_encT
  have hsb : PySem.W.Sortable (ks.map encT) := .inl fun d hd => by
    obtain ⟨k, hk, rfl⟩ := List.mem_map.mp hd
    cases k with
    | nil => exact absurd rfl (hne _ hk)
    | cons n r => exact ⟨.int n, r.map .int, rfl⟩
  refine wpAny_bind (wpAny_holding (PySem.W.list_sort_data (s := { s with heap := h1.push (seqObj "list" vals.toArray 0), toks := tk }) (enc := encT) hoL e0 er hal hsb (by rw [l3]; exact hL) (fun k hk => by rw [depth_encT]; show X.A.units + 1 + 1 + 1 < cLine; omega) fun out ho2 e2 => ?_))
  rw [le_encT] at e2
  obtain ⟨ys, rv2, pr2⟩ := eachIs_vals (T := fun k y => KeyV H y k) (eachIs_imp (fun v k ⟨b, e1, e2⟩ => ⟨V.ref b, by rw [e1]; rfl, b, rfl, e2⟩) e2)
  obtain ⟨e', he'⟩ := PyProof.Rows.sortedHeap_at (vs := vals) (out := List.toArray out) hoL
  have hyl : ys.length ≤ sizeLine := by
    rw [rv2.length, ho2]
    exact Nat.le_of_lt (small1000 hl)
  refine wpAny_pure ⟨_, rfl, .ref h1.objs.size, upd H h1.objs.size (.lst ys), I1.laid (t' := tk) (fun b u e => ?_) (Nat.le_refl _) (show ObjOk X.prog X.w _ _ _ (.lst ys) from ⟨hyl, out, e', rv2, he'⟩), rfl, q _ ys (I1.hok.fresh (Nat.le_refl _)) pr2⟩
  have hlt := Heap.lt_size e
  rw [PyProof.Rows.sortedHeap_old (Nat.ne_of_lt hlt) (by rw [size_push']; exact Nat.lt_succ_of_lt hlt)]
  (exact Heap.get?_push_of_some _ e)
theorem repL_keys {P : Addr → Bool} {H : Hp} (pk : Pok P H) : ∀ {ks : List (List Int)} {ys : List V}, Paired (KeyV H) ys ks → RepL (hid P H) (ks.map tI) ys
  | _, _, .nil => rfl
  | _, _, .cons h t => by
    obtain ⟨b, e, g⟩ := h
    rw [ik_kV] at g
    exact .cons ⟨b, _, e, pk.tup g, RepL.ints _⟩ (repL_keys pk t)
section
variable {S : Sx} {ρ : En} {a : Expr} {pos p : Pos} {kvs : List (List Int × Dt)}
theorem ed_sortD (ha : ED S a ρ (.dic kvs)) (hne : ∀ x ∈ kvs, x.1 ≠ []) (hl : kvs.length ≤ 1000) (hm : S.mg "sorted" = none) (hg : S.sc.names.lookup ("sorted" : Str) = some .globalImplicit := by rfl) (hs : ∀ env : Env, starEach [a] env = (false, eval a env) :: starEach [] env := by intro _; rfl) :
    ED S (.Call (.Name "sorted" p) [a] [] pos) ρ (lI (sortR (kvs.map (·.1)))) :=
  ed_bi (fun X hX => cr_sortDK hX.calm hX.hu) (ha := ea_cons ha ea_nil hs) (he := hs) (hr := fun P H vs pk r0 Q z => by
    obtain ⟨v, rfl, r⟩ := r0.at1
    obtain ⟨l, ws, rfl, rd, r⟩ := r
    refine ⟨l, ws, kvs.map Prod.fst, rfl, rd_hid rd, by rw [repK_keys r, List.map_map]; rfl, by simpa using hl, fun k hk => ?_, fun p2 ys n pr => z _ _ (same_new n) (rep_new_lst pk n (repL_keys pk pr))⟩
    obtain ⟨x, hx, rfl⟩ := List.mem_map.mp hk
    exact hne x hx) (hm := hm) (hg := hg)
end
end Gl

namespace Gl
open PySem PySem.Spec L2 PyProof.Rows

theorem Sx.Has.nox {S : Sx} {X : Cx} (hX : S.Has X) : S.Has X.nox := ⟨hX.prog, hX.w, hX.K, hX.mg, hX.base, hX.N, hX.sc, hX.fn, hX.room, hX.calm⟩
/-- a loop, from a heap -/
theorem for_at {S : Sx} {X : Cx} (hX : S.Has X) {tg iter : Expr} {A : List Stmt} {pos : Pos} {P : Addr → Bool} {σ : L2.St} {H : Hp} {D : Ends} {α : Type} {as : List α} {g : α → Dt} (Iv : Hp → Nat → L2.St → Hp → Prop)
    (hi : ∀ R : It → Hp → Prop, (∀ J H1, Same H H1 → Wk P (as.map g) J H1 → R J H1) → wI X.nox tg iter σ H R) (h0 : ∀ H1, Same H H1 → Iv H1 0 σ H1)
    (hk : ∀ H1 i σ' H', Same H H1 → Iv H1 i σ' H' → Same (hid P H1) (hid P H') ∧ Pok P H')
    (turn : ∀ H1 i a σ' H' x H2, Same H H1 → as[i]? = some a → Iv H1 i σ' H' → Same H' H2 → Rep (hid P H2) (g a) x → wG X.nox tg x σ' H2 fun σ3 H3 => wSs X.nox A { D with nx := Iv H1 (i + 1), ct := Iv H1 (i + 1), bk := D.nx } σ3 H3)
    (stop : ∀ H1 σ' H', Same H H1 → Iv H1 as.length σ' H' → D.nx σ' H') (hs : ∀ (env : Env) x, foldedSetIterable iter env x = pure x := by intro _ _; rfl) : wS X (.For tg iter A [] pos) D σ H := by
  have ps : PS X.nox (.For tg iter A [] pos) (tFor (wI X.nox tg iter) (wG X.nox tg) (wSs X.nox A)) := ps_for (PassesOwn.never) hX.calm pi_w pg_w pss_w (hs X.nox.env)
  have ps' : PS X (.For tg iter A [] pos) (tFor (wI X.nox tg iter) (wG X.nox tg) (wSs X.nox A)) := ⟨fun pins s σ H D I h => wpAny_mono (ps.run pins s σ H D (I.wish _) h) (fun _ _ q => q.unwish) fun _ _ z => False.elim z⟩
  refine wS.of ps' (hi _ fun J H1 s1 wk => ?_)
  refine ⟨fun i m σ' H' => m = as.length - i ∧ i ≤ as.length ∧ Iv H1 i σ' H', ⟨as.length, by simp, Nat.zero_le _, h0 H1 s1⟩, ?_⟩
  rintro i m σ' H' ⟨rfl, hil, iv⟩
  obtain ⟨sH, pk⟩ := hk H1 i σ' H' s1 iv
  by_cases hlt : i < as.length
  · refine .inr ⟨wk.go i H' sH (by simpa using hlt), Iv H1 (i + 1), fun σ2 H2 n => ⟨as.length - (i + 1), by omega, rfl, hlt, n⟩, fun x H2 y => ?_⟩
    obtain ⟨s2, d, hd, rd⟩ := wk.yld P (.refl P H1) i H' x H2 sH pk (by simpa using hlt) y
    have ea : as[i]? = some as[i] := List.getElem?_eq_getElem hlt
    have ed : d = g as[i] := by
      rw [List.getElem?_map, ea] at hd
      exact (Option.some.inj hd).symm
    subst ed
    exact turn H1 i as[i] σ' H' x H2 s1 ea iv s2 rd
  · have hi2 : i = as.length := by omega
    subst hi2
    exact .inl ⟨wk.stop _ H' sH (by simp), stop H1 σ' H' s1 iv⟩

/-! ### the lock -/
structure Lk (H H1 : Hp) (a : Addr) (od : Obj) (ws : List (List Key × V)) (bk : Hp → Hp) : Prop where
  at1 : H1 a = some (.frz od (.dT ws))
  off : ∀ b, b ≠ a → H1 b = H b
  boff : ∀ H' b, b ≠ a → bk H' b = H' b
  back : ∀ H', H' a = some (.frz od (.dT ws)) → bk H' a = H a
  rd : Rd H a (.dT ws)
theorem rd_other {H : Hp} {a : Addr} {ws : List (List Key × V)} (rd : Rd H a (.dT ws)) : (∀ xs, H a ≠ some (.tup xs)) ∧ (∀ xs, H a ≠ some (.lst xs)) ∧ (∀ c dx fs, H a ≠ some (.ins c dx fs)) ∧ (∀ us, Rd H a (.dT us) → us = ws) := by
  rcases rd with h | ⟨o, h⟩
  · refine ⟨fun _ e => ?_, fun _ e => ?_, fun _ _ _ e => ?_, fun us e => ?_⟩ <;> try (rw [h] at e; cases e)
    rcases e with e | ⟨o2, e⟩
    · rw [h] at e
      cases e
      rfl
    · rw [h] at e
      cases e
  · refine ⟨fun _ e => ?_, fun _ e => ?_, fun _ _ _ e => ?_, fun us e => ?_⟩ <;> try (rw [h] at e; cases e)
    rcases e with e | ⟨o2, e⟩
    · rw [h] at e
      cases e
    · rw [h] at e
      cases e
      rfl
/-- what differs at a dict alone, read alike there -/
theorem pres_at {P : Addr → Bool} {H H1 : Hp} {a : Addr} {ws : List (List Key × V)} (off : ∀ b, b ≠ a → H1 b = H b) (rd : Rd H a (.dT ws)) (rd1 : Rd H1 a (.dT ws)) : Pres (hid P H) (hid P H1) := by
  obtain ⟨n1, n2, n3, n4⟩ := rd_other rd
  have mv : ∀ b o, b ≠ a → hid P H b = some o → hid P H1 b = some o := fun b o hb e => by
    obtain ⟨h1, h2⟩ := hid_some e
    rw [hid_no h1, off b hb]
    exact h2
  have n5 : ∀ o xs, H a ≠ some (.frz o (.lst xs)) := fun o xs e => by
    rcases rd with h | ⟨o2, h⟩ <;> (rw [h] at e; cases e)
  refine ⟨fun b xs e => ?_, fun b xs e => ?_, fun b c dx fs e => ?_, fun b us e => ?_, fun b o xs e => mv b _ (fun z => n5 o xs (by rw [← z]; exact (hid_some e).2)) e⟩
  · exact mv b _ (fun z => n1 xs (by rw [← z]; exact (hid_some e).2)) e
  · exact mv b _ (fun z => n2 xs (by rw [← z]; exact (hid_some e).2)) e
  · exact mv b _ (fun z => n3 c dx fs (by rw [← z]; exact (hid_some e).2)) e
  · by_cases hb : b = a
    · subst hb
      have hp := rd_vis e
      have e2 := n4 us (rd_hid e)
      subst e2
      rcases rd1 with h | ⟨o, h⟩
      · exact .inl (by rw [hid_no hp]; exact h)
      · exact .inr ⟨o, by rw [hid_no hp]; exact h⟩
    · rcases e with e | ⟨o, e⟩
      · exact .inl (mv b _ hb e)
      · exact .inr ⟨o, mv b _ hb e⟩
section
variable {H H1 : Hp} {a : Addr} {od : Obj} {ws : List (List Key × V)} {bk : Hp → Hp}
theorem Lk.rd1 (l : Lk H H1 a od ws bk) : Rd H1 a (.dT ws) := .inr ⟨od, l.at1⟩
theorem Lk.pres (l : Lk H H1 a od ws bk) (P : Addr → Bool) : Pres (hid P H) (hid P H1) := pres_at l.off l.rd l.rd1
theorem Lk.rdb (l : Lk H H1 a od ws bk) {H' : Hp} (h : H' a = some (.frz od (.dT ws))) : Rd (bk H') a (.dT ws) := by
  have e := l.back H' h
  rcases l.rd with r | ⟨o, r⟩
  · exact .inl (e.trans r)
  · exact .inr ⟨o, e.trans r⟩
theorem Lk.presb (l : Lk H H1 a od ws bk) (P : Addr → Bool) {H' : Hp} (h : H' a = some (.frz od (.dT ws))) : Pres (hid P H') (hid P (bk H')) := pres_at (fun b hb => l.boff H' b hb) (.inr ⟨od, h⟩) (l.rdb h)
theorem Lk.pok (l : Lk H H1 a od ws bk) {P : Addr → Bool} (k : Pok P H) : Pok P H1 := fun b hb => by
  by_cases z : b = a
  · subst z
    exact ⟨_, l.at1, fun xs e => by cases e⟩
  · rw [l.off b z]
    exact k b hb
theorem Lk.ne {q : Option Addr} {P : Addr → Bool} (l : Lk H H1 a od ws bk) (w : Wd P q H) : some a ≠ q := fun e => by
  obtain ⟨x, y, _, _, _, h4⟩ := (w.hid a e.symm).2
  exact (rd_other l.rd).2.1 _ h4
theorem Lk.wd {q : Option Addr} {P : Addr → Bool} (l : Lk H H1 a od ws bk) (w : Wd P q H) : Wd P q H1 := by
  refine ⟨l.pok w.ok, fun p e => ⟨(w.hid p e).1, ?_⟩⟩
  obtain ⟨x, y, h1, h2, h3, h4⟩ := (w.hid p e).2
  have hp : p ≠ a := fun z => l.ne w (by rw [← z, e])
  exact ⟨x, y, h1, h2, h3, by rw [l.off p hp]; exact h4⟩
theorem Lk.go {q : Option Addr} {P : Addr → Bool} (l : Lk H H1 a od ws bk) (w : Wd P q H) {H' : Hp} (g : Go q H1 H') : H' a = some (.frz od (.dT ws)) ∧ Go q H (bk H') := by
  have hq := l.ne w
  have h1 : H' a = some (.frz od (.dT ws)) := g.keep a _ hq l.at1
  refine ⟨h1, fun b o hb e => ?_, fun p e z => ?_⟩
  · by_cases hz : b = a
    · subst hz
      rw [l.back H' h1]
      exact e
    · rw [l.boff H' b hz]
      exact g.keep b o hb (by rw [l.off b hz]; exact e)
  · have hp : p ≠ a := fun z2 => hq (by rw [← z2, e])
    obtain ⟨x, y, q1, q2, q3, q4⟩ := z
    obtain ⟨x', y', r1, r2, r3, r4⟩ := g.pot p e ⟨x, y, q1, q2, q3, by rw [l.off p hp]; exact q4⟩
    exact ⟨x', y', r1, r2, r3, by rw [l.boff H' p hp]; exact r4⟩
end
theorem wS_mono {X : Cx} {st : Stmt} {D D' : Ends} {σ : L2.St} {H : Hp} (h : wS X st D σ H) (h1 : ∀ σ H, D.nx σ H → D'.nx σ H) (h2 : ∀ v H, D.rt v H → D'.rt v H) (h3 : ∀ σ H, D.bk σ H → D'.bk σ H) (h4 : ∀ σ H, D.ct σ H → D'.ct σ H) : wS X st D' σ H := ⟨fun pins s I => by
  refine wpAny_mono (h.run pins s I) (fun f s1 q => ?_) fun _ _ z => z
  cases f with
  | next => obtain ⟨σ', H', I2, q⟩ := q; exact ⟨σ', _, I2, h1 _ _ q⟩
  | brk => obtain ⟨σ', H', I2, q⟩ := q; exact ⟨σ', _, I2, h3 _ _ q⟩
  | cont => obtain ⟨σ', H', I2, q⟩ := q; exact ⟨σ', _, I2, h4 _ _ q⟩
  | ret v => obtain ⟨x, σ', H', I2, r, q⟩ := q; exact ⟨x, σ', _, I2, r, h2 _ _ q⟩⟩
theorem wE_mono {X : Cx} {e : Expr} {Q Q' : VK} {σ : L2.St} {H : Hp} (h : wE X e σ H Q) (h1 : ∀ v H, Q v H → Q' v H) : wE X e σ H Q' := ⟨fun pins s I => by
  refine wpAny_mono (h.run pins s I) (fun f s1 q => ?_) fun _ _ z => z
  obtain ⟨x, H', I2, r, q⟩ := q
  exact ⟨x, H', I2, r, h1 _ _ q⟩⟩
theorem lock_st {X : Cx} {st : Stmt} {σ : L2.St} {H : Hp} {a : Addr} {ws : List (List Key × V)} {D : Ends} (rd : Rd H a (.dT ws))
    (k : ∀ H1 od bk, Lk H H1 a od ws bk → wS X st ⟨fun σ' H' => H' a = some (.frz od (.dT ws)) ∧ D.nx σ' (bk H'), fun v H' => H' a = some (.frz od (.dT ws)) ∧ D.rt v (bk H'), fun σ' H' => H' a = some (.frz od (.dT ws)) ∧ D.bk σ' (bk H'), fun σ' H' => H' a = some (.frz od (.dT ws)) ∧ D.ct σ' (bk H')⟩ σ H1) : wS X st D σ H := by
  rcases id rd with h | ⟨o, h⟩
  · refine wS.of (ps_lock ps_w) ⟨a, _, h, trivial, fun od => ?_⟩
    exact k (upd H a (.frz od (.dT ws))) od (fun H' => upd H' a (.dT ws)) ⟨upd_same, fun b hb => upd_ne hb, fun H' b hb => upd_ne hb, fun H' _ => by rw [upd_same, h], rd⟩
  · refine wS_mono (k H o id ⟨h, fun _ _ => rfl, fun _ _ _ => rfl, fun H' h' => h'.trans h.symm, rd⟩) (fun _ _ z => z.2) (fun _ _ z => z.2) (fun _ _ z => z.2) fun _ _ z => z.2
theorem lock_ex {X : Cx} {e : Expr} {σ : L2.St} {H : Hp} {a : Addr} {ws : List (List Key × V)} {Q : VK} (rd : Rd H a (.dT ws))
    (k : ∀ H1 od bk, Lk H H1 a od ws bk → wE X e σ H1 fun v H' => H' a = some (.frz od (.dT ws)) ∧ Q v (bk H')) : wE X e σ H Q := by
  rcases id rd with h | ⟨o, h⟩
  · refine wE.of (pe_lock pe_w) ⟨a, _, h, trivial, fun od => ?_⟩
    exact k (upd H a (.frz od (.dT ws))) od (fun H' => upd H' a (.dT ws)) ⟨upd_same, fun b hb => upd_ne hb, fun H' b hb => upd_ne hb, fun H' _ => by rw [upd_same, h], rd⟩
  · exact wE_mono (k H o id ⟨h, fun _ _ => rfl, fun _ _ _ => rfl, fun H' h' => h'.trans h.symm, rd⟩) fun _ _ z => z.2

/-! ### what is read at its place -/
def PL (S : Sx) (e : Expr) (ρ : En) (d : Dt) : Prop := ∀ X, S.Has X → ∀ (P : Addr → Bool) (σ : L2.St) (H : Hp), ERep (hid P H) σ ρ → ∃ v, Rep (hid P H) d v ∧ ∀ H2, Pres (hid P H) (hid P H2) → ∀ Q : VK, Q v H2 → wE X e σ H2 Q
section
variable {S : Sx} {q : Option Addr} {ρ : En} {d : Dt} {e a tg iter elt : Expr} {pos p : Pos} {x f : Str} {kvs : List (List Int × Dt)} {A sts : List Stmt} {Rn : En → Prop} {Rr : Dt → Prop}
theorem pl_name (i : Nat) (hr : ρ[i]? = some (some d)) (hN : S.N[i]? = some x := by rfl) (hv : Vis S.sc x := by first | exact Or.inl rfl | exact Or.inr (Or.inl rfl) | exact Or.inr (Or.inr rfl))
    (hd : (x == ("__debug__" : Str)) = false := by decide) (hcd : (x == ("__classdict__" : Str)) = false := by decide) : PL S (.Name x pos) ρ d := fun X hX P σ H er => by
  obtain ⟨v, g, r⟩ := er.get i d hr
  refine ⟨v, r, fun H2 _ Q q => wE.of (pe_var (i := i) (by rw [hX.N]; exact hN) (by rw [hX.sc]; exact hv) hd hcd) ?_⟩
  exact ⟨v, g, q⟩
theorem pl_fld {C : Addr} {fs : List (Str × Dt)} (ha : PL S a ρ (.ins C fs)) (hl : fs.lookup f = some d) (hc : Cls S.K C) (hn : NoAttr S.K C f) (hb : ∀ env : Env, attributeBase a f env (eval a env) = eval a env := by intro _; rfl) : PL S (.Attribute a f pos) ρ d := fun X hX P σ H er => by
  obtain ⟨v, ⟨o, dx, ws, e1, g, r⟩, he⟩ := ha X hX P σ H er
  obtain ⟨u, hu, ru⟩ := r.look hl
  subst e1
  refine ⟨u, ru, fun H2 p2 Q q => wE.of (pe_fld pe_w (hb X.env)) (he H2 p2 _ ?_)⟩
  exact ⟨o, C, dx, ws, u, rfl, (hid_some (p2.ins _ _ _ _ g)).2, by rw [hX.K]; exact hc, by rw [hX.K]; exact hn, hu, q⟩
theorem wi_keys {X : Cx} {P : Addr → Bool} {σ : L2.St} {H1 : Hp} {o : Addr} {od : Obj} {ws : List (List Key × V)} (he : ∀ Q : VK, Q (.ref o) H1 → wE X iter σ H1 Q) (at1 : H1 o = some (.frz od (.dT ws))) (pa : P o = false) (rk : RepK (hid P H1) kvs ws) :
    ∀ R : It → Hp → Prop, (∀ J H', Same H1 H' → Wk P (kvs.map fun p => tI p.1) J H' → R J H') → wI X tg iter σ H1 R := fun R k => by
  have hl : ws.length = kvs.length := rk.length
  refine wI.of (pi_keys pe_w) (he _ ⟨o, od, rfl, .inr ⟨ws, at1, k _ H1 (Same.refl H1) ⟨fun i H s hi => ?_, fun i H s hi => ?_, fun P' wx i H x H' s pk hi y => ?_⟩⟩⟩)
  · exact ⟨(hid_some (s o _ (by rw [hid_no pa]; exact at1))).2, by rw [hl]; simpa using hi⟩
  · exact ⟨(hid_some (s o _ (by rw [hid_no pa]; exact at1))).2, by rw [hl]; simpa using hi⟩
  · obtain ⟨rfl, kk, v, b, e1, rfl, g⟩ := y
    refine ⟨Same.refl _, ?_⟩
    have hk := repK_keys rk
    have e2 : (ws.map (·.1))[i]? = some kk := by rw [List.getElem?_map, e1]; rfl
    rw [hk, List.getElem?_map] at e2
    cases hx : kvs[i]? with
    | none =>
      rw [hx] at e2
      cases e2
    | some kv =>
      rw [hx] at e2
      have e3 : ik kv.1 = kk := Option.some.inj e2
      subst e3
      rw [ik_kV] at g
      exact ⟨tI kv.1, by rw [List.getElem?_map, hx]; rfl, b, _, rfl, pk.tup g, RepL.ints _⟩
/-- for tg in a dict -/
theorem sv_forK (W : Nat → En → Prop) (hp : PL S iter ρ (.dic kvs)) (h0 : W 0 ρ) (turn : ∀ i kv ρ', kvs[i]? = some kv → W i ρ' → ∃ ρ2 js, GV S tg js (tI kv.1) ρ' ρ2 ∧ SV S q A ρ2 (W (i + 1)) Rr) (k : ∀ ρ', W kvs.length ρ' → SV S q sts ρ' Rn Rr)
    (hs : ∀ (env : Env) x, foldedSetIterable iter env x = pure x := by intro _ _; rfl) : SV S q (.For tg iter A [] pos :: sts) ρ Rn Rr :=
  sv_cons (M := fun ρ' => W kvs.length ρ') (fun X hX P σ H w er D nx rt => by
    obtain ⟨v, ⟨o, ws, rfl, rd, rk⟩, he⟩ := hp X.nox hX.nox P σ H er
    have pa := rd_vis rd
    refine lock_st (rd_hid rd) fun H1 od bk lk => ?_
    have w1 := lk.wd w
    refine for_at hX (P := P) (as := kvs) (g := fun p => tI p.1) (fun H2 i σ' H' => Go q H2 H' ∧ ∃ ρ', ERep (hid P H') σ' ρ' ∧ W i ρ') (wi_keys (he H1 (lk.pres P)) lk.at1 pa (RepK.pres (lk.pres P) _ _ rk)) (fun H2 s2 => ⟨.refl q H2, ρ, (er.pres (lk.pres P)).same s2.hid, h0⟩) (fun H2 i σ' H' s2 iv => ?_) (fun H2 i kv σ' H' x H3 s2 e iv s3 r => ?_) (fun H2 σ' H' s2 iv => ?_) hs
    · obtain ⟨g, ρ', er', wi⟩ := iv
      have w2 := w1.go (.of s2)
      exact ⟨w2.same g, (w2.go g).ok⟩
    · obtain ⟨g, ρ', er', wi⟩ := iv
      obtain ⟨ρ2, js, hg, hb⟩ := turn i kv ρ' e wi
      have w3 := ((w1.go (.of s2)).go g).go (.of s3)
      refine hg X.nox hX.nox P σ' H3 x w3.ok (er'.same s3.hid) r _ fun σ2 _ _ er2 => ?_
      refine hb X.nox hX.nox P σ2 H3 w3 er2 _ (fun σ4 ρ4 H4 g4 er4 m4 => ⟨(g.trans (.of s3)).trans g4, ρ4, er4, m4⟩) fun v d H4 g4 r4 m4 => ?_
      obtain ⟨z1, z2⟩ := lk.go w ((Go.of s2).trans ((g.trans (.of s3)).trans g4))
      exact ⟨z1, rt v d _ z2 (Rep.pres (lk.presb P z1) _ _ r4) m4⟩
    · obtain ⟨g, ρ', er', wi⟩ := iv
      obtain ⟨z1, z2⟩ := lk.go w ((Go.of s2).trans g)
      exact ⟨z1, nx _ _ _ z2 (er'.pres (lk.presb P z1)) wi⟩) k
/-- [elt for tg in a dict] -/
theorem ed_mapK {scope : Scope} (own : List (Str × Nat)) (f : List Int × Dt → Dt) (hn : S.N.Nodup) (ok : blkC S.N S.sc scope own = true) (hp : PL S iter ρ (.dic kvs)) (hz : kvs.length ≤ 100000)
    (turn : ∀ kv, kv ∈ kvs → ∃ ρ' js, GV (S.blk scope) tg js (tI kv.1) (wipeD ρ (own.map (·.2))) ρ' ∧ (∀ j ∈ js, j ∈ own.map (·.2)) ∧ ED (S.blk scope) elt ρ' (f kv))
    (hs : ∀ (env : Env) x, foldedSetIterable iter env x = pure x := by intro _ _; rfl) : ED S (.ListComp elt [⟨tg, iter, [], 0⟩] scope pos) ρ (.lst (kvs.map f)) := fun X hX P σ H w er Q z => by
  obtain ⟨v, ⟨o, ws, rfl, rd, rk⟩, he⟩ := hp X hX P σ H er
  have pa := rd_vis rd
  have wd : Wd P none H := ⟨w, fun p z => by cases z⟩
  refine lock_ex (rd_hid rd) fun H1 od bk lk => ?_
  refine wE.of (pe_lc (own := own) hX.calm (by rw [hX.N]; exact hn) pi_w (blkOk_by (by rw [hX.N, hX.sc]; exact ok)) pg_u pt_u pe_u (hs X.env)) ?_
  refine lc_read (q := none) hX (fun a o => o = some (f a)) (wi_keys (he H1 (lk.pres P)) lk.at1 pa (RepK.pres (lk.pres P) _ _ rk)) hz (fun kv hm => ?_) (lk.wd wd) (er.pres (lk.pres P)) _ fun v ys H' g ot r => ?_
  · obtain ⟨ρ', js, h1, h2, h3⟩ := turn kv hm
    exact ⟨ρ', js, true, h1, h2, ei_nil, fun _ => EV.of h3 rfl, fun z => by cases z⟩
  · rw [ot.map] at r
    obtain ⟨z1, z2⟩ := lk.go wd g
    exact ⟨z1, z v _ z2.none (Rep.pres (lk.presb P z1) _ _ r)⟩
end
end Gl

namespace Gl
open PySem PySem.Spec L2 PyProof.Rows

/-! ### what is free of a kind of objects: 0 dicts, 1 lists, 2 instances -/
mutual
def Off (k : Nat) : Dt → Bool
  | .tup xs => OffL k xs
  | .lst xs => k != 1 && OffL k xs
  | .dic kvs => k != 0 && OffK k kvs
  | .ins _ fs => k != 2 && OffF k fs
  | .ro _ _ => k != 1
  | _ => true
def OffL (k : Nat) : List Dt → Bool
  | [] => true
  | d :: ds => Off k d && OffL k ds
def OffK (k : Nat) : List (List Int × Dt) → Bool
  | [] => true
  | (_, d) :: ds => Off k d && OffK k ds
def OffF (k : Nat) : List (Str × Dt) → Bool
  | [] => true
  | (_, d) :: ds => Off k d && OffF k ds
end
theorem offL_all {k : Nat} : ∀ {ds : List Dt}, (∀ d ∈ ds, Off k d = true) → OffL k ds = true
  | [], _ => by rw [OffL]
  | d :: ds, h => by
    rw [OffL, h d List.mem_cons_self, offL_all fun x hx => h x (List.mem_cons_of_mem _ hx)]
    rfl
theorem off_tI (k : Nat) (ns : List Int) : Off k (tI ns) = true := by
  unfold tI
  rw [Off]
  refine offL_all fun d hd => ?_
  obtain ⟨n, _, rfl⟩ := List.mem_map.mp hd
  rw [Off] <;> simp
def KdO (k : Nat) (o : HO) : Prop := (k = 0 ∧ ∃ ws, o = .dT ws) ∨ (k = 1 ∧ ∃ vs, o = .lst vs) ∨ (k = 2 ∧ ∃ C dx ws, o = .ins C dx ws)
theorem hid_also {P : Addr → Bool} {D a : Addr} {H : Hp} {o : HO} (h : hid P H a = some o) (hd : a ≠ D) : hid (also P D) H a = some o := by
  obtain ⟨h1, h2⟩ := hid_some h
  rw [hid_no (also_no h1 hd)]
  exact h2
section
variable {P : Addr → Bool} {D : Addr} {H : Hp} {o : HO} {k : Nat}
theorem kd_ne (hD : H D = some o) (hk : KdO k o) {a : Addr} {u : HO} (h : hid P H a = some u) (n : ¬KdO k u) : a ≠ D := fun z => by
  subst z
  rw [(hid_some h).2] at hD
  have := Option.some.inj hD
  subst this
  exact n hk
mutual
theorem Rep.offD (hD : H D = some o) (hk : KdO k o) : ∀ (d : Dt) (v : V), Off k d = true → Rep (hid P H) d v → Rep (hid (also P D) H) d v
  | .any, _, _, _ => trivial
  | .non, _, _, h => h
  | .bl _, _, _, h => h
  | .int _, _, _, h => h
  | .str _, _, _, h => h
  | .adr _, _, _, h => h
  | .ty _, _, _, h => h
  | .tup xs, _, f, h => by
    obtain ⟨a, vs, e, g, r⟩ := h
    rw [Off] at f
    refine ⟨a, vs, e, hid_also g (kd_ne hD hk g ?_), RepL.offD hD hk xs vs f r⟩
    rintro (⟨_, _, z⟩ | ⟨_, _, z⟩ | ⟨_, _, _, _, z⟩) <;> cases z
  | .lst xs, _, f, h => by
    obtain ⟨a, vs, e, g, r⟩ := h
    rw [Off] at f
    obtain ⟨f1, f2⟩ := Bool.and_eq_true_iff.mp f
    refine ⟨a, vs, e, hid_also g (kd_ne hD hk g ?_), RepL.offD hD hk xs vs f2 r⟩
    rintro (⟨_, _, z⟩ | ⟨z2, _, z⟩ | ⟨_, _, _, _, z⟩)
    · cases z
    · rw [z2] at f1
      cases f1
    · cases z
  | .dic kvs, _, f, h => by
    obtain ⟨a, ws, e, g, r⟩ := h
    rw [Off] at f
    obtain ⟨f1, f2⟩ := Bool.and_eq_true_iff.mp f
    refine ⟨a, ws, e, ?_, RepK.offD hD hk kvs ws f2 r⟩
    rcases g with g | ⟨od, g⟩
    · refine .inl (hid_also g (kd_ne hD hk g ?_))
      rintro (⟨z2, _, z⟩ | ⟨_, _, z⟩ | ⟨_, _, _, _, z⟩)
      · rw [z2] at f1
        cases f1
      · cases z
      · cases z
    · refine .inr ⟨od, hid_also g (kd_ne hD hk g ?_)⟩
      rintro (⟨_, _, z⟩ | ⟨_, _, z⟩ | ⟨_, _, _, _, z⟩) <;> cases z
  | .ins c fs, _, f, h => by
    obtain ⟨a, dx, ws, e, g, r⟩ := h
    rw [Off] at f
    obtain ⟨f1, f2⟩ := Bool.and_eq_true_iff.mp f
    refine ⟨a, dx, ws, e, hid_also g (kd_ne hD hk g ?_), RepF.offD hD hk fs ws f2 r⟩
    rintro (⟨_, _, z⟩ | ⟨_, _, z⟩ | ⟨z2, _, _, _, z⟩)
    · cases z
    · cases z
    · rw [z2] at f1
      cases f1
  | .ro K ns, _, f, h => by
    obtain ⟨a, e, q⟩ := h
    rw [Off] at f
    refine ⟨a, e, ?_⟩
    rcases q with (g | ⟨od, g⟩) | g
    · refine .inl (.inl (hid_also g (kd_ne hD hk g ?_)))
      rintro (⟨_, _, z⟩ | ⟨z2, _, z⟩ | ⟨_, _, _, _, z⟩)
      · cases z
      · rw [z2] at f
        cases f
      · cases z
    · refine .inl (.inr ⟨od, hid_also g (kd_ne hD hk g ?_)⟩)
      rintro (⟨_, _, z⟩ | ⟨_, _, z⟩ | ⟨_, _, _, _, z⟩) <;> cases z
    · exact .inr g
theorem RepL.offD (hD : H D = some o) (hk : KdO k o) : ∀ (d : List Dt) (v : List V), OffL k d = true → RepL (hid P H) d v → RepL (hid (also P D) H) d v
  | [], _, _, h => h
  | d :: ds, _, f, h => by
    obtain ⟨v, r, e, g, t⟩ := h
    rw [OffL] at f
    obtain ⟨f1, f2⟩ := Bool.and_eq_true_iff.mp f
    exact ⟨v, r, e, Rep.offD hD hk d v f1 g, RepL.offD hD hk ds r f2 t⟩
theorem RepK.offD (hD : H D = some o) (hk : KdO k o) : ∀ (d : List (List Int × Dt)) (v : List (List Key × V)), OffK k d = true → RepK (hid P H) d v → RepK (hid (also P D) H) d v
  | [], _, _, h => h
  | (_, d) :: ds, _, f, h => by
    obtain ⟨v, r, e, g, t⟩ := h
    rw [OffK] at f
    obtain ⟨f1, f2⟩ := Bool.and_eq_true_iff.mp f
    exact ⟨v, r, e, Rep.offD hD hk d v f1 g, RepK.offD hD hk ds r f2 t⟩
theorem RepF.offD (hD : H D = some o) (hk : KdO k o) : ∀ (d : List (Str × Dt)) (v : List (Str × V)), OffF k d = true → RepF (hid P H) d v → RepF (hid (also P D) H) d v
  | [], _, _, h => h
  | (_, d) :: ds, _, f, h => by
    obtain ⟨v, r, e, g, t⟩ := h
    rw [OffF] at f
    obtain ⟨f1, f2⟩ := Bool.and_eq_true_iff.mp f
    exact ⟨v, r, e, Rep.offD hD hk d v f1 g, RepF.offD hD hk ds r f2 t⟩
end
end

/-! ### the thing that changes -/
def Cont (H : Hp) : Dt → HO → Prop
  | .dic kvs, o => ∃ ws, o = .dT ws ∧ RepK H kvs ws
  | .lst xs, o => ∃ vs, o = .lst vs ∧ RepL H xs vs
  | .ins C fs, o => ∃ dx ws, o = .ins C dx ws ∧ RepF H fs ws
  | _, _ => False
def kd : Dt → Nat
  | .dic _ => 0
  | .lst _ => 1
  | _ => 2
def Di (P : Addr → Bool) (D : Addr) (c : Dt) (H : Hp) : Prop := ∃ o, H D = some o ∧ Cont (hid (also P D) H) c o
section
variable {P : Addr → Bool} {D : Addr} {H H' : Hp} {c d : Dt} {v : V}
theorem Cont.kdO {o : HO} : ∀ {c : Dt}, Cont H c o → KdO (kd c) o
  | .dic kvs, ⟨ws, e, _⟩ => .inl ⟨rfl, ws, e⟩
  | .lst xs, ⟨vs, e, _⟩ => .inr (.inl ⟨rfl, vs, e⟩)
  | .ins C fs, ⟨dx, ws, e, _⟩ => .inr (.inr ⟨rfl, C, dx, ws, e⟩)
theorem Cont.pres {o : HO} (p : Pres H H') : ∀ {c : Dt}, Cont H c o → Cont H' c o
  | .dic kvs, ⟨ws, e, r⟩ => ⟨ws, e, RepK.pres p _ _ r⟩
  | .lst xs, ⟨vs, e, r⟩ => ⟨vs, e, RepL.pres p _ _ r⟩
  | .ins C fs, ⟨dx, ws, e, r⟩ => ⟨dx, ws, e, RepF.pres p _ _ r⟩
theorem Di.rep (h : Di P D c H) (hp : P D = false) : Rep (hid P H) c (.ref D) := by
  obtain ⟨o, e, r⟩ := h
  have e2 : hid P H D = some o := by rw [hid_no hp]; exact e
  cases c with
  | dic kvs =>
    obtain ⟨ws, rfl, r⟩ := r
    exact ⟨D, ws, rfl, .inl e2, RepK.pres (.of also_le) _ _ r⟩
  | lst xs =>
    obtain ⟨ws, rfl, r⟩ := r
    exact ⟨D, ws, rfl, e2, RepL.pres (.of also_le) _ _ r⟩
  | ins C fs =>
    obtain ⟨dx, ws, rfl, r⟩ := r
    exact ⟨D, dx, ws, rfl, e2, RepF.pres (.of also_le) _ _ r⟩
  | _ => exact r.elim
theorem Di.same (h : Di P D c H) (s : Same H H') : Di P D c H' := by
  obtain ⟨o, e, r⟩ := h
  exact ⟨o, s _ _ e, r.pres (.of s.hid)⟩
theorem Di.pok (h : Di P D c H) (k : Pok P H) : Pok (also P D) H := fun a ha => by
  rcases Bool.or_eq_true_iff.mp ha with e | e
  · exact k a e
  · obtain ⟨o, e1, r⟩ := h
    rw [beq_iff_eq.mp e]
    refine ⟨o, e1, fun xs z => ?_⟩
    subst z
    rcases r.kdO with ⟨_, _, z⟩ | ⟨_, _, z⟩ | ⟨_, _, _, _, z⟩ <;> cases z
theorem Di.off (h : Di P D c H) (f : Off (kd c) d = true) (r : Rep (hid P H) d v) : Rep (hid (also P D) H) d v := by
  obtain ⟨o, e, q⟩ := h
  exact Rep.offD e q.kdO d v f r
/-- all but D stands -/
def KB (D : Addr) (H H' : Hp) : Prop := ∀ a o, a ≠ D → H a = some o → H' a = some o
theorem KB.of (s : Same H H') : KB D H H' := fun a o _ h => s a o h
theorem KB.trans {H1 H2 : Hp} (a : KB D H H1) (b : KB D H1 H2) : KB D H H2 := fun x o h e => b x o h (a x o h e)
theorem KB.hid (k : KB D H H') : Same (Gl.hid (also P D) H) (Gl.hid (also P D) H') := fun a o h => by
  obtain ⟨h1, h2⟩ := hid_some h
  rw [hid_no h1]
  refine k a o (fun z => ?_) h2
  rw [z, also_yes] at h1
  cases h1
theorem KB.pok (k : KB D H H') (hp : P D = false) (w : Pok P H) : Pok P H' := fun a h => by
  obtain ⟨o, e, n⟩ := w a h
  exact ⟨o, k a o (fun z => by rw [z, hp] at h; cases h) e, n⟩
theorem KB.upd (k : KB D H H') (o : HO) : KB D H (L2.upd H' D o) := fun a u h e => by
  rw [upd_ne h]
  exact k a u h e
end
/-- e is worth d while D is c -/
def EDx (S : Sx) (D : Addr) (e : Expr) (ρ : En) (c d : Dt) : Prop := ∀ X, S.Has X → ∀ (P : Addr → Bool) (σ : L2.St) (H : Hp), Pok P H → P D = false → ERep (hid (also P D) H) σ ρ → Di P D c H →
  ∀ Q : VK, (∀ v H', Same H H' → Rep (hid (also P D) H') d v → Q v H') → wE X e σ H Q
def ETx (S : Sx) (D : Addr) (e : Expr) (ρ : En) (c : Dt) (b : Bool) : Prop := ∀ X, S.Has X → ∀ (P : Addr → Bool) (σ : L2.St) (H : Hp), Pok P H → P D = false → ERep (hid (also P D) H) σ ρ → Di P D c H →
  ∀ Q : Bool → Hp → Prop, (∀ H', Same H H' → Q b H') → wT X e σ H Q
def SD (S : Sx) (D : Addr) (sts : List Stmt) (ρ : En) (c : Dt) (Rn : En → Dt → Prop) (Rr : Dt → Prop) : Prop := ∀ X, S.Has X → ∀ (P : Addr → Bool) (σ : L2.St) (H : Hp), Pok P H → P D = false → ERep (hid (also P D) H) σ ρ → Di P D c H →
  ∀ E : Ends, (∀ σ' ρ' c' H', KB D H H' → ERep (hid (also P D) H') σ' ρ' → Di P D c' H' → Rn ρ' c' → E.nx σ' H') → (∀ v d H', KB D H H' → Rep (hid P H') d v → Rr d → E.rt v H') → wSs X sts E σ H
def S1D (S : Sx) (D : Addr) (st : Stmt) (ρ : En) (c : Dt) (Rn : En → Dt → Prop) (Rr : Dt → Prop) : Prop := ∀ X, S.Has X → ∀ (P : Addr → Bool) (σ : L2.St) (H : Hp), Pok P H → P D = false → ERep (hid (also P D) H) σ ρ → Di P D c H →
  ∀ E : Ends, (∀ σ' ρ' c' H', KB D H H' → ERep (hid (also P D) H') σ' ρ' → Di P D c' H' → Rn ρ' c' → E.nx σ' H') → (∀ v d H', KB D H H' → Rep (hid P H') d v → Rr d → E.rt v H') → wS X st E σ H
section
variable {S : Sx} {D : Addr} {ρ : En} {c d : Dt} {e a b cc tg iter elt : Expr} {es : List Expr} {pos p p1 : Pos} {x y f : Str} {kvs : List (List Int × Dt)} {A B sts : List Stmt} {st : Stmt} {Rn : En → Dt → Prop} {Rr : Dt → Prop} {kk : List Int}
theorem vis_erep {P : Addr → Bool} {σ : L2.St} {H : Hp} {i : Nat} (hp : P D = false) (er : ERep (hid (also P D) H) σ ρ) (h : Di P D c H) (hr : ρ[i]? = some (some (.adr D))) : ERep (hid P H) σ (ρ.set i (some c)) := by
  obtain ⟨v, g, r⟩ := er.get i _ hr
  have e1 : v = .ref D := r
  subst e1
  have h2 := (er.same also_le).set i (h.rep hp)
  have e2 : σ.set i (some (.ref D)) = σ := by
    (refine List.ext_getElem? fun j => ?_)
    by_cases hj : i = j
    · subst hj
      rw [List.getElem?_set_self (List.getElem?_eq_some_iff.mp g).1, g]
    · rw [List.getElem?_set_ne hj]
  rw [e2] at h2
  exact h2
theorem edx_h (h : ED S e ρ d) : EDx S D e ρ c d := fun X hX P σ H w hp er di Q k => h X hX (also P D) σ H (di.pok w) er Q k
theorem edx_v (i : Nat) (hr : ρ[i]? = some (some (.adr D))) (h : ED S e (ρ.set i (some c)) d) (f : Off (kd c) d = true) : EDx S D e ρ c d := fun X hX P σ H w hp er di Q k =>
  h X hX P σ H w (vis_erep hp er di hr) Q fun v H' s r => k v H' s ((di.same s).off f r)
theorem etx_h {k : Bool} (h : ET S e ρ k) : ETx S D e ρ c k := fun X hX P σ H w hp er di Q z => h X hX (also P D) σ H (di.pok w) er Q z
theorem etx_v {k : Bool} (i : Nat) (hr : ρ[i]? = some (some (.adr D))) (h : ET S e (ρ.set i (some c)) k) : ETx S D e ρ c k := fun X hX P σ H w hp er di Q z => h X hX P σ H w (vis_erep hp er di hr) Q z
theorem sd_cons {M : En → Dt → Prop} (h : S1D S D st ρ c M Rr) (k : ∀ ρ' c', M ρ' c' → SD S D sts ρ' c' Rn Rr) : SD S D (st :: sts) ρ c Rn Rr := fun X hX P σ H w hp er di E nx rt => by
  refine wSs.of (pss_cons ps_w pss_w) ?_
  refine h X hX P σ H w hp er di _ (fun σ' ρ' c' H' kb er' di' m => ?_) rt
  exact k ρ' c' m X hX P σ' H' (kb.pok hp w) hp er' di' E (fun σ2 ρ2 c2 H2 kb2 er2 di2 m2 => nx σ2 ρ2 c2 H2 (kb.trans kb2) er2 di2 m2) fun v d H2 kb2 r m2 => rt v d H2 (kb.trans kb2) r m2
theorem sd_nil (h : Rn ρ c) : SD S D [] ρ c Rn Rr := fun X hX P σ H w hp er di E nx rt => wSs.of pss_nil (nx σ ρ c H (.of (Same.refl H)) er di h)
/-- from here on it changes no more -/
theorem sd_open {Rn' : En → Prop} (i : Nat) (hr : ρ[i]? = some (some (.adr D))) (h : SV S none sts (ρ.set i (some c)) Rn' Rr) (hn : ∀ ρ', ¬Rn' ρ') : SD S D sts ρ c Rn Rr := fun X hX P σ H w hp er di E nx rt =>
  h X hX P σ H ⟨w, fun p z => by cases z⟩ (vis_erep hp er di hr) E (fun σ' ρ' H' g er' m => absurd m (hn ρ')) fun v d H' g r m => rt v d H' (.of g.none) r m
/-- x = e -/
theorem sd_set (i : Nat) (h : EDx S D e ρ c d) (k : SD S D sts (ρ.set i (some d)) c Rn Rr) (hn : S.N.Nodup) (hN : S.N[i]? = some x := by rfl) (hv : Loc S.sc x := by first | exact Or.inl rfl | exact Or.inr rfl) (hf : S.fn x = true ∨ S.sc.names.lookup x = some .local := by first | exact .inl rfl | exact .inr rfl)
    (hs : ∀ env : Env, env.scope = S.sc → swapsWith e (some (.Name x p1)) pos.line env = pure false := by first | (intro _ _; rfl) | (intro env he; cases env; subst he; rfl)) : SD S D (.Assign [.Name x p1] e pos :: sts) ρ c Rn Rr :=
  sd_cons (M := fun ρ' c' => ρ' = ρ.set i (some d) ∧ c' = c) (fun X hX P σ H w hp er di E nx rt => by
    refine wS.of (ps_set (i := i) (by rw [hX.N]; exact hn) (by rw [hX.N]; exact hN) (by rw [hX.sc]; exact hv) pe_w (hs X.env hX.sc) (by rw [hX.sc]; exact hf.imp (hX.fn x) id)) ?_
    refine h X hX P σ H w hp er di _ fun v H' s r => ?_
    exact nx _ _ c H' (.of s) ((er.same s.hid).set i r) (di.same s) ⟨rfl, rfl⟩) fun ρ' c' m => by rw [m.1, m.2]; exact k
/-- any target -/
theorem sd_asg {ρ' : En} {js : List Nat} (h : EDx S D e ρ c d) (hg : GV S tg js d ρ ρ') (k : SD S D sts ρ' c Rn Rr)
    (hs : ∀ env : Env, env.scope = S.sc → swapsWithSole [tg] e pos.line env = pure false := by first | (intro _ _; rfl) | (intro env he; cases env; subst he; rfl)) (hw : ∀ env : Env, env.scope = S.sc → swappedStores [tg] e env = pure none := by first | (intro _ _; rfl) | (intro env he; cases env; subst he; rfl))
    (h1 : ∀ env : Env, (assignEach [tg] env).map (·.2) = [assign tg env] := by intro _; rfl) : SD S D (.Assign [tg] e pos :: sts) ρ c Rn Rr :=
  sd_cons (M := fun ρ2 c' => ρ2 = ρ' ∧ c' = c) (fun X hX P σ H w hp er di E nx rt => by
    refine wS.of (ps_asg pe_w pg_w (hs X.env hX.sc) (hw X.env hX.sc) (h1 X.env)) ?_
    refine h X hX P σ H w hp er di _ fun v H' s r => ?_
    exact hg X hX (also P D) σ H' v ((di.same s).pok (w.same s)) (er.same s.hid) r _ fun σ' _ _ er' => nx _ _ c H' (.of s) er' (di.same s) ⟨rfl, rfl⟩) fun ρ2 c' m => by rw [m.1, m.2]; exact k
theorem sd_skip (h : ETx S D cc ρ c false) (k : SD S D sts ρ c Rn Rr) : SD S D (.If cc A [] pos :: sts) ρ c Rn Rr :=
  sd_cons (M := fun ρ' c' => ρ' = ρ ∧ c' = c) (fun X hX P σ H w hp er di E nx rt => by
    refine wS.of (ps_if pt_w pss_w pss_w) ?_
    refine h X hX P σ H w hp er di _ fun H' s => iteF ?_
    exact wSs.of pss_nil (nx σ ρ c H' (.of s) (er.same s.hid) (di.same s) ⟨rfl, rfl⟩)) fun ρ' c' m => by rw [m.1, m.2]; exact k
theorem sd_expr (h : EDx S D e ρ c d) (k : SD S D sts ρ c Rn Rr) (hs : ∀ env : Env, swapsWith e none pos.line env = pure false := by intro _; rfl) : SD S D (.Expr e pos :: sts) ρ c Rn Rr :=
  sd_cons (M := fun ρ' c' => ρ' = ρ ∧ c' = c) (fun X hX P σ H w hp er di E nx rt => by
    refine wS.of (ps_expr pe_w (hs X.env)) ?_
    exact h X hX P σ H w hp er di _ fun v H' s r => nx σ ρ c H' (.of s) (er.same s.hid) (di.same s) ⟨rfl, rfl⟩) fun ρ' c' m => by rw [m.1, m.2]; exact k
/-- d[k] = e, the key not there yet -/
theorem sd_put {p2 p3 : Pos} (i : Nat) (hr : ρ[i]? = some (some (.adr D))) (h : EDx S D e ρ (.dic kvs) d) (hk : ED S b ρ (tI kk)) (hn : kvs.lookup kk = none) (hl : kvs.length ≤ 1000) (k : SD S D sts ρ (.dic (kvs ++ [(kk, d)])) Rn Rr)
    (hN : S.N[i]? = some x := by rfl) (hv : Vis S.sc x := by first | exact Or.inl rfl | exact Or.inr (Or.inl rfl) | exact Or.inr (Or.inr rfl)) (hd : (x == ("__debug__" : Str)) = false := by decide) (hcd : (x == ("__classdict__" : Str)) = false := by decide)
    (hs : ∀ env : Env, env.scope = S.sc → swapsWith e (some (.Subscript (.Name x p2) b p3)) pos.line env = pure false := by first | (intro _ _; rfl) | (intro env he; cases env; subst he; rfl)) : SD S D (.Assign [.Subscript (.Name x p2) b p3] e pos :: sts) ρ (.dic kvs) Rn Rr :=
  sd_cons (M := fun ρ' c' => ρ' = ρ ∧ c' = .dic (kvs ++ [(kk, d)])) (fun X hX P σ H w hp er di E nx rt => by
    refine wS.of (ps_dput hX.hu1 pe_w pe_w pe_w (hs X.env hX.sc)) ?_
    refine h X hX P σ H w hp er di _ fun v H1 s1 r1 => ?_
    have di1 := di.same s1
    refine (ed_name i hr hN hv hd hcd) X hX (also P D) σ H1 (di1.pok (w.same s1)) (er.same s1.hid) _ fun u H2 s2 r2 => ?_
    have di2 := di1.same s2
    refine hk X hX (also P D) σ H2 (di2.pok ((w.same s1).same s2)) ((er.same s1.hid).same s2.hid) _ fun z H3 s3 r3 => ?_
    have e1 : u = .ref D := r2
    subst e1
    obtain ⟨o, e2, ws, rfl, rk⟩ := di2.same s3
    obtain ⟨bb, rfl, g⟩ := key_at r3
    have r1' := (r1.same s2.hid).same s3.hid
    have hlen := rk.length
    have hnone := (rk.val kk).1 hn
    refine ⟨D, _, rfl, DPut.t e2 g (by rw [hlen]; exact Nat.lt_of_le_of_lt hl (by rw [sizeLine_eq]; omega)), ?_⟩
    have eput : putK ws (ik kk) v = ws ++ [(ik kk, v)] := by
      unfold putK
      rw [valV_any, hnone]
      rfl
    rw [eput]
    have kb : KB D H3 (upd H3 D (.dT (ws ++ [(ik kk, v)]))) := (KB.of (Same.refl H3)).upd _
    refine nx σ ρ (.dic (kvs ++ [(kk, d)])) _ ((KB.of ((s1.trans s2).trans s3)).trans kb) ((((er.same s1.hid).same s2.hid).same s3.hid).same kb.hid) ⟨_, upd_same, _, rfl, ?_⟩ ⟨rfl, rfl⟩
    have app : ∀ {kvs : List (List Int × Dt)} {ws : List (List Key × V)} {H : Hp}, RepK H kvs ws → Rep H d v → RepK H (kvs ++ [(kk, d)]) (ws ++ [(ik kk, v)]) := by
      intro kvs
      induction kvs with
      | nil =>
        intro ws H h r
        rw [show ws = [] from h]
        exact ⟨v, [], rfl, r, rfl⟩
      | cons p r ih =>
        intro ws H h r
        obtain ⟨v0, t, e, g, h⟩ := h
        subst e
        exact ⟨v0, _, rfl, g, ih h r⟩
    exact app (rk.same kb.hid) (r1'.same kb.hid)) fun ρ' c' m => by rw [m.1, m.2]; exact k
/-- l.extend(e) -/
theorem sd_ext {ls zs : List Dt} {p2 p3 : Pos} (i : Nat) (hr : ρ[i]? = some (some (.adr D))) (h : EDx S D e ρ (.lst ls) (.lst zs)) (hl : ls.length + zs.length ≤ 1000) (k : SD S D sts ρ (.lst (ls ++ zs)) Rn Rr)
    (hN : S.N[i]? = some x := by rfl) (hv : Vis S.sc x := by first | exact Or.inl rfl | exact Or.inr (Or.inl rfl) | exact Or.inr (Or.inr rfl)) (hd : (x == ("__debug__" : Str)) = false := by decide) (hcd : (x == ("__classdict__" : Str)) = false := by decide)
    (hbase : ∀ env : Env, attributeBase (.Name x p2) "extend" env (eval (.Name x p2) env) = eval (.Name x p2) env := by intro _; rfl)
    (hfew : ∀ env : Env, ((backTo pos (starEach [e] env)).all (fun x => !x.1) && (backToKw pos (keywordEach [] env)).all (fun x => x.1.isSome) && decide ([e].length + ([] : List Keyword).length + (if ([] : List Keyword).isEmpty then 0 else 1) < 30)) = true := by intro _; rfl)
    (hline : (p3.endLine == pos.line) = true := by rfl) (hss : ∀ env : Env, starEach [e] env = (false, eval e env) :: starEach [] env := by intro _; rfl)
    (hs : ∀ env : Env, swapsWith (.Call (.Attribute (.Name x p2) "extend" p3) [e] [] pos) none p.line env = pure false := by intro _; rfl) : SD S D (.Expr (.Call (.Attribute (.Name x p2) "extend" p3) [e] [] pos) p :: sts) ρ (.lst ls) Rn Rr :=
  sd_cons (M := fun ρ' c' => ρ' = ρ ∧ c' = .lst (ls ++ zs)) (fun X hX P σ H w hp er di E nx rt => by
    refine wS.of (ps_expr (pe_bm PySem.F.plainAttrs_list PySem.F.slot_list_extend PySem.F.type_list_extend mt_extend pe_w (pa_cons pe_w pa_nil (hss X.env)) (hbase X.env) (hfew X.env) hline (hss X.env) rfl) (hs X.env)) ?_
    refine (ed_name i hr hN hv hd hcd) X hX (also P D) σ H (di.pok w) er _ fun u H1 s1 r1 => ?_
    have e1 : u = .ref D := r1
    subst e1
    have di1 := di.same s1
    obtain ⟨o, e2, vs, rfl, rk⟩ := id di1
    refine ⟨.inl ⟨rfl, vs, .inl (.inl e2)⟩, ?_⟩
    refine h X hX P σ H1 (w.same s1) hp (er.same s1.hid) di1 _ fun v H2 s2 r2 => ?_
    obtain ⟨b, ws, rfl, g, r⟩ := rep_lst r2
    have rk2 := rk.same s2.hid
    have l1 := rk.length
    have l2 := r.length
    refine ⟨D, b, vs, ws, rfl, rfl, s2 _ _ e2, g, by rw [l1, l2]; exact Nat.le_of_lt (small1000 hl), ?_⟩
    have kb : KB D H2 (upd H2 D (.lst (vs ++ ws))) := (KB.of (Same.refl H2)).upd _
    exact nx σ ρ (.lst (ls ++ zs)) _ ((KB.of (s1.trans s2)).trans kb) (((er.same s1.hid).same s2.hid).same kb.hid) ⟨_, upd_same, _, rfl, (rk2.append r).same kb.hid⟩ ⟨rfl, rfl⟩) fun ρ' c' m => by rw [m.1, m.2]; exact k
theorem RepF.put {H : Hp} {v : V} : ∀ {fs : List (Str × Dt)} {ws : List (Str × V)}, RepF H fs ws → fs.lookup f = none → Rep H d v → RepF H (fs ++ [(f, d)]) (putF f v ws)
  | [], ws, h, _, r => by
    rw [show ws = [] from h]
    exact ⟨v, [], rfl, r, rfl⟩
  | (g, d0) :: fs, ws, h, hn, r => by
    obtain ⟨v0, t, e, g0, h⟩ := h
    subst e
    rw [List.lookup_cons] at hn
    have hne : g ≠ f := fun z => by
      subst z
      rw [beq_self_eq_true] at hn
      cases hn
    rw [show (f == g) = false from by simpa using Ne.symm hne] at hn
    have e2 : putF f v ((g, v0) :: t) = (g, v0) :: putF f v t := by
      rw [putF, if_neg hne]
    rw [e2]
    exact ⟨v0, _, rfl, g0, RepF.put h hn r⟩
theorem RepF.length {H : Hp} : ∀ {fs : List (Str × Dt)} {ws : List (Str × V)}, RepF H fs ws → ws.length = fs.length
  | [], ws, h => by rw [show ws = [] from h] <;> rfl
  | (g, d0) :: fs, ws, h => by
    obtain ⟨v0, t, e, g0, h⟩ := h
    rw [e, List.length_cons, List.length_cons, RepF.length h]
/-- self.f = e, a new field -/
theorem sd_fld {C : Addr} {fs : List (Str × Dt)} {p2 p3 : Pos} (i : Nat) (hr : ρ[i]? = some (some (.adr D))) (h : EDx S D e ρ (.ins C fs) d) (hn : fs.lookup f = none) (hl : fs.length < 100) (hc : Cls S.K C) (hna : NoAttr S.K C f) (k : SD S D sts ρ (.ins C (fs ++ [(f, d)])) Rn Rr)
    (hN : S.N[i]? = some x := by rfl) (hv : Vis S.sc x := by first | exact Or.inl rfl | exact Or.inr (Or.inl rfl) | exact Or.inr (Or.inr rfl)) (hd : (x == ("__debug__" : Str)) = false := by decide) (hcd : (x == ("__classdict__" : Str)) = false := by decide)
    (hs : ∀ env : Env, env.scope = S.sc → swapsWith e (some (.Attribute (.Name x p2) f p3)) pos.line env = pure false := by first | (intro _ _; rfl) | (intro env he; cases env; subst he; rfl)) : SD S D (.Assign [.Attribute (.Name x p2) f p3] e pos :: sts) ρ (.ins C fs) Rn Rr :=
  sd_cons (M := fun ρ' c' => ρ' = ρ ∧ c' = .ins C (fs ++ [(f, d)])) (fun X hX P σ H w hp er di E nx rt => by
    refine wS.of (ps_fld pe_w pe_w (hs X.env hX.sc)) ?_
    refine h X hX P σ H w hp er di _ fun v H1 s1 r1 => ?_
    have di1 := di.same s1
    refine (ed_name i hr hN hv hd hcd) X hX (also P D) σ H1 (di1.pok (w.same s1)) (er.same s1.hid) _ fun u H2 s2 r2 => ?_
    have e1 : u = .ref D := r2
    subst e1
    obtain ⟨o, e2, dx, ws, rfl, rk⟩ := di1.same s2
    have kb : KB D H2 (upd H2 D (.ins C dx (putF f v ws))) := (KB.of (Same.refl H2)).upd _
    refine ⟨D, C, dx, ws, rfl, e2, by rw [hX.K]; exact hc, by rw [hX.K]; exact hna, by have := rk.length; omega, ?_⟩
    exact nx σ ρ (.ins C (fs ++ [(f, d)])) _ ((KB.of (s1.trans s2)).trans kb) (((er.same s1.hid).same s2.hid).same kb.hid) ⟨_, upd_same, _, _, rfl, (rk.put hn (r1.same s2.hid)).same kb.hid⟩ ⟨rfl, rfl⟩) fun ρ' c' m => by rw [m.1, m.2]; exact k
end
end Gl

namespace Gl
open PySem PySem.Spec L2 PyProof.Rows

/-- e is worth a new object of the content c -/
def EN (S : Sx) (e : Expr) (ρ : En) (c : Dt) : Prop := ∀ X, S.Has X → ∀ (P : Addr → Bool) (σ : L2.St) (H : Hp), Pok P H → ERep (hid P H) σ ρ →
  ∀ Q : VK, (∀ p o H1, Same H H1 → H1 p = none → Cont (hid P H1) c o → Q (.ref p) (upd H1 p o)) → wE X e σ H Q
section
variable {S : Sx} {D : Addr} {ρ : En} {c d : Dt} {e a b cc tg iter elt : Expr} {es : List Expr} {pos p p1 : Pos} {x y f : Str} {kvs : List (List Int × Dt)} {A B sts : List Stmt} {st : Stmt} {Rn : En → Dt → Prop} {Rr : Dt → Prop} {kk : List Int}
theorem en_dnew : EN S (.Dict [] [] pos) ρ (.dic []) := fun X hX P σ H w er Q k => by
  refine wE.of pe_dnewT ?_
  exact fun q n => k q _ H (Same.refl H) n ⟨[], rfl, rfl⟩
theorem en_lst {ds : List Dt} (h : EA S es ρ ds) (hl : ds.length ≤ 1000) : EN S (.List es pos) ρ (.lst ds) := fun X hX P σ H w er Q z => by
  refine wE.of (pe_lst pa_w) ?_
  refine h X hX P σ H w er _ fun vs H1 s1 r1 => ⟨?_, fun p n => z p _ H1 s1 n ⟨vs, rfl, r1⟩⟩
  rw [r1.length]
  exact Nat.le_of_lt (small1000 hl)
theorem en_if {k : Bool} (h : ET S cc ρ k) (h1 : k = true → EN S a ρ c) (h2 : k = false → EN S b ρ c) : EN S (.IfExp cc a b pos) ρ c := fun X hX P σ H w er Q z => by
  refine wE.of (pe_ifExp pt_w pe_w pe_w) ?_
  refine h X hX P σ H w er _ fun H1 s1 => ?_
  cases k with
  | true =>
    refine iteT ?_
    exact h1 rfl X hX P σ H1 (w.same s1) (er.same s1.hid) _ fun p o H2 s2 n r2 => z p o H2 (s1.trans s2) n r2
  | false =>
    refine iteF ?_
    exact h2 rfl X hX P σ H1 (w.same s1) (er.same s1.hid) _ fun p o H2 s2 n r2 => z p o H2 (s1.trans s2) n r2
theorem en_dictC (ha : ED S a ρ (.dic kvs)) (hh : (kvs.map fun p => hashK p.1).Nodup) (hm : S.mg "dict" = none) (hg : S.sc.names.lookup ("dict" : Str) = some .globalImplicit := by rfl) (hs : ∀ env : Env, starEach [a] env = (false, eval a env) :: starEach [] env := by intro _; rfl)
    (hpl : ∀ env : Env, (backTo pos (starEach [] env)).any (·.1) = false := by intro _; rfl) : EN S (.Call (.Name "dict" p) [a] [] pos) ρ (.dic kvs) := fun X hX P σ H w er Q z => by
  refine wE.of (pe_callTy (cr_dictC hX.hu) (hX.gl hg) (by rw [hX.mg]; exact hm) (by decide +kernel : bootBuiltins ("dict" : Str) = some (.type "dict")) (pa_cons pe_w pa_nil (hs X.env)) (by decide) (by decide) (hs X.env) (hpl X.env)) ?_
  refine ha X hX P σ H w er _ fun v H1 s1 r1 => ?_
  obtain ⟨l, ws, rfl, rd, r⟩ := r1
  refine ⟨l, ws, rfl, rd_hid rd, ?_, fun d2 n => z d2 _ H1 s1 n ⟨ws, rfl, r⟩⟩
  have e : (ws.map fun x => (tupleKind (mixKind X.prog X.w)).hash x.1) = (ws.map (·.1)).map (tupleKind (mixKind X.prog X.w)).hash := by
    rw [List.map_map]
    rfl
  rw [e, repK_keys r, List.map_map]
  have e2 : kvs.map ((tupleKind (mixKind X.prog X.w)).hash ∘ fun p => ik p.1) = kvs.map fun p => hashK p.1 := List.map_congr_left fun p _ => hash_ik X.prog X.w p.1
  rw [e2]
  exact hh
/-- x = e, a new thing that will change -/
theorem sv_new {Rn' : En → Prop} (i : Nat) (h : EN S e ρ c) (k : ∀ D, SD S D sts (ρ.set i (some (.adr D))) c (fun _ _ => False) Rr) (hn : S.N.Nodup) (hN : S.N[i]? = some x := by rfl) (hv : Loc S.sc x := by first | exact Or.inl rfl | exact Or.inr rfl) (hf : S.fn x = true ∨ S.sc.names.lookup x = some .local := by first | exact .inl rfl | exact .inr rfl)
    (hs : ∀ env : Env, env.scope = S.sc → swapsWith e (some (.Name x p1)) pos.line env = pure false := by first | (intro _ _; rfl) | (intro env he; cases env; subst he; rfl)) : SV S none (.Assign [.Name x p1] e pos :: sts) ρ Rn' Rr := fun X hX P σ H w er E nx rt => by
  refine wSs.of (pss_cons ps_w pss_w) ?_
  refine wS.of (ps_set (i := i) (by rw [hX.N]; exact hn) (by rw [hX.N]; exact hN) (by rw [hX.sc]; exact hv) pe_w (hs X.env hX.sc) (by rw [hX.sc]; exact hf.imp (hX.fn x) id)) ?_
  refine h X hX P σ H w.ok er _ fun D o H1 s1 n ct => ?_
  have w1 := w.ok.same s1
  have sn : Same H1 (upd H1 D o) := same_new n
  have hp := w1.no n
  have wx : Gl.hid (also P D) H1 = Gl.hid P H1 := (also_wx n).eq
  have sh : Same (Gl.hid (also P D) H1) (Gl.hid (also P D) (upd H1 D o)) := sn.hid
  have er1 : ERep (Gl.hid (also P D) (upd H1 D o)) (σ.set i (some (.ref D))) (ρ.set i (some (.adr D))) := by
    have e0 := er.same s1.hid
    rw [← wx] at e0
    exact (e0.same sh).set i (d := .adr D) rfl
  have di : Di P D c (upd H1 D o) := by
    refine ⟨o, upd_same, Cont.pres (.of sh) ?_⟩
    rw [wx]
    exact ct
  refine k D X hX P _ _ (w1.same sn) hp er1 di _ (fun _ _ _ _ _ _ _ z => z.elim) fun v d H' kb r m => rt v d H' (.of fun a u e => ?_) r m
  have e2 := s1 a u e
  exact kb a u (ne_of_none e2 n) (sn a u e2)
/-- the loops -/
theorem sd_for {α : Type} {as : List α} {g : α → Dt} (W : Nat → En → Dt → Prop) (hi : IV S tg iter ρ (as.map g)) (h0 : W 0 ρ c) (turn : ∀ i a ρ' c', as[i]? = some a → W i ρ' c' → ∃ ρ2 js, GV S tg js (g a) ρ' ρ2 ∧ SD S D A ρ2 c' (W (i + 1)) Rr) (k : ∀ ρ' c', W as.length ρ' c' → SD S D sts ρ' c' Rn Rr)
    (hs : ∀ (env : Env) x, foldedSetIterable iter env x = pure x := by intro _ _; rfl) : SD S D (.For tg iter A [] pos :: sts) ρ c Rn Rr :=
  sd_cons (M := fun ρ' c' => W as.length ρ' c') (fun X hX P σ H w hp er di E nx rt => by
    refine for_at hX (P := also P D) (as := as) (g := g) (fun H2 i σ' H' => KB D H2 H' ∧ ∃ ρ' c', ERep (hid (also P D) H') σ' ρ' ∧ Di P D c' H' ∧ W i ρ' c') (hi X.nox hX.nox (also P D) σ H (di.pok w) er) (fun H2 s2 => ⟨.of (Same.refl H2), ρ, c, er.same s2.hid, di.same s2, h0⟩) (fun H2 i σ' H' s2 iv => ?_) (fun H2 i a σ' H' x H3 s2 e iv s3 r => ?_) (fun H2 σ' H' s2 iv => ?_) hs
    · obtain ⟨kb, ρ', c', er', di', wi⟩ := iv
      exact ⟨kb.hid, di'.pok (kb.pok hp (w.same s2))⟩
    · obtain ⟨kb, ρ', c', er', di', wi⟩ := iv
      obtain ⟨ρ2, js, hg, hb⟩ := turn i a ρ' c' e wi
      have w3 := (kb.pok hp (w.same s2)).same s3
      have di3 := di'.same s3
      refine hg X.nox hX.nox (also P D) σ' H3 x (di3.pok w3) (er'.same s3.hid) r _ fun σ2 _ _ er2 => ?_
      exact hb X.nox hX.nox P σ2 H3 w3 hp er2 di3 _ (fun σ4 ρ4 c4 H4 kb4 er4 di4 m4 => ⟨(kb.trans (.of s3)).trans kb4, ρ4, c4, er4, di4, m4⟩) fun v d H4 kb4 r4 m4 => rt v d H4 (((KB.of s2).trans (kb.trans (.of s3))).trans kb4) r4 m4
    · obtain ⟨kb, ρ', c', er', di', wi⟩ := iv
      exact nx σ' ρ' c' H' ((KB.of s2).trans kb) er' di' wi) k
theorem Lk.kb {H H1 : Hp} {o : Addr} {od : Obj} {ws : List (List Key × V)} {bk : Hp → Hp} (l : Lk H H1 o od ws bk) (hd : o ≠ D) {H' : Hp} (kb : KB D H1 H') : H' o = some (.frz od (.dT ws)) ∧ KB D H (bk H') := by
  have h1 : H' o = some (.frz od (.dT ws)) := kb o _ hd l.at1
  refine ⟨h1, fun b u hb e => ?_⟩
  by_cases hz : b = o
  · subst hz
    rw [l.back H' h1]
    exact e
  · rw [l.boff H' b hz]
    exact kb b u hb (by rw [l.off b hz]; exact e)
theorem Lk.di {P : Addr → Bool} {H H1 : Hp} {o : Addr} {od : Obj} {ws : List (List Key × V)} {bk : Hp → Hp} (l : Lk H H1 o od ws bk) (hd : o ≠ D) (di : Di P D c H) : Di P D c H1 := by
  obtain ⟨u, e, r⟩ := di
  exact ⟨u, by rw [l.off D (Ne.symm hd)]; exact e, r.pres (l.pres _)⟩
theorem Lk.dib {P : Addr → Bool} {H H1 : Hp} {o : Addr} {od : Obj} {ws : List (List Key × V)} {bk : Hp → Hp} (l : Lk H H1 o od ws bk) (hd : o ≠ D) {H' : Hp} (h : H' o = some (.frz od (.dT ws))) (di : Di P D c H') : Di P D c (bk H') := by
  obtain ⟨u, e, r⟩ := di
  exact ⟨u, by rw [l.boff H' D (Ne.symm hd)]; exact e, r.pres (l.presb _ h)⟩
theorem sd_forK (W : Nat → En → Dt → Prop) (hpl : PL S iter ρ (.dic kvs)) (h0 : W 0 ρ c) (turn : ∀ i kv ρ' c', kvs[i]? = some kv → W i ρ' c' → ∃ ρ2 js, GV S tg js (tI kv.1) ρ' ρ2 ∧ SD S D A ρ2 c' (W (i + 1)) Rr) (k : ∀ ρ' c', W kvs.length ρ' c' → SD S D sts ρ' c' Rn Rr)
    (hs : ∀ (env : Env) x, foldedSetIterable iter env x = pure x := by intro _ _; rfl) : SD S D (.For tg iter A [] pos :: sts) ρ c Rn Rr :=
  sd_cons (M := fun ρ' c' => W kvs.length ρ' c') (fun X hX P σ H w hp er di E nx rt => by
    obtain ⟨v, ⟨o, ws, rfl, rd, rk⟩, he⟩ := hpl X.nox hX.nox (also P D) σ H er
    have pa := rd_vis rd
    have hd : o ≠ D := fun z => by
      rw [z, also_yes] at pa
      cases pa
    refine lock_st (rd_hid rd) fun H1 od bk lk => ?_
    have w1 := lk.pok w
    have di1 := lk.di hd di
    refine for_at hX (P := also P D) (as := kvs) (g := fun p => tI p.1) (fun H2 i σ' H' => KB D H2 H' ∧ ∃ ρ' c', ERep (hid (also P D) H') σ' ρ' ∧ Di P D c' H' ∧ W i ρ' c') (wi_keys (he H1 (lk.pres _)) lk.at1 pa (RepK.pres (lk.pres _) _ _ rk)) (fun H2 s2 => ⟨.of (Same.refl H2), ρ, c, (er.pres (lk.pres _)).same s2.hid, di1.same s2, h0⟩) (fun H2 i σ' H' s2 iv => ?_) (fun H2 i kv σ' H' x H3 s2 e iv s3 r => ?_) (fun H2 σ' H' s2 iv => ?_) hs
    · obtain ⟨kb, ρ', c', er', di', wi⟩ := iv
      exact ⟨kb.hid, di'.pok (kb.pok hp (w1.same s2))⟩
    · obtain ⟨kb, ρ', c', er', di', wi⟩ := iv
      obtain ⟨ρ2, js, hg, hb⟩ := turn i kv ρ' c' e wi
      have w3 := (kb.pok hp (w1.same s2)).same s3
      have di3 := di'.same s3
      refine hg X.nox hX.nox (also P D) σ' H3 x (di3.pok w3) (er'.same s3.hid) r _ fun σ2 _ _ er2 => ?_
      refine hb X.nox hX.nox P σ2 H3 w3 hp er2 di3 _ (fun σ4 ρ4 c4 H4 kb4 er4 di4 m4 => ⟨(kb.trans (.of s3)).trans kb4, ρ4, c4, er4, di4, m4⟩) fun v d H4 kb4 r4 m4 => ?_
      obtain ⟨z1, z2⟩ := lk.kb hd (((KB.of s2).trans (kb.trans (.of s3))).trans kb4)
      exact ⟨z1, rt v d _ z2 (Rep.pres (lk.presb P z1) _ _ r4) m4⟩
    · obtain ⟨kb, ρ', c', er', di', wi⟩ := iv
      obtain ⟨z1, z2⟩ := lk.kb hd ((KB.of s2).trans kb)
      exact ⟨z1, nx σ' ρ' c' _ z2 (er'.pres (lk.presb _ z1)) (lk.dib hd z1 di') wi⟩) k
end

/-! ### making -/
/-- an __init__: G says which fields come of which arguments -/
def spI (C : Addr) (G : List Dt → List (Str × Dt) → Prop) : Sp := fun vs H Q _ => ∃ (P : Addr → Bool) (D dx : Addr) (ds : List Dt) (fs : List (Str × Dt)) (ws : List V), vs = .ref D :: ws ∧ Pok P H ∧ P D = false ∧ H D = some (.ins C dx []) ∧ RepL (hid (also P D) H) ds ws ∧ G ds fs ∧ ∀ H', KB D H H' → Di P D (.ins C fs) H' → Q .non H'
/-- class x of g, its __init__ at level k; dvs fill up what lacks -/
structure MkP (g : Pg) (x : Str) (k : Nat) (C : Addr) (dds : List Dt) (G : List Dt → List (Str × Dt) → Prop) : Prop where
  ex : ∃ (f : Addr) (fd : FuncData) (ps : List Str) (dus : List Value) (dvs : List V), g.mg x = some (.ref C) ∧ Mk g.K C f ∧ FnOk g.prog g.w g.K g.mg g.base CX0 k f fd ps (spI C G) ∧ Binds g.K fd ps dus ∧ Vals dvs dus ∧ ∀ H, RepL H dds dvs
theorem initOk {g : Pg} {nm qual : Str} {st : Stmt} {N ps : List Str} {k : Nat} {C f : Addr} {fd : FuncData} {dv : List V} {G : List Dt → List (Str × Dt) → Prop} (F : FunD g.K nm qual (defArgs st) (defBody st) (defScope st) dv [] f fd) (sc : FnScope N ps (defScope st))
    (len : ∀ ds fs, G ds fs → ds.length + 1 = ps.length) (body : ∀ D ds fs, G ds fs → SD (g.S N (defScope st) k) D (defBody st) (startD N (.adr D :: ds)) (.ins C []) (fun _ c => c = .ins C fs) (fun _ => False)) : FnOk g.prog g.w g.K g.mg g.base CX0 (k + 1) f fd ps (spI C G) := by
  refine F.ok sc (fun vs H Q E h => ?_) (fun cdv A outer s H vs Q E hr h => ?_)
  · obtain ⟨P, D, dx, ds, fs, ws, rfl, _, _, _, r, hG, _⟩ := h
    rw [List.length_cons, r.length, len ds fs hG]
  · obtain ⟨P, D, dx, ds, fs, ws, rfl, pk, hp, hD, r, hG, kq⟩ := h
    refine ⟨wSs _ (defBody st), pss_w, ?_⟩
    have r2 : RepL (hid (also P D) H) (.adr D :: ds) (.ref D :: ws) := .cons rfl r
    refine body D ds fs hG _ ?has P _ H pk hp r2.start ⟨_, hD, dx, [], rfl, rfl⟩ _ (fun σ' ρ' c' H' kb er' di' e => ?_) fun v z H' kb rp e => e.elim
    case has => exact ⟨rfl, rfl, rfl, rfl, rfl, rfl, rfl, fun _ _ => rfl, hr, rfl⟩
    · rw [show c' = .ins C fs from e] at di'
      exact kq H' kb di'
section
variable {S : Sx} {ρ : En} {d : Dt} {ds : List Dt} {e : Expr} {es : List Expr} {pos p : Pos} {x : Str} {k : Nat}
/-- C(e, ..) -/
theorem ed_make {C : Addr} {dds : List Dt} {fs : List (Str × Dt)} {G : List Dt → List (Str × Dt) → Prop} (F : MkP S.pg x k C dds G) (ha : EA S (e :: es) ρ ds) (hG : G (ds ++ dds) fs) (hk : k + 1 ≤ S.k := by exact Nat.le_of_ble_eq_true rfl) (hg : S.sc.names.lookup x = some .globalImplicit := by rfl) (hd : (x == ("__debug__" : Str)) = false := by decide)
    (he : ∀ env : Env, starEach (e :: es) env = (false, eval e env) :: starEach es env := by intro _; rfl) (hpl : ∀ env : Env, (backTo pos (starEach es env)).any (·.1) = false := by intro _; rfl) : ED S (.Call (.Name x p) (e :: es) [] pos) ρ (.ins C fs) := fun X hX P σ H w er Q z => by
  obtain ⟨fa, fd, ps, dus, dvs, h1, h2, h3, h4, h5, h6⟩ := F.ex
  have h2' : Mk X.K C fa := by rw [hX.K]; exact h2
  have h4' : Binds X.K fd ps dus := by rw [hX.K]; exact h4
  refine wE.of (pe_make h2' (hX.fnok h3) (hX.room.mono hk) (hX.gl hg) (by rw [hX.mg]; exact h1) h4' h5 pass0 pa_w hd (he X.env) (hpl X.env)) ?_
  refine ha X hX P σ H w er _ fun vs H1 s1 r1 => ?_
  intro D dx n1 n2 hne
  have w1 := w.same s1
  have hp := w1.no n1
  have n3 : upd H1 dx (.own D) D = none := by rw [upd_ne (Ne.symm hne)]; exact n1
  have s2 : Same H1 (upd (upd H1 dx (.own D)) D (.ins C dx [])) := (same_new n2).trans (same_new n3)
  have wx : hid (also P D) H1 = hid P H1 := (also_wx n1).eq
  refine ⟨P, D, dx, ds ++ dds, fs, vs ++ dvs, rfl, w1.same s2, hp, upd_same, ?_, hG, fun H' kb di => ⟨rfl, z _ H' (s1.trans fun a u e => ?_) (di.rep hp)⟩⟩
  · refine (RepL.append ?_ (h6 _))
    rw [← wx] at r1
    exact r1.same s2.hid
  · exact kb a u (ne_of_none e n1) (s2 a u e)
end
end Gl

namespace Gl
open PySem PySem.Spec L2 PyProof.Rows
variable {g : Pg}

abbrev i1 : Option Dt := some (.int 1)
theorem sc_is_integer : FnScope ["value"] ["value"] (defScope s_is_integer) := ⟨rfl, rfl, rfl, by decide +kernel, rfl, by decide +kernel, by decide +kernel⟩
theorem fn_is_integer (W : Wl g) : FnP g "is_integer" 2 (spP fun ds d => ∃ n, ds = [.int n] ∧ d = .bl true) :=
  mkFn (st := s_is_integer) W.d_is_integer W.g_is_integer sc_is_integer (fun _ _ _ _ _ _ us hl => match us, hl with | [_], _ => rfl) (fun ds d h => by obtain ⟨n, rfl, rfl⟩ := h <;> rfl) fun ds d h => by
    obtain ⟨n, rfl, rfl⟩ := h
    refine sv_ret (d := .bl true) (ED.is (ed_and (ed_isi (ed_name 0 rfl) (ed_tyN "int" W.f_int) kd_int kit_eq W.f_isinstance) fun _ => ed_one (ed_not (ed_isi (ed_name 0 rfl) (ed_tyN "bool" W.f_bool) kd_int (r := false) rfl W.f_isinstance))) rfl) rfl
theorem sc_is_count : FnScope ["value"] ["value"] (defScope s_is_count) := ⟨rfl, rfl, rfl, by decide +kernel, rfl, by decide +kernel, by decide +kernel⟩
theorem fn_is_count (W : Wl g) : FnP g "is_count" 3 (spP fun ds d => ∃ n, ds = [.int n] ∧ d = .bl (decide (0 ≤ n))) :=
  mkFn (st := s_is_count) W.d_is_count W.g_is_count sc_is_count (fun _ _ _ _ _ _ us hl => match us, hl with | [_], _ => rfl) (fun ds d h => by obtain ⟨n, rfl, rfl⟩ := h <;> rfl) fun ds d h => by
    obtain ⟨n, rfl, rfl⟩ := h
    refine sv_ret (ed_and (ed_call (fn_is_integer W) (ea_cons (ed_name 0 rfl) ea_nil) ⟨n, rfl, rfl⟩) fun _ => ed_one (ed_cmp (ec_ge (ed_name 0 rfl) ed_int))) (by simp)
theorem sc_is_list : FnScope ["value"] ["value"] (defScope s_is_list) := ⟨rfl, rfl, rfl, by decide +kernel, rfl, by decide +kernel, by decide +kernel⟩
theorem fn_is_list (W : Wl g) : FnP g "is_list" 2 (spP fun ds d => (∃ xs, ds = [.lst xs] ∨ ds = [.tup xs]) ∧ d = .bl true) :=
  mkFn (st := s_is_list) W.d_is_list W.g_is_list sc_is_list (fun _ _ _ _ _ _ us hl => match us, hl with | [_], _ => rfl) (fun ds d h => by obtain ⟨⟨xs, rfl | rfl⟩, rfl⟩ := h <;> rfl) fun ds d h => by
    obtain ⟨⟨xs, rfl | rfl⟩, rfl⟩ := h
    refine sv_ret (ed_isT2 (ed_name 0 rfl) (ed_tup (ea_cons (ed_tyN "list" W.f_list) (ea_cons (ed_tyN "tuple" W.f_tuple) ea_nil)) (by decide)) kd_lst rfl W.f_isinstance) rfl
    refine sv_ret (ed_isT2 (ed_name 0 rfl) (ed_tup (ea_cons (ed_tyN "list" W.f_list) (ea_cons (ed_tyN "tuple" W.f_tuple) ea_nil)) (by decide)) kd_tup rfl W.f_isinstance) rfl
theorem sc_want_at_most : FnScope ["what", "limit", "number"] ["what", "limit", "number"] (defScope s_want_at_most) := ⟨rfl, rfl, rfl, by decide +kernel, rfl, by decide +kernel, by decide +kernel⟩
theorem fn_want_at_most (W : Wl g) : FnP g "want_at_most" 1 (spP fun ds d => ∃ s l n, ds = [.str s, .int l, .int n] ∧ n ≤ l ∧ d = .non) :=
  mkFn (st := s_want_at_most) W.d_want_at_most W.g_want_at_most sc_want_at_most (fun _ _ _ _ _ _ us hl => match us, hl with | [_, _, _], _ => rfl) (fun ds d h => by obtain ⟨s, l, n, rfl, hn, rfl⟩ := h <;> rfl) fun ds d h => by
    obtain ⟨s, l, n, rfl, hn, rfl⟩ := h
    refine sv_skip (ET.is (et_cmp (ec_gt (ed_name 2 rfl) (ed_name 1 rfl))) (by simpa using hn)) (sv_nil rfl)
theorem sc_common_bottom : FnScope ["one", "other", "left", "right"] ["one", "other"] (defScope s_common_bottom) := ⟨rfl, rfl, rfl, by decide +kernel, rfl, by decide +kernel, by decide +kernel⟩
theorem fn_common_bottom (W : Wl g) : FnP g "common_bottom" 1 (spP fun ds d => ds = [.int 1, .int 1] ∧ d = .int 1) :=
  mkFn (st := s_common_bottom) W.d_common_bottom W.g_common_bottom sc_common_bottom (fun _ _ _ _ _ _ us hl => match us, hl with | [_, _], _ => rfl) (fun ds d h => by obtain ⟨rfl, rfl⟩ := h <;> rfl) fun ds d h => by
    obtain ⟨rfl, rfl⟩ := h
    refine sv_par (Ra := fun z => z = .int 1) (Rb := fun z => z = .int 1) 2 3 (EV.of (ed_name 0 rfl) rfl) (EV.of (ed_name 1 rfl) rfl) (by decide) sc_common_bottom.nd fun d1 d2 h1 h2 => ?_
    subst h1 h2
    refine sv_while (fun m ρ => ∃ k : Int, ρ = [i1, i1, i1, some (.int k)] ∧ k = (m : Int) ∧ m ≤ 1) 1 ⟨1, rfl, rfl, by decide⟩ fun m ρ' h => ?_
    obtain ⟨k, rfl, hk, hm⟩ := h
    refine ⟨decide (0 < k), et_cmp (ec_gt (ed_name 3 rfl) ed_int), fun h => ?_, fun h => ?_⟩
    · have h0 : k = 1 := by simp at h; omega
      subst h0
      refine sv_par (Ra := fun z => z = .int 1) (Rb := fun z => z = .int 0) 2 3 (EV.of (ed_name 3 rfl) rfl) (EV.of (ed_mod (ed_intI (ed_name 2 rfl) W.f_int) (ed_name 3 rfl) (by decide)) rfl) (by decide) sc_common_bottom.nd fun d1 d2 h1 h2 => ?_
      subst h1 h2
      exact sv_nil ⟨0, by omega, 0, rfl, rfl, by decide⟩
    · exact sv_ret (ed_mul (ed_fdiv (ed_name 0 rfl) (ed_name 2 rfl) ⟨by decide, by decide⟩) (ed_name 1 rfl) (.inl (by decide))) rfl
theorem sc_common_part : FnScope ["one", "other"] ["one", "other"] (defScope s_common_part) := ⟨rfl, rfl, rfl, by decide +kernel, rfl, by decide +kernel, by decide +kernel⟩
theorem fn_common_part (W : Wl g) : FnP g "common_part" 1 (spP fun ds d => ds = [.int 1, .int 1] ∧ d = .int 1) :=
  mkFn (st := s_common_part) W.d_common_part W.g_common_part sc_common_part (fun _ _ _ _ _ _ us hl => match us, hl with | [_, _], _ => rfl) (fun ds d h => by obtain ⟨rfl, rfl⟩ := h <;> rfl) fun ds d h => by
    obtain ⟨rfl, rfl⟩ := h
    refine sv_par (Ra := fun z => z = .int 1) (Rb := fun z => z = .int 1) 0 1 (EV.of (ed_absI (ed_name 0 rfl) W.f_abs) rfl) (EV.of (ed_absI (ed_name 1 rfl) W.f_abs) rfl) (by decide) sc_common_part.nd fun d1 d2 h1 h2 => ?_
    subst h1 h2
    refine sv_while (fun m ρ => ∃ k : Int, ρ = [i1, some (.int k)] ∧ k = (m : Int) ∧ m ≤ 1) 1 ⟨1, rfl, rfl, by decide⟩ fun m ρ' h => ?_
    obtain ⟨k, rfl, hk, hm⟩ := h
    refine ⟨decide (0 < k), et_cmp (ec_gt (ed_name 1 rfl) ed_int), fun h => ?_, fun h => ?_⟩
    · have h0 : k = 1 := by simp at h; omega
      subst h0
      refine sv_par (Ra := fun z => z = .int 1) (Rb := fun z => z = .int 0) 0 1 (EV.of (ed_name 1 rfl) rfl) (EV.of (ed_mod (ed_intI (ed_name 0 rfl) W.f_int) (ed_name 1 rfl) (by decide)) rfl) (by decide) sc_common_part.nd fun d1 d2 h1 h2 => ?_
      subst h1 h2
      exact sv_nil ⟨0, by omega, 0, rfl, rfl, by decide⟩
    · exact sv_ret (ed_name 0 rfl) rfl
theorem sc_is_number : FnScope ["value"] ["value"] (defScope s_is_number) := ⟨rfl, rfl, rfl, by decide +kernel, rfl, by decide +kernel, by decide +kernel⟩
theorem fn_is_number (W : Wl g) : FnP g "is_number" 3 (spP fun ds d => ∃ n, ds = [.int n] ∧ d = .bl true) :=
  mkFn (st := s_is_number) W.d_is_number W.g_is_number sc_is_number (fun _ _ _ _ _ _ us hl => match us, hl with | [_], _ => rfl) (fun ds d h => by obtain ⟨n, rfl, rfl⟩ := h <;> rfl) fun ds d h => by
    obtain ⟨n, rfl, rfl⟩ := h
    refine sv_ret (d := .bl true) (ed_or (k := true) (l := false) (ed_call (fn_is_integer W) (ea_cons (ed_name 0 rfl) ea_nil) ⟨n, rfl, rfl⟩) fun h => by cases h) rfl
theorem sc_top_of : FnScope ["number"] ["number"] (defScope s_top_of) := ⟨rfl, rfl, rfl, by decide +kernel, rfl, by decide +kernel, by decide +kernel⟩
theorem fn_top_of (W : Wl g) : FnP g "top_of" 2 (spP fun ds d => ∃ n, ds = [.int n] ∧ d = .int n) :=
  mkFn (st := s_top_of) W.d_top_of W.g_top_of sc_top_of (fun _ _ _ _ _ _ us hl => match us, hl with | [_], _ => rfl) (fun ds d h => by obtain ⟨n, rfl, rfl⟩ := h <;> rfl) fun ds d h => by
    obtain ⟨n, rfl, rfl⟩ := h
    refine sv_ret (ed_if (k := false) (et_val (ed_isC (ed_name 0 rfl) (ed_globR W.g_Ratio) kd_int W.says.x.intRa W.f_isinstance)) (fun h => by cases h) fun _ => ed_name 0 rfl) rfl
theorem sc_is_above : FnScope ["value"] ["value"] (defScope s_is_above) := ⟨rfl, rfl, rfl, by decide +kernel, rfl, by decide +kernel, by decide +kernel⟩
theorem fn_is_above (W : Wl g) : FnP g "is_above" 4 (spP fun ds d => ds = [.int 1] ∧ d = .bl true) :=
  mkFn (st := s_is_above) W.d_is_above W.g_is_above sc_is_above (fun _ _ _ _ _ _ us hl => match us, hl with | [_], _ => rfl) (fun ds d h => by obtain ⟨rfl, rfl⟩ := h <;> rfl) fun ds d h => by
    obtain ⟨rfl, rfl⟩ := h
    refine sv_ret (d := .bl true) (ED.is (ed_and (ed_call (fn_is_number W) (ea_cons (ed_name 0 rfl) ea_nil) ⟨1, rfl, rfl⟩) fun _ => ed_one (ed_cmp (ec_gt (ed_call (fn_top_of W) (ea_cons (ed_name 0 rfl) ea_nil) ⟨1, rfl, rfl⟩) ed_int))) rfl) rfl
/-- rising by places -/
def risF (l : List Int) : Bool := (List.range (l.length - 1)).all fun i => decide (l.getD i 0 < l.getD (i + 1) 0)
theorem sc_is_rising : FnScope ["value", "at"] ["value"] (defScope s_is_rising) := ⟨rfl, rfl, rfl, by decide +kernel, rfl, by decide +kernel, by decide +kernel⟩
theorem fn_is_rising (W : Wl g) : FnP g "is_rising" 2 (spP fun ds d => ∃ l, ds = [tI l] ∧ l.length ≤ 1000 ∧ d = .bl (risF l)) :=
  mkFn (st := s_is_rising) W.d_is_rising W.g_is_rising sc_is_rising (fun _ _ _ _ _ _ us hl => match us, hl with | [_], _ => rfl) (fun ds d h => by obtain ⟨l, rfl, hl, rfl⟩ := h <;> rfl) fun ds d h => by
    obtain ⟨l, rfl, hl, rfl⟩ := h
    refine sv_ret (ed_allM (ed_map [("at", 1)] (as := List.range (l.length - 1)) (g := fun i => .int (i : Int)) (fun i => .bl (decide (l.getD i 0 < l.getD (i + 1) 0))) sc_is_rising.nd (by kernel_rfl)
      (iv_rangeZ (ed_sub (ed_lenI (ed_name 0 rfl) W.f_len) ed_int) (by omega) (by omega) W.f_range) (by simp; omega) (fun i hi => ?_)) W.f_all) rfl
    have hi := List.mem_range.mp hi
    refine ⟨_, [1], gv_name 1 sc_is_rising.nd, by decide, ed_cmp (ec_lt (ed_atT (ed_name 0 rfl) (ed_name 1 rfl) ?_) (ed_atT (i := i + 1) (ed_name 0 rfl) (nat_cast (ed_add (ed_name 1 rfl) ed_int) rfl) ?_))⟩
    · rw [List.getElem?_eq_getElem (by omega), List.getD_eq_getElem?_getD, List.getElem?_eq_getElem (by omega)]
      rfl
    · rw [List.getElem?_eq_getElem (by omega), List.getD_eq_getElem?_getD, List.getElem?_eq_getElem (by omega)]
      rfl
end Gl

namespace Gl
open PySem PySem.Spec L2 PyProof.Rows
variable {g : Pg}

def lts (n : Nat) : Str := ⟨((List.range n).map (97 + ·)).toArray⟩
theorem lts_len (n : Nat) : (lts n).length = n := by simp [lts, Str.length]
theorem lts_get {n i : Nat} (h : i < n) : ((List.range n).map (97 + ·))[i]? = some (97 + i) := by simp [h]
theorem sc_is_small : FnScope ["value"] ["value"] (defScope s_is_small) := ⟨rfl, rfl, rfl, by decide +kernel, rfl, by decide +kernel, by decide +kernel⟩
theorem fn_is_small (W : Wl g) : FnP g "is_small" 2 (spP fun ds d => ∃ c : Nat, ds = [.str ⟨#[c]⟩] ∧ 97 ≤ c ∧ c < 104 ∧ d = .bl true) :=
  mkFn (st := s_is_small) W.d_is_small W.g_is_small sc_is_small (fun _ _ _ _ _ _ us hl => match us, hl with | [_], _ => rfl) (fun ds d h => by obtain ⟨c, rfl, h1, h2, rfl⟩ := h <;> rfl) fun ds d h => by
    obtain ⟨c, rfl, h1, h2, rfl⟩ := h
    refine sv_ret (ed_and (ed_isi (ed_name 0 rfl) (ed_tyN "str" W.f_str) kd_str kit_eq W.f_isinstance) fun _ => ed_and (ed_cmp (ec_eqI (ed_lenS (ed_name 0 rfl) (Nat.le_of_ble_eq_true rfl) W.f_len) ed_int)) fun _ => ed_one (ed_cmp (ec_inS (ed_name 0 rfl) (ed_globS W.s_SMALL)))) ?_
    have hc : c = 97 ∨ c = 98 ∨ c = 99 ∨ c = 100 ∨ c = 101 ∨ c = 102 ∨ c = 103 := by omega
    rcases hc with rfl | rfl | rfl | rfl | rfl | rfl | rfl <;> exact congrArg Dt.bl (by decide +kernel)
theorem sc_is_letters : FnScope ["value", "sign", "at"] ["value"] (defScope s_is_letters) := ⟨rfl, rfl, rfl, by decide +kernel, rfl, by decide +kernel, by decide +kernel⟩
theorem fn_is_letters (W : Wl g) : FnP g "is_letters" 3 (spP fun ds d => ∃ n : Nat, ds = [.str (lts n)] ∧ 1 ≤ n ∧ n ≤ 7 ∧ d = .bl true) :=
  mkFn (st := s_is_letters) W.d_is_letters W.g_is_letters sc_is_letters (fun _ _ _ _ _ _ us hl => match us, hl with | [_], _ => rfl) (fun ds d h => by obtain ⟨n, rfl, h1, h2, rfl⟩ := h <;> rfl) fun ds d h => by
    obtain ⟨n, rfl, h1, h2, rfl⟩ := h
    have hl := lts_len n
    refine sv_skip (ET.is (et_w (ew_or (et_not (et_val (ed_isi (ed_name 0 rfl) (ed_tyN "str" W.f_str) kd_str kit_eq W.f_isinstance))) fun _ => ew_or1 (et_not (et_chain (p := fun i j => decide (i ≤ j)) (p' := fun i j => decide (i ≤ j)) (fun _ _ => op_le) (fun _ _ => op_le) ed_int (ed_lenS (ed_name 0 rfl) (by omega) W.f_len) (ed_globI W.i_MOST_LETTERS))))) ?_) ?_
    · rw [hl, decide_eq_true (by omega), decide_eq_true (by omega)]
      rfl
    refine sv_skip (ET.is (et_not (et_val (ed_allM (f := fun _ : Nat => true) (ed_map [("sign", 1)] (as := (List.range n).map (97 + ·)) (g := fun c => .str ⟨#[c]⟩) (fun _ => .bl true) sc_is_letters.nd (by kernel_rfl) (iv_str (z := lts n) (ed_name 0 rfl)) (by simp; omega) (fun c hc => ?_)) W.f_all))) ?_) ?_
    · obtain ⟨i, hi, rfl⟩ := List.mem_map.mp hc
      have hi := List.mem_range.mp hi
      exact ⟨_, [1], gv_name 1 sc_is_letters.nd, by decide, ed_call (fn_is_small W) (ea_cons (ed_name 1 rfl) ea_nil) ⟨_, rfl, by omega, by omega, rfl⟩⟩
    · simp
    refine sv_ret (ed_allM (f := fun _ : Nat => true) (ed_map [("at", 2)] (as := List.range (n - 1)) (g := fun i => .int (i : Int)) (fun _ => .bl true) sc_is_letters.nd (by kernel_rfl)
      (iv_rangeZ (ed_sub (ed_lenS (ed_name 0 rfl) (by omega) W.f_len) ed_int) (by omega) (by omega) W.f_range) (by simp; omega) (fun i hi => ?_)) W.f_all) (by simp)
    have hi := List.mem_range.mp hi
    refine ⟨_, [2], gv_name 2 sc_is_letters.nd, by decide, ED.is (ed_cmp (ec_ltS (ed_ixS (y := lts n) (ed_name 0 rfl) (ed_name 2 rfl) (by omega) (atI_nat (lts_get (by omega)))) (ed_ixS (y := lts n) (ed_name 0 rfl) (nat_cast (n := i + 1) (ed_add (ed_name 2 rfl) ed_int) rfl) (by omega) (atI_nat (lts_get (by omega)))))) ?_⟩
    exact congrArg Dt.bl (decide_eq_true (by show ([97 + i] : List Nat) < [97 + (i + 1)]; simp [List.cons_lt_cons_iff]))
theorem sc_want_letters : FnScope ["value"] ["value"] (defScope s_want_letters) := ⟨rfl, rfl, rfl, by decide +kernel, rfl, by decide +kernel, by decide +kernel⟩
theorem fn_want_letters (W : Wl g) : FnP g "want_letters" 4 (spP fun ds d => ∃ n : Nat, ds = [.str (lts n)] ∧ 1 ≤ n ∧ n ≤ 7 ∧ d = .non) :=
  mkFn (st := s_want_letters) W.d_want_letters W.g_want_letters sc_want_letters (fun _ _ _ _ _ _ us hl => match us, hl with | [_], _ => rfl) (fun ds d h => by obtain ⟨n, rfl, h1, h2, rfl⟩ := h <;> rfl) fun ds d h => by
    obtain ⟨n, rfl, h1, h2, rfl⟩ := h
    exact sv_skip (ET.is (et_not (et_val (ed_call (fn_is_letters W) (ea_cons (ed_name 0 rfl) ea_nil) ⟨n, rfl, h1, h2, rfl⟩))) rfl) (sv_nil rfl)
theorem sc_are_counts : FnScope ["value", "many", "count"] ["value", "many"] (defScope s_are_counts) := ⟨rfl, rfl, rfl, by decide +kernel, rfl, by decide +kernel, by decide +kernel⟩
theorem fn_are_counts (W : Wl g) : FnP g "are_counts" 4 (spP fun ds d => ∃ l : List Int, ds = [tI l, .int l.length] ∧ (∀ x ∈ l, 0 ≤ x) ∧ l.length ≤ 1000 ∧ d = .bl true) :=
  mkFn (st := s_are_counts) W.d_are_counts W.g_are_counts sc_are_counts (fun _ _ _ _ _ _ us hl => match us, hl with | [_, _], _ => rfl) (fun ds d h => by obtain ⟨l, rfl, h1, h2, rfl⟩ := h <;> rfl) fun ds d h => by
    obtain ⟨l, rfl, h1, h2, rfl⟩ := h
    refine sv_ret (ed_and (ed_call (fn_is_list W) (ea_cons (ed_name 0 rfl) ea_nil) ⟨⟨_, .inr rfl⟩, rfl⟩) fun _ => ed_and (ed_cmp (ec_eqI (ed_lenI (ed_name 0 rfl) W.f_len) (ed_name 1 rfl))) fun _ => ed_one (ed_allM (f := fun _ : Int => true) (ed_map [("count", 2)] (as := l) (g := .int) (fun _ => .bl true) sc_are_counts.nd (by kernel_rfl)
      (iv_tup (ed_name 0 rfl)) (by omega) (fun x hx => ?_)) W.f_all)) (by simp)
    exact ⟨_, [2], gv_name 2 sc_are_counts.nd, by decide, ED.is (ed_call (fn_is_count W) (ea_cons (ed_name 2 rfl) ea_nil) ⟨x, rfl, rfl⟩) (by rw [decide_eq_true (h1 x hx)])⟩
theorem sc_is_entry : FnScope ["value", "many"] ["value", "many"] (defScope s_is_entry) := ⟨rfl, rfl, rfl, by decide +kernel, rfl, by decide +kernel, by decide +kernel⟩
theorem fn_is_entry (W : Wl g) : FnP g "is_entry" 5 (spP fun ds d => ∃ l : List Int, ds = [.tup [tI l, .int 1], .int l.length] ∧ (∀ x ∈ l, 0 ≤ x) ∧ l.length ≤ 1000 ∧ l.sum ≤ 8 ∧ d = .bl true) :=
  mkFn (st := s_is_entry) W.d_is_entry W.g_is_entry sc_is_entry (fun _ _ _ _ _ _ us hl => match us, hl with | [_, _], _ => rfl) (fun ds d h => by obtain ⟨l, rfl, h1, h2, h3, rfl⟩ := h <;> rfl) fun ds d h => by
    obtain ⟨l, rfl, h1, h2, h3, rfl⟩ := h
    have hv : ∀ {ρ : En} {k : Nat} {p p2 p3 : Pos} {j : Nat}, ρ[0]? = some (some (.tup [tI l, .int 1])) → ED (g.S ["value", "many"] (defScope s_is_entry) k) (.Subscript (.Name "value" p) (.Constant (.int 0) j p2) p3) ρ (tI l) := fun h => ed_ixT (ed_name 0 h) ed_int rfl
    refine sv_skip (ET.is (et_w (ew_or (et_not (et_val (ed_isi (ed_name 0 rfl) (ed_tyN "tuple" W.f_tuple) kd_tup kit_eq W.f_isinstance))) fun _ => ew_or (et_cmp (ec_neI (ed_lenT (ed_name 0 rfl) W.f_len) ed_int)) fun _ => ew_or1 (et_not (et_val (ed_call (fn_are_counts W) (ea_cons (hv rfl) (ea_cons (ed_name 1 rfl) ea_nil)) ⟨l, rfl, h1, h2, rfl⟩))))) rfl) ?_
    exact sv_ret (ed_and (ed_cmp (ec_le (ed_sumT (hv rfl) W.f_sum) (ed_globI W.i_MOST_DEGREE))) fun _ => ed_one (ed_call (fn_is_above W) (ea_cons (ed_ixT (ed_name 0 rfl) ed_int rfl) ea_nil) ⟨rfl, rfl⟩)) (by rw [decide_eq_true h3]; rfl)
theorem sc_want_things_many : FnScope ["value"] ["value"] (defScope s_want_things_many) := ⟨rfl, rfl, rfl, by decide +kernel, rfl, by decide +kernel, by decide +kernel⟩
theorem fn_want_things_many (W : Wl g) : FnP g "want_things_many" 4 (spP fun ds d => ∃ n : Int, ds = [.int n] ∧ 0 ≤ n ∧ n ≤ 7 ∧ d = .non) :=
  mkFn (st := s_want_things_many) W.d_want_things_many W.g_want_things_many sc_want_things_many (fun _ _ _ _ _ _ us hl => match us, hl with | [_], _ => rfl) (fun ds d h => by obtain ⟨n, rfl, h1, h2, rfl⟩ := h <;> rfl) fun ds d h => by
    obtain ⟨n, rfl, h1, h2, rfl⟩ := h
    exact sv_skip (ET.is (et_w (ew_or (et_not (et_val (ed_call (fn_is_count W) (ea_cons (ed_name 0 rfl) ea_nil) ⟨n, rfl, rfl⟩))) fun _ => ew_or1 (et_cmp (ec_gt (ed_name 0 rfl) (ed_globI W.i_MOST_THINGS))))) (by rw [decide_eq_true h1, decide_eq_false (by omega)]; rfl)) (sv_nil rfl)
def lotF (m : Int) (l : List Int) : Bool := (l.all fun x => decide (0 ≤ x) && decide (x < m)) && risF l
theorem sc_is_lot : FnScope ["value", "many", "thing"] ["value", "many"] (defScope s_is_lot) := ⟨rfl, rfl, rfl, by decide +kernel, rfl, by decide +kernel, by decide +kernel⟩
theorem fn_is_lot (W : Wl g) : FnP g "is_lot" 4 (spP fun ds d => ∃ (l : List Int) (m : Int), ds = [tI l, .int m] ∧ l.length ≤ 1000 ∧ d = .bl (lotF m l)) :=
  mkFn (st := s_is_lot) W.d_is_lot W.g_is_lot sc_is_lot (fun _ _ _ _ _ _ us hl => match us, hl with | [_, _], _ => rfl) (fun ds d h => by obtain ⟨l, m, rfl, hl, rfl⟩ := h <;> rfl) fun ds d h => by
    obtain ⟨l, m, rfl, hl, rfl⟩ := h
    refine sv_if (et_w (ew_or (et_not (et_val (ed_isi (ed_name 0 rfl) (ed_tyN "tuple" W.f_tuple) kd_tup kit_eq W.f_isinstance))) fun _ => ew_or1 (et_not (et_val (ed_allM (f := fun x => decide (0 ≤ x) && decide (x < m)) (ed_map [("thing", 2)] (as := l) (g := .int) (fun x => .bl (decide (0 ≤ x) && decide (x < m))) sc_is_lot.nd (by kernel_rfl)
      (iv_tup (ed_name 0 rfl)) (by omega) (fun x hx => ?_)) W.f_all))))) (fun h => ?_) fun h => sv_nil ?_
    · exact ⟨_, [2], gv_name 2 sc_is_lot.nd, by decide, ed_and (ed_call (fn_is_count W) (ea_cons (ed_name 2 rfl) ea_nil) ⟨x, rfl, rfl⟩) fun _ => ed_one (ed_cmp (ec_lt (ed_name 2 rfl) (ed_name 1 rfl)))⟩
    · refine sv_ret ed_bl (congrArg Dt.bl ?_)
      have h2 : (!l.all fun x => decide (0 ≤ x) && decide (x < m)) = true := h
      unfold lotF
      rw [Bool.not_eq_true'] at h2
      rw [h2]
      rfl
    · refine sv_ret (ed_call (fn_is_rising W) (ea_cons (ed_name 0 rfl) ea_nil) ⟨l, rfl, hl, rfl⟩) (congrArg Dt.bl ?_)
      have h2 : (!l.all fun x => decide (0 ≤ x) && decide (x < m)) = false := h
      unfold lotF
      rw [Bool.not_eq_false'] at h2
      rw [h2, Bool.true_and]
end Gl

namespace Gl
open PySem PySem.Spec L2 PyProof.Rows
variable {g : Pg}

theorem lens_map (ls : List (List Int)) : ls.map (fun l => Dt.tup [.int l.length, tI l]) = (ls.map fun l => ((l.length : Int), l)).map dP := by
  rw [List.map_map]
  rfl
theorem byLen_map (ls : List (List Int)) : (((ls.map fun l => ((l.length : Int), l)).mergeSort pairLe).map fun z => tI z.2) = (byLen ls).map tI := by
  unfold byLen
  rw [List.map_map]
  rfl
theorem filter_map_id (p : α → Bool) (f : α → Dt) (l : List α) : (l.filter p).map f = (l.filter p).map f := rfl
theorem sc_by_length : FnScope ["lots", "size", "lot"] ["lots"] (defScope s_by_length) := ⟨rfl, rfl, rfl, by decide +kernel, rfl, by decide +kernel, by decide +kernel⟩
theorem fn_by_length (W : Wl g) : FnP g "by_length" 3 (spP fun ds d => ∃ ls, ds = [lI ls] ∧ ls.length ≤ 1000 ∧ d = lI (byLen ls)) :=
  mkFn (st := s_by_length) W.d_by_length W.g_by_length sc_by_length (fun _ _ _ _ _ _ us hl => match us, hl with | [_], _ => rfl) (fun ds d h => by obtain ⟨ls, rfl, hl, rfl⟩ := h <;> rfl) fun ds d h => by
    obtain ⟨ls, rfl, hl, rfl⟩ := h
    refine sv_ret (ED.is (ed_map [("size", 1), ("lot", 2)] (as := (ls.map fun l => ((l.length : Int), l)).mergeSort pairLe) (g := dP) (fun z => tI z.2) sc_by_length.nd (by kernel_rfl) (iv_list (ed_sortP (ED.is (ed_map [("lot", 2)] (as := ls) (g := tI) (fun l => .tup [.int l.length, tI l]) sc_by_length.nd (by kernel_rfl) (iv_list (ed_name 0 rfl)) (by omega) (fun l hl => ?_)) (congrArg Dt.lst (lens_map ls))) (by simpa using hl) W.f_sorted)) (by simp; omega) (fun z hz => ?_)) (congrArg Dt.lst (byLen_map ls))) rfl
    · exact ⟨_, [2], gv_name 2 sc_by_length.nd, by decide, ed_tup (ea_cons (ed_lenI (ed_name 2 rfl) W.f_len) (ea_cons (ed_name 2 rfl) ea_nil)) (Nat.le_of_ble_eq_true rfl)⟩
    · exact ⟨_, [1, 2], gv_pair 1 2 sc_by_length.nd, by decide, ed_name 2 rfl⟩
theorem sc_less : FnScope ["lot", "thing", "other"] ["lot", "thing"] (defScope s_less) := ⟨rfl, rfl, rfl, by decide +kernel, rfl, by decide +kernel, by decide +kernel⟩
theorem fn_less (W : Wl g) : FnP g "less" 2 (spP fun ds d => ∃ l t, ds = [tI l, .int t] ∧ l.length ≤ 1000 ∧ d = tI (l.filter fun x => !decide (x = t))) :=
  mkFn (st := s_less) W.d_less W.g_less sc_less (fun _ _ _ _ _ _ us hl => match us, hl with | [_, _], _ => rfl) (fun ds d h => by obtain ⟨l, t, rfl, hl, rfl⟩ := h <;> rfl) fun ds d h => by
    obtain ⟨l, t, rfl, hl, rfl⟩ := h
    refine sv_ret (ed_tupleL (ed_flt [("other", 2)] (fun x => !decide (x = t)) Dt.int (as := l) (g := Dt.int) sc_less.nd (by kernel_rfl) (iv_tup (ed_name 0 rfl)) (by omega) (fun x hx => ?_)) W.f_tuple) rfl
    exact ⟨_, [2], gv_name 2 sc_less.nd, by decide, et_cmp (ec_neI (ed_name 2 rfl) (ed_name 1 rfl)), fun _ => ed_name 2 rfl⟩
theorem sc_more_by : FnScope ["lot", "thing"] ["lot", "thing"] (defScope s_more_by) := ⟨rfl, rfl, rfl, by decide +kernel, rfl, by decide +kernel, by decide +kernel⟩
theorem fn_more_by (W : Wl g) : FnP g "more_by" 2 (spP fun ds d => ∃ l t, ds = [tI l, .int t] ∧ l.length ≤ 50 ∧ d = tI (srtI (l ++ [t]))) :=
  mkFn (st := s_more_by) W.d_more_by W.g_more_by sc_more_by (fun _ _ _ _ _ _ us hl => match us, hl with | [_, _], _ => rfl) (fun ds d h => by obtain ⟨l, t, rfl, hl, rfl⟩ := h <;> rfl) fun ds d h => by
    obtain ⟨l, t, rfl, hl, rfl⟩ := h
    refine sv_ret (ed_tupleL (ed_srtL (ns := l ++ [t]) (ED.is (ed_catL (ed_listT (ed_name 0 rfl) W.f_list) (ed_lst (ea_cons (ed_name 1 rfl) ea_nil) (Nat.le_of_ble_eq_true rfl)) (by simp; omega)) (by rw [List.map_append]; rfl)) (by simp; omega) W.f_sorted) W.f_tuple) rfl
def lastLen (ls : List (List Int)) : Nat := (ls.getLastD []).length
def longF (ls : List (List Int)) : List (List Int) := ls.filter fun l => decide ((l.length : Int) = (lastLen ls : Int))
theorem atI_last {xs : List α} {x : α} (h : xs.getLast? = some x) : atI xs (-1) = some x := by
  have hl : 0 < xs.length := by
    cases xs with
    | nil => cases h
    | cons y ys => simp
  unfold atI ixN
  rw [if_neg (by omega), if_pos (by omega)]
  rw [List.getLast?_eq_getElem?] at h
  show xs[((-1 : Int) + xs.length).toNat]? = some x
  rw [show ((-1 : Int) + xs.length).toNat = xs.length - 1 by omega]
  exact h
theorem sc_longest_of : FnScope ["lots", "lot"] ["lots"] (defScope s_longest_of) := ⟨rfl, rfl, rfl, by decide +kernel, rfl, by decide +kernel, by decide +kernel⟩
theorem fn_longest_of (W : Wl g) : FnP g "longest_of" 2 (spP fun ds d => ∃ ls, ds = [lI ls] ∧ ls.length ≤ 1000 ∧ d = lI (longF ls)) :=
  mkFn (st := s_longest_of) W.d_longest_of W.g_longest_of sc_longest_of (fun _ _ _ _ _ _ us hl => match us, hl with | [_], _ => rfl) (fun ds d h => by obtain ⟨ls, rfl, hl, rfl⟩ := h <;> rfl) fun ds d h => by
    obtain ⟨ls, rfl, hl, rfl⟩ := h
    refine sv_ret (ed_flt [("lot", 1)] (fun l => decide ((l.length : Int) = (lastLen ls : Int))) tI (as := ls) (g := tI) sc_longest_of.nd (by kernel_rfl) (iv_list (ed_name 0 rfl)) (by omega) (fun l hm => ?_)) rfl
    have hne : ls ≠ [] := fun z => by rw [z] at hm; cases hm
    have h1 : ls.getLast? = some (ls.getLastD []) := by
      rw [List.getLast?_eq_some_getLast hne, List.getLastD_eq_getLast?, List.getLast?_eq_some_getLast hne]
      rfl
    exact ⟨_, [1], gv_name 1 sc_longest_of.nd, by decide, et_cmp (ec_eqI (ed_lenI (ed_name 1 rfl) W.f_len) (ed_lenI (ns := ls.getLastD []) (ed_ixL (ed_name 0 rfl) (ed_neg ed_int) (atI_last (by rw [List.getLast?_map, h1]; rfl))) W.f_len)), fun _ => ed_name 1 rfl⟩
theorem sc_want_thing : FnScope ["value", "many"] ["value", "many"] (defScope s_want_thing) := ⟨rfl, rfl, rfl, by decide +kernel, rfl, by decide +kernel, by decide +kernel⟩
theorem fn_want_thing (W : Wl g) : FnP g "want_thing" 4 (spP fun ds d => ∃ t m : Int, ds = [.int t, .int m] ∧ 0 ≤ t ∧ t < m ∧ d = .non) :=
  mkFn (st := s_want_thing) W.d_want_thing W.g_want_thing sc_want_thing (fun _ _ _ _ _ _ us hl => match us, hl with | [_, _], _ => rfl) (fun ds d h => by obtain ⟨t, m, rfl, h1, h2, rfl⟩ := h <;> rfl) fun ds d h => by
    obtain ⟨t, m, rfl, h1, h2, rfl⟩ := h
    exact sv_skip (ET.is (et_w (ew_or (et_not (et_val (ed_call (fn_is_count W) (ea_cons (ed_name 0 rfl) ea_nil) ⟨t, rfl, rfl⟩))) fun _ => ew_or1 (et_cmp (ec_ge (ed_name 0 rfl) (ed_name 1 rfl))))) (by rw [decide_eq_true h1, decide_eq_false (by omega)]; rfl)) (sv_nil rfl)
def cntF (n : Nat) (l : List Int) : List Int := (List.range n).map fun (i : Nat) => if decide ((i : Int) ∈ l) then 1 else 0
theorem sc_counts_of : FnScope ["lot", "many", "thing"] ["lot", "many"] (defScope s_counts_of) := ⟨rfl, rfl, rfl, by decide +kernel, rfl, by decide +kernel, by decide +kernel⟩
theorem fn_counts_of (W : Wl g) : FnP g "counts_of" 2 (spP fun ds d => ∃ (l : List Int) (n : Nat), ds = [tI l, .int n] ∧ n ≤ 1000 ∧ d = tI (cntF n l)) :=
  mkFn (st := s_counts_of) W.d_counts_of W.g_counts_of sc_counts_of (fun _ _ _ _ _ _ us hl => match us, hl with | [_, _], _ => rfl) (fun ds d h => by obtain ⟨l, n, rfl, hn, rfl⟩ := h <;> rfl) fun ds d h => by
    obtain ⟨l, n, rfl, hn, rfl⟩ := h
    refine sv_ret (ed_tupM (ed_map [("thing", 2)] (as := List.range n) (g := fun i => .int (i : Int)) (fun i => .int (if decide ((i : Int) ∈ l) then 1 else 0)) sc_counts_of.nd (by kernel_rfl) (iv_rangeZ (ed_name 1 rfl) (by omega) (by omega) W.f_range) (by simp; omega) (fun i hi => ?_)) W.f_tuple) rfl
    exact ⟨_, [2], gv_name 2 sc_counts_of.nd, by decide, ed_intB (ed_cmp (ec_inI (ed_name 2 rfl) (ed_name 0 rfl) (.inl rfl))) W.f_int⟩
def allG : Nat → List (List Int)
  | 0 => [[]]
  | n + 1 => allG n ++ (allG n).map (· ++ [(n : Int)])
theorem allG_length : ∀ n, (allG n).length = 2 ^ n
  | 0 => rfl
  | n + 1 => by
    rw [allG, List.length_append, List.length_map, allG_length n, Nat.pow_succ]
    omega
theorem allG_len7 {n : Nat} (h : n ≤ 7) : (allG n).length ≤ 128 := by
  rw [allG_length]
  calc 2 ^ n ≤ 2 ^ 7 := Nat.pow_le_pow_right (by decide) h
    _ = 128 := rfl
theorem allG_lot : ∀ n, ∀ l ∈ allG n, l.length ≤ n
  | 0, l, h => by
    rw [allG, List.mem_singleton] at h
    rw [h]
    exact Nat.le_refl _
  | n + 1, l, h => by
    rw [allG, List.mem_append, List.mem_map] at h
    rcases h with h | ⟨m, h, rfl⟩
    · exact Nat.le_succ_of_le (allG_lot n l h)
    · rw [List.length_append]
      exact Nat.succ_le_succ (allG_lot n m h)
def every (n : Nat) : List (List Int) := byLen (allG n)
theorem sc_all_lots : FnScope ["many", "found", "thing", "lot"] ["many"] (defScope s_all_lots) := ⟨rfl, rfl, rfl, by decide +kernel, rfl, by decide +kernel, by decide +kernel⟩
theorem fn_all_lots (W : Wl g) : FnP g "all_lots" 4 (spP fun ds d => ∃ n : Nat, ds = [.int n] ∧ n ≤ 7 ∧ d = lI (every n)) :=
  mkFn (st := s_all_lots) W.d_all_lots W.g_all_lots sc_all_lots (fun _ _ _ _ _ _ us hl => match us, hl with | [_], _ => rfl) (fun ds d h => by obtain ⟨n, rfl, hn, rfl⟩ := h <;> rfl) fun ds d h => by
    obtain ⟨n, rfl, hn, rfl⟩ := h
    refine sv_set 1 (ed_lst (ea_cons (ed_tup ea_nil (by decide)) ea_nil) (by decide)) ?_ sc_all_lots.nd
    refine sv_for (as := List.range n) (g := fun i => .int (i : Int)) (fun i ρ => ∃ t, ρ = [some (.int n), some (lI (allG i)), t, none]) (iv_rangeZ (ed_name 0 rfl) (by omega) (by omega) W.f_range) ⟨_, rfl⟩ (fun i a ρ' ha h => ?_) fun ρ' h => ?_
    · obtain ⟨t, rfl⟩ := h
      have hi : i < n ∧ a = i := by
        rw [List.getElem?_eq_some_iff] at ha
        obtain ⟨h1, h2⟩ := ha
        simp at h1 h2
        exact ⟨h1, h2.symm⟩
      obtain ⟨hi, rfl⟩ := hi
      have hz := allG_len7 (n := a) (by omega)
      refine ⟨_, [2], gv_name 2 sc_all_lots.nd, ?_⟩
      refine sv_set 1 (ed_catL (ed_name 1 rfl) (ed_map [("lot", 3)] (as := allG a) (g := tI) (fun l => tI (l ++ [(a : Int)])) sc_all_lots.nd (by kernel_rfl) (iv_list (ed_name 1 rfl)) (by omega) (fun l hl => ?_)) (by simp; omega)) (sv_nil ⟨some (.int a), ?_⟩) sc_all_lots.nd
      · have h2 := allG_lot a l hl
        exact ⟨_, [3], gv_name 3 sc_all_lots.nd, by decide, ED.is (ed_catT (ed_name 3 rfl) (ed_tup (ea_cons (ed_name 2 rfl) ea_nil) (Nat.le_of_ble_eq_true rfl)) (by simp; omega)) (by unfold tI; rw [List.map_append]; rfl)⟩
      · have e : (allG a).map tI ++ (allG a).map (fun l => tI (l ++ [(a : Int)])) = (allG (a + 1)).map tI := by rw [allG, List.map_append, List.map_map]; rfl
        rw [e]
        rfl
    · obtain ⟨t, rfl⟩ := h
      rw [List.length_range]
      exact sv_ret (ed_call (fn_by_length W) (ea_cons (ed_name 1 rfl) ea_nil) ⟨_, rfl, by have := allG_len7 hn; omega, rfl⟩) rfl
end Gl

namespace Gl
open PySem PySem.Spec L2 PyProof.Rows
variable {g : Pg}

theorem sc_law_by_length : FnScope ["_law_lots", "_law_size", "_law_lot"] ["_law_lots"] (defScope s_law_by_length) := ⟨rfl, rfl, rfl, by decide +kernel, rfl, by decide +kernel, by decide +kernel⟩
theorem fn_law_by_length (W : Wl g) : FnP g "_law_by_length" 3 (spP fun ds d => ∃ ls, ds = [lI ls] ∧ ls.length ≤ 1000 ∧ d = lI (byLen ls)) :=
  mkFn (st := s_law_by_length) W.d_law_by_length W.g_law_by_length sc_law_by_length (fun _ _ _ _ _ _ us hl => match us, hl with | [_], _ => rfl) (fun ds d h => by obtain ⟨ls, rfl, hl, rfl⟩ := h <;> rfl) fun ds d h => by
    obtain ⟨ls, rfl, hl, rfl⟩ := h
    refine sv_ret (ED.is (ed_map [("_law_size", 1), ("_law_lot", 2)] (as := (ls.map fun l => ((l.length : Int), l)).mergeSort pairLe) (g := dP) (fun z => tI z.2) sc_law_by_length.nd (by kernel_rfl) (iv_list (ed_sortP (ED.is (ed_map [("_law_lot", 2)] (as := ls) (g := tI) (fun l => .tup [.int l.length, tI l]) sc_law_by_length.nd (by kernel_rfl) (iv_list (ed_name 0 rfl)) (by omega) (fun l hl => ?_)) (congrArg Dt.lst (lens_map ls))) (by simpa using hl) W.f_sorted)) (by simp; omega) (fun z hz => ?_)) (congrArg Dt.lst (byLen_map ls))) rfl
    · exact ⟨_, [2], gv_name 2 sc_law_by_length.nd, by decide, ed_tup (ea_cons (ed_lenI (ed_name 2 rfl) W.f_len) (ea_cons (ed_name 2 rfl) ea_nil)) (Nat.le_of_ble_eq_true rfl)⟩
    · exact ⟨_, [1, 2], gv_pair 1 2 sc_law_by_length.nd, by decide, ed_name 2 rfl⟩
theorem sc_law_all : FnScope ["_law_many", "_law_found", "_law_thing", "_law_lot"] ["_law_many"] (defScope s_law_all) := ⟨rfl, rfl, rfl, by decide +kernel, rfl, by decide +kernel, by decide +kernel⟩
theorem fn_law_all (W : Wl g) : FnP g "_law_all" 4 (spP fun ds d => ∃ n : Nat, ds = [.int n] ∧ n ≤ 7 ∧ d = lI (every n)) :=
  mkFn (st := s_law_all) W.d_law_all W.g_law_all sc_law_all (fun _ _ _ _ _ _ us hl => match us, hl with | [_], _ => rfl) (fun ds d h => by obtain ⟨n, rfl, hn, rfl⟩ := h <;> rfl) fun ds d h => by
    obtain ⟨n, rfl, hn, rfl⟩ := h
    refine sv_set 1 (ed_lst (ea_cons (ed_tup ea_nil (by decide)) ea_nil) (by decide)) ?_ sc_law_all.nd
    refine sv_for (as := List.range n) (g := fun i => .int (i : Int)) (fun i ρ => ∃ t, ρ = [some (.int n), some (lI (allG i)), t, none]) (iv_rangeZ (ed_name 0 rfl) (by omega) (by omega) W.f_range) ⟨_, rfl⟩ (fun i a ρ' ha h => ?_) fun ρ' h => ?_
    · obtain ⟨t, rfl⟩ := h
      have hi : i < n ∧ a = i := by
        rw [List.getElem?_eq_some_iff] at ha
        obtain ⟨h1, h2⟩ := ha
        simp at h1 h2
        exact ⟨h1, h2.symm⟩
      obtain ⟨hi, rfl⟩ := hi
      have hz := allG_len7 (n := a) (by omega)
      refine ⟨_, [2], gv_name 2 sc_law_all.nd, ?_⟩
      refine sv_set 1 (ed_catL (ed_name 1 rfl) (ed_map [("_law_lot", 3)] (as := allG a) (g := tI) (fun l => tI (l ++ [(a : Int)])) sc_law_all.nd (by kernel_rfl) (iv_list (ed_name 1 rfl)) (by omega) (fun l hl => ?_)) (by simp; omega)) (sv_nil ⟨some (.int a), ?_⟩) sc_law_all.nd
      · have h2 := allG_lot a l hl
        exact ⟨_, [3], gv_name 3 sc_law_all.nd, by decide, ED.is (ed_catT (ed_name 3 rfl) (ed_tup (ea_cons (ed_name 2 rfl) ea_nil) (Nat.le_of_ble_eq_true rfl)) (by simp; omega)) (by unfold tI; rw [List.map_append]; rfl)⟩
      · have e : (allG a).map tI ++ (allG a).map (fun l => tI (l ++ [(a : Int)])) = (allG (a + 1)).map tI := by rw [allG, List.map_append, List.map_map]; rfl
        rw [e]
        rfl
    · obtain ⟨t, rfl⟩ := h
      rw [List.length_range]
      exact sv_ret (ed_call (fn_law_by_length W) (ea_cons (ed_name 1 rfl) ea_nil) ⟨_, rfl, by have := allG_len7 hn; omega, rfl⟩) rfl
/-- one thing out, another in -/
def exF (l : List Int) (one other : Int) : List Int := srtI (l.filter (fun x => !decide (x = one)) ++ [other])
theorem sc_law_exchanged : FnScope ["_law_lot", "_law_one", "_law_other", "_law_thing"] ["_law_lot", "_law_one", "_law_other"] (defScope s_law_exchanged) := ⟨rfl, rfl, rfl, by decide +kernel, rfl, by decide +kernel, by decide +kernel⟩
theorem fn_law_exchanged (W : Wl g) : FnP g "_law_exchanged" 2 (spP fun ds d => ∃ l a b, ds = [tI l, .int a, .int b] ∧ l.length ≤ 50 ∧ d = tI (exF l a b)) :=
  mkFn (st := s_law_exchanged) W.d_law_exchanged W.g_law_exchanged sc_law_exchanged (fun _ _ _ _ _ _ us hl => match us, hl with | [_, _, _], _ => rfl) (fun ds d h => by obtain ⟨l, a, b, rfl, hl, rfl⟩ := h <;> rfl) fun ds d h => by
    obtain ⟨l, a, b, rfl, hl, rfl⟩ := h
    have hf := List.length_filter_le (fun x : Int => !decide (x = a)) l
    refine sv_ret (ed_tupleL (ed_srtL (ns := l.filter (fun x => !decide (x = a)) ++ [b]) (ED.is (ed_catL (ed_flt [("_law_thing", 3)] (fun x => !decide (x = a)) Dt.int (as := l) (g := Dt.int) sc_law_exchanged.nd (by kernel_rfl) (iv_tup (ed_name 0 rfl)) (by omega) (fun x hx => ?_)) (ed_lst (ea_cons (ed_name 2 rfl) ea_nil) (Nat.le_of_ble_eq_true rfl)) (by simp; omega)) (by rw [List.map_append]; rfl)) (by simp; omega) W.f_sorted) W.f_tuple) rfl
    exact ⟨_, [3], gv_name 3 sc_law_exchanged.nd, by decide, et_cmp (ec_neI (ed_name 3 rfl) (ed_name 1 rfl)), fun _ => ed_name 3 rfl⟩
end Gl

namespace Gl
open PySem PySem.Spec L2 PyProof.Rows
variable {g : Pg}

def tru (ls : List (List Int)) : List (List Int × Dt) := ls.map fun l => (l, .bl true)
theorem tru_look (k : List Int) : ∀ ls : List (List Int), (tru ls).lookup k = if decide (k ∈ ls) then some (.bl true) else none
  | [] => by simp [tru]
  | l :: ls => by
    have ih := tru_look k ls
    unfold tru at ih ⊢
    rw [List.map_cons, List.lookup_cons]
    by_cases h : k = l
    · subst h
      rw [beq_self_eq_true]
      simp
    · rw [show (k == l) = false from by simpa using h, ih]
      by_cases h2 : k ∈ ls <;> simp [h, h2]
theorem tru_some (k : List Int) (ls : List (List Int)) : ((tru ls).lookup k).isSome = decide (k ∈ ls) := by
  rw [tru_look]
  by_cases h : k ∈ ls <;> simp [h]
theorem enum_eq (ls : List (List Int)) : ((ls.map tI).mapIdx fun i d => Dt.tup [.int i, d]) = (ls.mapIdx fun i l => ((i : Int), l)).map dP := by
  refine List.ext_getElem? fun i => ?_
  simp only [List.getElem?_mapIdx, List.getElem?_map]
  cases ls[i]? <;> rfl
theorem tru_snoc (ls : List (List Int)) (l : List Int) : tru ls ++ [(l, .bl true)] = tru (ls ++ [l]) := by
  unfold tru
  rw [List.map_append]
  rfl
theorem take_snoc {α : Type} {ls : List α} {i : Nat} {l : α} (h : ls[i]? = some l) : ls.take (i + 1) = ls.take i ++ [l] := by
  rw [List.take_add_one, h]
  rfl
theorem nodup_fresh {α : Type} {ls : List α} (nd : ls.Nodup) {i : Nat} {l : α} (h : ls[i]? = some l) : l ∉ ls.take i := by
  intro hm
  have h1 := List.getElem?_eq_some_iff.mp h
  obtain ⟨hi, he⟩ := h1
  (obtain ⟨j, hj⟩ := List.getElem?_of_mem hm)
  have hj2 : j < i ∧ ls[j]? = some l := by
    rw [List.getElem?_take] at hj
    split at hj
    · exact ⟨by assumption, hj⟩
    · cases hj
  obtain ⟨hji, hj3⟩ := hj2
  have h4 := (List.getElem?_eq_some_iff.mp hj3)
  obtain ⟨hj5, hj6⟩ := h4
  exact absurd ((List.getElem?_inj hj5 nd).mp (hj3.trans h.symm)) (Nat.ne_of_lt hji)
theorem sc_want_lots : FnScope ["many", "value", "seen", "position", "lot"] ["many", "value"] (defScope s_want_lots) := ⟨rfl, rfl, rfl, by decide +kernel, rfl, by decide +kernel, by decide +kernel⟩
theorem fn_want_lots (W : Wl g) : FnP g "want_lots" 6 (spP fun ds d => ∃ (m : Int) (ls : List (List Int)), ds = [.int m, lI ls] ∧ ls.Nodup ∧ (∀ l ∈ ls, lotF m l = true ∧ l.length ≤ 1000) ∧ ls.length ≤ 1000 ∧ d = lI (byLen ls)) :=
  mkFn (st := s_want_lots) W.d_want_lots W.g_want_lots sc_want_lots (fun _ _ _ _ _ _ us hl => match us, hl with | [_, _], _ => rfl) (fun ds d h => by obtain ⟨m, ls, rfl, nd, hok, hl, rfl⟩ := h <;> rfl) fun ds d h => by
    obtain ⟨m, ls, rfl, nd, hok, hl, rfl⟩ := h
    refine sv_skip (ET.is (et_not (et_val (ed_call (fn_is_list W) (ea_cons (ed_name 1 rfl) ea_nil) ⟨⟨_, .inl rfl⟩, rfl⟩))) rfl) ?_
    refine sv_new 2 en_dnew (fun D => ?_) sc_want_lots.nd
    refine sd_for (as := ls.mapIdx fun i l => ((i : Int), l)) (g := dP) (fun i ρ c => ∃ t u, ρ = [some (.int m), some (lI ls), some (.adr D), t, u] ∧ c = .dic (tru (ls.take i))) (by rw [← enum_eq]; exact iv_enum (ed_name 1 rfl) W.f_enumerate) ⟨_, _, rfl, rfl⟩ (fun i z ρ' c' hz h => ?_) fun ρ' c' h => ?_
    · obtain ⟨t, u, rfl, rfl⟩ := h
      rw [List.getElem?_mapIdx] at hz
      cases hx : ls[i]? with
      | none =>
        rw [hx] at hz
        cases hz
      | some l =>
        rw [hx] at hz
        have hz2 := Option.some.inj hz
        subst hz2
        have hm : l ∈ ls := List.mem_of_getElem? hx
        have hfr := nodup_fresh nd hx
        refine ⟨_, [3, 4], gv_pair 3 4 sc_want_lots.nd, ?_⟩
        refine sd_skip (etx_v 2 rfl (ET.is (et_w (ew_or (et_not (et_val (ed_call (fn_is_lot W) (ea_cons (ed_name 4 rfl) (ea_cons (ed_name 0 rfl) ea_nil)) ⟨l, m, rfl, (hok l hm).2, rfl⟩))) fun _ => ew_or1 (et_cmp (ec_inD (ed_name 4 rfl) (ed_name 2 rfl))))) ?_)) ?_
        · rw [(hok l hm).1, tru_some, decide_eq_false hfr]
          rfl
        refine sd_put 2 rfl (edx_h ed_bl) (ed_name 4 rfl) ?_ ?_ (sd_nil ⟨_, _, rfl, ?_⟩)
        · rw [tru_look, decide_eq_false hfr]
          rfl
        · unfold tru
          rw [List.length_map, List.length_take]
          omega
        · rw [tru_snoc, take_snoc hx]
    · obtain ⟨t, u, rfl, rfl⟩ := h
      exact sd_open (Rn' := fun _ => False) 2 rfl (sv_ret (ed_call (fn_by_length W) (ea_cons (ed_name 1 rfl) ea_nil) ⟨_, rfl, hl, rfl⟩) rfl) fun _ h => h
/-- hereditary, of bounded size -/
structure Here (ls : List (List Int)) : Prop where
  nd : ls.Nodup
  len : ls.length ≤ 1000
  lot : ∀ l ∈ ls, l.length ≤ 50
  nil : [] ∈ ls
  sub : ∀ l ∈ ls, ∀ t ∈ l, (l.filter fun x => !decide (x = t)) ∈ ls
theorem tru_dict (ls : List (List Int)) : ls.map (fun l => Dt.tup [tI l, .bl true]) = (tru ls).map fun p => .tup [tI p.1, p.2] := by
  unfold tru
  rw [List.map_map]
  rfl
theorem tru_keys (ls : List (List Int)) : (tru ls).map (·.1) = ls := by
  unfold tru
  rw [List.map_map]
  exact List.map_id ls
theorem sc_lacking_lot : FnScope ["lots", "seen", "found", "lot", "thing"] ["lots"] (defScope s_lacking_lot) := ⟨rfl, rfl, rfl, by decide +kernel, rfl, by decide +kernel, by decide +kernel⟩
theorem fn_lacking_lot (W : Wl g) : FnP g "lacking_lot" 4 (spP fun ds d => ∃ ls : List (List Int), ds = [lI ls] ∧ Here ls ∧ d = .non) :=
  mkFn (st := s_lacking_lot) W.d_lacking_lot W.g_lacking_lot sc_lacking_lot (fun _ _ _ _ _ _ us hl => match us, hl with | [_], _ => rfl) (fun ds d h => by obtain ⟨ls, rfl, hh, rfl⟩ := h <;> rfl) fun ds d h => by
    obtain ⟨ls, rfl, hh, rfl⟩ := h
    have htl : (tru ls).length = ls.length := by simp [tru]
    refine sv_set 1 (ed_dictP (kvs := tru ls) (ED.is (ed_map [("lot", 3)] (as := ls) (g := tI) (fun l => .tup [tI l, .bl true]) sc_lacking_lot.nd (by kernel_rfl) (iv_list (ed_name 0 rfl)) (by have := hh.len; omega) (fun l hl => ⟨_, [3], gv_name 3 sc_lacking_lot.nd, by decide, ed_tup (ea_cons (ed_name 3 rfl) (ea_cons ed_bl ea_nil)) (Nat.le_of_ble_eq_true rfl)⟩)) (by rw [tru_dict])) (by rw [tru_keys]; exact hh.nd) (by have := hh.len; omega) W.f_dict) ?_ sc_lacking_lot.nd
    refine sv_new (c := .lst []) 2 (en_if (k := true) (ET.is (et_cmp (ec_inD (kk := []) (ed_tup ea_nil (by decide)) (ed_name 1 rfl))) (by rw [tru_some, decide_eq_true hh.nil])) (fun _ => en_lst ea_nil (by decide)) fun h => by cases h) (fun D => ?_) sc_lacking_lot.nd
    refine sd_for (as := ls) (g := tI) (fun i ρ c => ∃ t, ρ = [some (lI ls), some (.dic (tru ls)), some (.adr D), t, none] ∧ c = .lst []) (iv_list (ed_name 0 rfl)) ⟨_, rfl, rfl⟩ (fun i l ρ' c' hx h => ?_) fun ρ' c' h => ?_
    · obtain ⟨t, rfl, rfl⟩ := h
      have hm : l ∈ ls := List.mem_of_getElem? hx
      have hl := hh.lot l hm
      refine ⟨_, [3], gv_name 3 sc_lacking_lot.nd, ?_⟩
      refine sd_ext (zs := []) 2 rfl (edx_h (ED.is (ed_flt [("thing", 4)] (fun _ => false) (fun _ => .non) (as := l) (g := Dt.int) sc_lacking_lot.nd (by kernel_rfl) (iv_tup (ed_name 3 rfl)) (by omega) (fun t ht => ?_)) ?_)) (by decide) (sd_nil ⟨_, rfl, rfl⟩)
      · refine ⟨_, [4], gv_name 4 sc_lacking_lot.nd, by decide, ET.is (et_cmp (ec_niD (ed_call (fn_less W) (ea_cons (ed_name 3 rfl) (ea_cons (ed_name 4 rfl) ea_nil)) ⟨l, t, rfl, by omega, rfl⟩) (ed_name 1 rfl))) ?_, fun z => by cases z⟩
        rw [tru_some, decide_eq_true (hh.sub l hm t ht)]
        rfl
      · simp
    · obtain ⟨t, rfl, rfl⟩ := h
      exact sd_open (Rn' := fun _ => False) 2 rfl (sv_ret (ed_if (k := false) (ET.is (et_cmp (ec_gt (ed_lenL (ed_name 2 rfl) W.f_len) ed_int)) rfl) (fun h => by cases h) fun _ => ed_non) rfl) fun _ h => h
def stuckF (ls : List (List Int)) (l o : List Int) : Bool := !(o.any fun t => !decide (t ∈ l) && decide (srtI (l ++ [t]) ∈ ls))
theorem sc_is_stuck : FnScope ["seen", "lot", "other", "thing"] ["seen", "lot", "other"] (defScope s_is_stuck) := ⟨rfl, rfl, rfl, by decide +kernel, rfl, by decide +kernel, by decide +kernel⟩
theorem fn_is_stuck (W : Wl g) : FnP g "is_stuck" 3 (spP fun ds d => ∃ (ls : List (List Int)) (l o : List Int), ds = [.dic (tru ls), tI l, tI o] ∧ l.length ≤ 50 ∧ o.length ≤ 50 ∧ d = .bl (stuckF ls l o)) :=
  mkFn (st := s_is_stuck) W.d_is_stuck W.g_is_stuck sc_is_stuck (fun _ _ _ _ _ _ us hl => match us, hl with | [_, _, _], _ => rfl) (fun ds d h => by obtain ⟨ls, l, o, rfl, hl, ho, rfl⟩ := h <;> rfl) fun ds d h => by
    obtain ⟨ls, l, o, rfl, hl, ho, rfl⟩ := h
    refine sv_ret (ed_not (ed_anyM (ed_map [("thing", 3)] (as := o) (g := Dt.int) (fun t => .bl (!decide (t ∈ l) && decide (srtI (l ++ [t]) ∈ ls))) sc_is_stuck.nd (by kernel_rfl) (iv_tup (ed_name 2 rfl)) (by omega) (fun t ht => ?_)) W.f_any)) rfl
    refine ⟨_, [3], gv_name 3 sc_is_stuck.nd, by decide, ED.is (ed_and (ed_cmp (ec_niI (ed_name 3 rfl) (ed_name 1 rfl) (.inl rfl))) fun _ => ed_one (ed_cmp (ec_inD (ed_call (fn_more_by W) (ea_cons (ed_name 1 rfl) (ea_cons (ed_name 3 rfl) ea_nil)) ⟨l, t, rfl, hl, rfl⟩) (ed_name 0 rfl)))) ?_⟩
    rw [tru_some]
def innF (ls : List (List Int)) (l : List Int) : List (List Int) → Option (List Int)
  | [] => none
  | o :: r => if decide ((l.length : Int) < (o.length : Int)) && stuckF ls l o then some o else innF ls l r
def outF (ls : List (List Int)) : List (List Int) → Option (List Int × List Int)
  | [] => none
  | l :: r => match innF ls l ls with
    | some o => some (l, o)
    | none => outF ls r
def pairF (ls : List (List Int)) : Option (List Int × List Int) := outF ls ls
def pairD : Option (List Int × List Int) → Dt
  | none => .non
  | some p => .tup [tI p.1, tI p.2]
theorem drop_at {α : Type} {ls : List α} {i : Nat} {l : α} (h : ls[i]? = some l) : ls.drop i = l :: ls.drop (i + 1) := by
  obtain ⟨hi, he⟩ := List.getElem?_eq_some_iff.mp h
  rw [List.drop_eq_getElem_cons hi, he]
theorem sc_stuck_pair : FnScope ["lots", "seen", "lot", "other"] ["lots"] (defScope s_stuck_pair) := ⟨rfl, rfl, rfl, by decide +kernel, rfl, by decide +kernel, by decide +kernel⟩
theorem fn_stuck_pair (W : Wl g) : FnP g "stuck_pair" 4 (spP fun ds d => ∃ ls : List (List Int), ds = [lI ls] ∧ ls.Nodup ∧ ls.length ≤ 1000 ∧ (∀ l ∈ ls, l.length ≤ 50) ∧ d = pairD (pairF ls)) :=
  mkFn (st := s_stuck_pair) W.d_stuck_pair W.g_stuck_pair sc_stuck_pair (fun _ _ _ _ _ _ us hl => match us, hl with | [_], _ => rfl) (fun ds d h => by obtain ⟨ls, rfl, nd, hz, hlot, rfl⟩ := h <;> rfl) fun ds d h => by
    obtain ⟨ls, rfl, nd, hz, hlot, rfl⟩ := h
    have htl : (tru ls).length = ls.length := by simp [tru]
    refine sv_set 1 (ed_dictP (kvs := tru ls) (ED.is (ed_map [("lot", 2)] (as := ls) (g := tI) (fun l => .tup [tI l, .bl true]) sc_stuck_pair.nd (by kernel_rfl) (iv_list (ed_name 0 rfl)) (by omega) (fun l hl => ⟨_, [2], gv_name 2 sc_stuck_pair.nd, by decide, ed_tup (ea_cons (ed_name 2 rfl) (ea_cons ed_bl ea_nil)) (Nat.le_of_ble_eq_true rfl)⟩)) (by rw [tru_dict])) (by rw [tru_keys]; exact nd) (by omega) W.f_dict) ?_ sc_stuck_pair.nd
    refine sv_for (as := ls) (g := tI) (fun i ρ => ∃ t u, ρ = [some (lI ls), some (.dic (tru ls)), t, u] ∧ outF ls (ls.drop i) = pairF ls) (iv_list (ed_name 0 rfl)) ⟨_, _, rfl, rfl⟩ (fun i l ρ' hx h => ?_) fun ρ' h => ?_
    · obtain ⟨t, u, rfl, hi⟩ := h
      rw [drop_at hx, outF] at hi
      have hl := hlot l (List.mem_of_getElem? hx)
      refine ⟨_, [2], gv_name 2 sc_stuck_pair.nd, ?_⟩
      refine sv_for (as := ls) (g := tI) (fun j ρ => ∃ u, ρ = [some (lI ls), some (.dic (tru ls)), some (tI l), u] ∧ innF ls l (ls.drop j) = innF ls l ls) (iv_list (ed_name 0 rfl)) ⟨_, rfl, rfl⟩ (fun j o ρ' hy h => ?_) fun ρ' h => ?_
      · obtain ⟨u, rfl, hj⟩ := h
        rw [drop_at hy, innF] at hj
        have ho := hlot o (List.mem_of_getElem? hy)
        refine ⟨_, [3], gv_name 3 sc_stuck_pair.nd, ?_⟩
        refine sv_if (et_w (ew_and (et_cmp (ec_lt (ed_lenI (ed_name 2 rfl) W.f_len) (ed_lenI (ed_name 3 rfl) W.f_len))) fun _ => ew_and1 (et_val (ed_call (fn_is_stuck W) (ea_cons (ed_name 1 rfl) (ea_cons (ed_name 2 rfl) (ea_cons (ed_name 3 rfl) ea_nil))) ⟨ls, l, o, rfl, hl, ho, rfl⟩)))) (fun hk => ?_) fun hk => sv_nil (sv_nil ⟨_, rfl, ?_⟩)
        · rw [if_pos hk] at hj
          rw [← hj] at hi
          refine sv_ret (ed_tup (ea_cons (ed_name 2 rfl) (ea_cons (ed_name 3 rfl) ea_nil)) (Nat.le_of_ble_eq_true rfl)) ?_
          rw [← hi]
          rfl
        · rw [if_neg (by rw [hk]; exact Bool.false_ne_true)] at hj
          exact hj
      · obtain ⟨u, rfl, hj⟩ := h
        rw [List.drop_length, innF] at hj
        rw [← hj] at hi
        exact sv_nil ⟨_, _, rfl, hi⟩
    · obtain ⟨t, u, rfl, hi⟩ := h
      rw [List.drop_length, outF] at hi
      exact sv_ret ed_non (by rw [← hi]; rfl)
end Gl

namespace Gl
open PySem PySem.Spec L2 PyProof.Rows
variable {g : Pg}

theorem sv_do {S : Sx} {q : Option Addr} {ρ : En} {d : Dt} {e : Expr} {pos : Pos} {sts : List Stmt} {Rn : En → Prop} {Rr : Dt → Prop} (h : ED S e ρ d) (k : SV S q sts ρ Rn Rr) (hs : ∀ env : Env, swapsWith e none pos.line env = pure false := by intro _; rfl) : SV S q (.Expr e pos :: sts) ρ Rn Rr :=
  sv_expr (R := fun _ => True) (EV.of h trivial) k hs
def faultD : Option (List Int × List Int) → Dt
  | none => .non
  | some p => .tup [.str "stuck", tI p.1, tI p.2]
theorem sc_fault_of : FnScope ["lots", "lot", "pair"] ["lots"] (defScope s_fault_of) := ⟨rfl, rfl, rfl, by decide +kernel, rfl, by decide +kernel, by decide +kernel⟩
theorem fn_fault_of (W : Wl g) : FnP g "fault_of" 5 (spP fun ds d => ∃ ls : List (List Int), ds = [lI ls] ∧ Here ls ∧ d = faultD (pairF ls)) :=
  mkFn (st := s_fault_of) W.d_fault_of W.g_fault_of sc_fault_of (fun _ _ _ _ _ _ us hl => match us, hl with | [_], _ => rfl) (fun ds d h => by obtain ⟨ls, rfl, hh, rfl⟩ := h <;> rfl) fun ds d h => by
    obtain ⟨ls, rfl, hh, rfl⟩ := h
    refine sv_set 1 (ed_call (fn_lacking_lot W) (ea_cons (ed_name 0 rfl) ea_nil) ⟨ls, rfl, hh, rfl⟩) ?_ sc_fault_of.nd
    refine sv_skip (et_cmp (ec_notN (ed_name 1 rfl))) ?_
    refine sv_set 2 (ed_call (fn_stuck_pair W) (ea_cons (ed_name 0 rfl) ea_nil) ⟨ls, rfl, hh.nd, hh.len, hh.lot, rfl⟩) ?_ sc_fault_of.nd
    cases e : pairF ls with
    | none => exact sv_ret (ed_if (k := true) (et_cmp (ec_isN (ed_name 2 rfl))) (fun _ => ed_non) fun h => by cases h) rfl
    | some p => exact sv_ret (ed_if (k := false) (et_cmp (ec_isS (ed_name (d := .tup [tI p.1, tI p.2]) 2 rfl) nn_tup)) (fun h => by cases h) fun _ => ed_tup (ea_cons ed_str (ea_cons (ed_ixT (ed_name (d := .tup [tI p.1, tI p.2]) 2 rfl) ed_int rfl) (ea_cons (ed_ixT (ed_name (d := .tup [tI p.1, tI p.2]) 2 rfl) ed_int rfl) ea_nil))) (Nat.le_of_ble_eq_true rfl)) rfl
theorem sc_want_house : FnScope ["lots"] ["lots"] (defScope s_want_house) := ⟨rfl, rfl, rfl, by decide +kernel, rfl, by decide +kernel, by decide +kernel⟩
theorem fn_want_house (W : Wl g) : FnP g "want_house" 6 (spP fun ds d => ∃ ls : List (List Int), ds = [lI ls] ∧ Here ls ∧ pairF ls = none ∧ d = .non) :=
  mkFn (st := s_want_house) W.d_want_house W.g_want_house sc_want_house (fun _ _ _ _ _ _ us hl => match us, hl with | [_], _ => rfl) (fun ds d h => by obtain ⟨ls, rfl, hh, hp, rfl⟩ := h <;> rfl) fun ds d h => by
    obtain ⟨ls, rfl, hh, hp, rfl⟩ := h
    exact sv_skip (et_cmp (ec_notN (ed_call (fn_fault_of W) (ea_cons (ed_name 0 rfl) ea_nil) ⟨ls, rfl, hh, by rw [hp]; rfl⟩))) (sv_nil rfl)
structure OkL (m : Int) (ls : List (List Int)) : Prop where
  m0 : 0 ≤ m
  m7 : m ≤ 7
  nd : ls.Nodup
  ok : ∀ l ∈ ls, lotF m l = true ∧ l.length ≤ 1000
  len : ls.length ≤ 1000
theorem sc_told_lots : FnScope ["many", "lots"] ["many", "lots"] (defScope s_told_lots) := ⟨rfl, rfl, rfl, by decide +kernel, rfl, by decide +kernel, by decide +kernel⟩
theorem fn_told_lots (W : Wl g) : FnP g "told_lots" 7 (spP fun ds d => ∃ (m : Int) (ls : List (List Int)), ds = [.int m, lI ls] ∧ OkL m ls ∧ d = lI (byLen ls)) :=
  mkFn (st := s_told_lots) W.d_told_lots W.g_told_lots sc_told_lots (fun _ _ _ _ _ _ us hl => match us, hl with | [_, _], _ => rfl) (fun ds d h => by obtain ⟨m, ls, rfl, ok, rfl⟩ := h <;> rfl) fun ds d h => by
    obtain ⟨m, ls, rfl, ok, rfl⟩ := h
    refine sv_do (ed_call (fn_want_things_many W) (ea_cons (ed_name 0 rfl) ea_nil) ⟨m, rfl, ok.m0, ok.m7, rfl⟩) ?_
    exact sv_ret (ed_call (fn_want_lots W) (ea_cons (ed_name 0 rfl) (ea_cons (ed_name 1 rfl) ea_nil)) ⟨m, ls, rfl, ok.nd, ok.ok, ok.len, rfl⟩) rfl
/-- a house, told -/
structure Hs (m : Int) (ls : List (List Int)) : Prop where
  ok : OkL m ls
  here : Here (byLen ls)
  no : pairF (byLen ls) = none
theorem sc_told_house : FnScope ["many", "lots", "found"] ["many", "lots"] (defScope s_told_house) := ⟨rfl, rfl, rfl, by decide +kernel, rfl, by decide +kernel, by decide +kernel⟩
theorem fn_told_house (W : Wl g) : FnP g "told_house" 8 (spP fun ds d => ∃ (m : Int) (ls : List (List Int)), ds = [.int m, lI ls] ∧ Hs m ls ∧ d = lI (byLen ls)) :=
  mkFn (st := s_told_house) W.d_told_house W.g_told_house sc_told_house (fun _ _ _ _ _ _ us hl => match us, hl with | [_, _], _ => rfl) (fun ds d h => by obtain ⟨m, ls, rfl, hs, rfl⟩ := h <;> rfl) fun ds d h => by
    obtain ⟨m, ls, rfl, hs, rfl⟩ := h
    refine sv_set 2 (ed_call (fn_told_lots W) (ea_cons (ed_name 0 rfl) (ea_cons (ed_name 1 rfl) ea_nil)) ⟨m, ls, rfl, hs.ok, rfl⟩) ?_ sc_told_house.nd
    refine sv_do (ed_call (fn_want_house W) (ea_cons (ed_name 2 rfl) ea_nil) ⟨_, rfl, hs.here, hs.no, rfl⟩) ?_
    exact sv_ret (ed_name 2 rfl) rfl
theorem sc_is_house : FnScope ["many", "lots"] ["many", "lots"] (defScope s_is_house) := ⟨rfl, rfl, rfl, by decide +kernel, rfl, by decide +kernel, by decide +kernel⟩
theorem fn_is_house (W : Wl g) : FnP g "is_house" 8 (spP fun ds d => ∃ (m : Int) (ls : List (List Int)), ds = [.int m, lI ls] ∧ OkL m ls ∧ Here (byLen ls) ∧ d = .bl (pairF (byLen ls)).isNone) :=
  mkFn (st := s_is_house) W.d_is_house W.g_is_house sc_is_house (fun _ _ _ _ _ _ us hl => match us, hl with | [_, _], _ => rfl) (fun ds d h => by obtain ⟨m, ls, rfl, ok, hh, rfl⟩ := h <;> rfl) fun ds d h => by
    obtain ⟨m, ls, rfl, ok, hh, rfl⟩ := h
    have h : ∀ {p p2 p3 p4 p5 p6 : Pos}, ED (g.S ["many", "lots"] (defScope s_is_house) 7) (.Call (.Name "fault_of" p) [.Call (.Name "told_lots" p2) [.Name "many" p3, .Name "lots" p4] [] p5] [] p6) (startD ["many", "lots"] [.int m, lI ls]) (faultD (pairF (byLen ls))) := fun {_ _ _ _ _ _} => ed_call (fn_fault_of W) (ea_cons (ed_call (fn_told_lots W) (ea_cons (ed_name 0 rfl) (ea_cons (ed_name 1 rfl) ea_nil)) ⟨m, ls, rfl, ok, rfl⟩) ea_nil) ⟨_, rfl, hh, rfl⟩
    cases e : pairF (byLen ls) with
    | none =>
      rw [e] at h
      exact sv_ret (ed_cmp (ec_isN h)) rfl
    | some p =>
      rw [e] at h
      exact sv_ret (ed_cmp (ec_isS h nn_tup)) rfl
theorem sc_bad_lot : FnScope ["many", "lots"] ["many", "lots"] (defScope s_bad_lot) := ⟨rfl, rfl, rfl, by decide +kernel, rfl, by decide +kernel, by decide +kernel⟩
theorem fn_bad_lot (W : Wl g) : FnP g "bad_lot" 8 (spP fun ds d => ∃ (m : Int) (ls : List (List Int)), ds = [.int m, lI ls] ∧ OkL m ls ∧ Here (byLen ls) ∧ d = faultD (pairF (byLen ls))) :=
  mkFn (st := s_bad_lot) W.d_bad_lot W.g_bad_lot sc_bad_lot (fun _ _ _ _ _ _ us hl => match us, hl with | [_, _], _ => rfl) (fun ds d h => by obtain ⟨m, ls, rfl, ok, hh, rfl⟩ := h <;> rfl) fun ds d h => by
    obtain ⟨m, ls, rfl, ok, hh, rfl⟩ := h
    exact sv_ret (ed_call (fn_fault_of W) (ea_cons (ed_call (fn_told_lots W) (ea_cons (ed_name 0 rfl) (ea_cons (ed_name 1 rfl) ea_nil)) ⟨m, ls, rfl, ok, rfl⟩) ea_nil) ⟨_, rfl, hh, rfl⟩) rfl
def greF (ls : List (List Int)) : List (List Int) := longF (byLen ls)
theorem sc_greatest : FnScope ["many", "lots"] ["many", "lots"] (defScope s_greatest) := ⟨rfl, rfl, rfl, by decide +kernel, rfl, by decide +kernel, by decide +kernel⟩
theorem fn_greatest (W : Wl g) : FnP g "greatest" 9 (spP fun ds d => ∃ (m : Int) (ls : List (List Int)), ds = [.int m, lI ls] ∧ Hs m ls ∧ d = lI (greF ls)) :=
  mkFn (st := s_greatest) W.d_greatest W.g_greatest sc_greatest (fun _ _ _ _ _ _ us hl => match us, hl with | [_, _], _ => rfl) (fun ds d h => by obtain ⟨m, ls, rfl, hs, rfl⟩ := h <;> rfl) fun ds d h => by
    obtain ⟨m, ls, rfl, hs, rfl⟩ := h
    exact sv_ret (ed_call (fn_longest_of W) (ea_cons (ed_call (fn_told_house W) (ea_cons (ed_name 0 rfl) (ea_cons (ed_name 1 rfl) ea_nil)) ⟨m, ls, rfl, hs, rfl⟩) ea_nil) ⟨_, rfl, hs.here.len, rfl⟩) rfl
def witF (t : Int) (ls : List (List Int)) : List (List Int) := (byLen ls).filter fun l => !decide (t ∈ l)
theorem sc_without : FnScope ["many", "lots", "thing", "found", "lot"] ["many", "lots", "thing"] (defScope s_without) := ⟨rfl, rfl, rfl, by decide +kernel, rfl, by decide +kernel, by decide +kernel⟩
theorem fn_without (W : Wl g) : FnP g "without" 9 (spP fun ds d => ∃ (m t : Int) (ls : List (List Int)), ds = [.int m, lI ls, .int t] ∧ Hs m ls ∧ 0 ≤ t ∧ t < m ∧ d = lI (witF t ls)) :=
  mkFn (st := s_without) W.d_without W.g_without sc_without (fun _ _ _ _ _ _ us hl => match us, hl with | [_, _, _], _ => rfl) (fun ds d h => by obtain ⟨m, t, ls, rfl, hs, h0, h1, rfl⟩ := h <;> rfl) fun ds d h => by
    obtain ⟨m, t, ls, rfl, hs, h0, h1, rfl⟩ := h
    refine sv_set 3 (ed_call (fn_told_lots W) (ea_cons (ed_name 0 rfl) (ea_cons (ed_name 1 rfl) ea_nil)) ⟨m, ls, rfl, hs.ok, rfl⟩) ?_ sc_without.nd
    refine sv_do (ed_call (fn_want_thing W) (ea_cons (ed_name 2 rfl) (ea_cons (ed_name 0 rfl) ea_nil)) ⟨t, m, rfl, h0, h1, rfl⟩) ?_
    refine sv_do (ed_call (fn_want_house W) (ea_cons (ed_name 3 rfl) ea_nil) ⟨_, rfl, hs.here, hs.no, rfl⟩) ?_
    exact sv_ret (ed_flt [("lot", 4)] (fun l => !decide (t ∈ l)) tI (as := byLen ls) (g := tI) sc_without.nd (by kernel_rfl) (iv_list (ed_name 3 rfl)) (by have := hs.here.len; omega) (fun l hl => ⟨_, [4], gv_name 4 sc_without.nd, by decide, et_cmp (ec_niI (ed_name 2 rfl) (ed_name 4 rfl) (.inl rfl)), fun _ => ed_name 4 rfl⟩)) rfl
def havF (t : Int) (ls : List (List Int)) : List (List Int) := byLen (((byLen ls).filter fun l => decide (t ∈ l)).map fun l => l.filter fun x => !decide (x = t))
theorem sc_having : FnScope ["many", "lots", "thing", "found", "lot"] ["many", "lots", "thing"] (defScope s_having) := ⟨rfl, rfl, rfl, by decide +kernel, rfl, by decide +kernel, by decide +kernel⟩
theorem fn_having (W : Wl g) : FnP g "having" 9 (spP fun ds d => ∃ (m t : Int) (ls : List (List Int)), ds = [.int m, lI ls, .int t] ∧ Hs m ls ∧ 0 ≤ t ∧ t < m ∧ [t] ∈ byLen ls ∧ d = lI (havF t ls)) :=
  mkFn (st := s_having) W.d_having W.g_having sc_having (fun _ _ _ _ _ _ us hl => match us, hl with | [_, _, _], _ => rfl) (fun ds d h => by obtain ⟨m, t, ls, rfl, hs, h0, h1, ht, rfl⟩ := h <;> rfl) fun ds d h => by
    obtain ⟨m, t, ls, rfl, hs, h0, h1, ht, rfl⟩ := h
    have hz := List.length_filter_le (fun l => decide (t ∈ l)) (byLen ls)
    have hz2 := hs.here.len
    refine sv_set 3 (ed_call (fn_told_lots W) (ea_cons (ed_name 0 rfl) (ea_cons (ed_name 1 rfl) ea_nil)) ⟨m, ls, rfl, hs.ok, rfl⟩) ?_ sc_having.nd
    refine sv_do (ed_call (fn_want_thing W) (ea_cons (ed_name 2 rfl) (ea_cons (ed_name 0 rfl) ea_nil)) ⟨t, m, rfl, h0, h1, rfl⟩) ?_
    refine sv_do (ed_call (fn_want_house W) (ea_cons (ed_name 3 rfl) ea_nil) ⟨_, rfl, hs.here, hs.no, rfl⟩) ?_
    refine sv_skip (ET.is (et_cmp (ec_niT (ns := [t]) (ed_tup (ea_cons (ed_name 2 rfl) ea_nil) (Nat.le_of_ble_eq_true rfl)) (ed_name 3 rfl))) (by rw [decide_eq_true ht]; rfl)) ?_
    refine sv_ret (ed_call (fn_by_length W) (ea_cons (ED.is (ed_flt [("lot", 4)] (fun l => decide (t ∈ l)) (fun l => tI (l.filter fun x => !decide (x = t))) (as := byLen ls) (g := tI) sc_having.nd (by kernel_rfl) (iv_list (ed_name 3 rfl)) (by omega) (fun l hl => ⟨_, [4], gv_name 4 sc_having.nd, by decide, et_cmp (ec_inI (ed_name 2 rfl) (ed_name 4 rfl) (.inl rfl)), fun _ => ed_call (fn_less W) (ea_cons (ed_name 4 rfl) (ea_cons (ed_name 2 rfl) ea_nil)) ⟨l, t, rfl, by have := hs.here.lot l hl; omega, rfl⟩⟩)) ?_) ea_nil) ⟨((byLen ls).filter fun l => decide (t ∈ l)).map fun l => l.filter fun x => !decide (x = t), rfl, by rw [List.length_map]; omega, rfl⟩) rfl
    unfold lI
    rw [List.map_map]
    rfl
theorem byLen_length (ls : List (List Int)) : (byLen ls).length = ls.length := by simp [byLen]
theorem every_len {n : Nat} (h : n ≤ 7) : (every n).length ≤ 128 := by
  unfold every
  rw [byLen_length]
  exact allG_len7 h
def mirF (n : Nat) (ls : List (List Int)) : List (List Int) := (every n).filter fun l => (greF ls).any fun top => !(l.any fun t => decide (t ∈ top))
theorem byLen_mem {ls : List (List Int)} {l : List Int} : l ∈ byLen ls ↔ l ∈ ls := by
  unfold byLen
  rw [List.mem_map]
  constructor
  · rintro ⟨z, hz, rfl⟩
    obtain ⟨m, hm, rfl⟩ := List.mem_map.mp (List.mem_mergeSort.mp hz)
    exact hm
  · intro h
    exact ⟨_, List.mem_mergeSort.mpr (List.mem_map.mpr ⟨l, h, rfl⟩), rfl⟩
theorem sc_mirror : FnScope ["many", "lots", "tops", "lot", "top", "thing"] ["many", "lots"] (defScope s_mirror) := ⟨rfl, rfl, rfl, by decide +kernel, rfl, by decide +kernel, by decide +kernel⟩
theorem fn_mirror (W : Wl g) : FnP g "mirror" 9 (spP fun ds d => ∃ (n : Nat) (ls : List (List Int)), ds = [.int n, lI ls] ∧ n ≤ 7 ∧ Hs n ls ∧ d = lI (mirF n ls)) :=
  mkFn (st := s_mirror) W.d_mirror W.g_mirror sc_mirror (fun _ _ _ _ _ _ us hl => match us, hl with | [_, _], _ => rfl) (fun ds d h => by obtain ⟨n, ls, rfl, hn, hs, rfl⟩ := h <;> rfl) fun ds d h => by
    obtain ⟨n, ls, rfl, hn, hs, rfl⟩ := h
    have hz : (greF ls).length ≤ 1000 := Nat.le_trans (List.length_filter_le _ _) hs.here.len
    have he := every_len hn
    refine sv_set 2 (ed_call (fn_longest_of W) (ea_cons (ed_call (fn_told_house W) (ea_cons (ed_name 0 rfl) (ea_cons (ed_name 1 rfl) ea_nil)) ⟨n, ls, rfl, hs, rfl⟩) ea_nil) ⟨_, rfl, hs.here.len, rfl⟩) ?_ sc_mirror.nd
    refine sv_ret (ed_flt [("lot", 3)] (fun l => (greF ls).any fun top => !(l.any fun t => decide (t ∈ top))) tI (as := every n) (g := tI) sc_mirror.nd (by kernel_rfl) (iv_list (ed_call (fn_all_lots W) (ea_cons (ed_name 0 rfl) ea_nil) ⟨n, rfl, hn, rfl⟩)) (by omega) (fun l hl => ⟨_, [3], gv_name 3 sc_mirror.nd, by decide, et_val (ed_anyM (ed_map [("top", 4)] (as := greF ls) (g := tI) (fun top => .bl (!(l.any fun t => decide (t ∈ top)))) sc_mirror.nd (by kernel_rfl) (iv_list (ed_name 2 rfl)) (by omega) (fun top htop => ⟨_, [4], gv_name 4 sc_mirror.nd, by decide, ed_not (ed_anyM (ed_map [("thing", 5)] (as := l) (g := Dt.int) (fun t => .bl (decide (t ∈ top))) sc_mirror.nd (by kernel_rfl) (iv_tup (ed_name 3 rfl)) ?_ (fun t ht => ⟨_, [5], gv_name 5 sc_mirror.nd, by decide, ed_cmp (ec_inI (ed_name 5 rfl) (ed_name 4 rfl) (.inl rfl))⟩)) W.f_any)⟩)) W.f_any), fun _ => ed_name 3 rfl⟩)) rfl
    have h2 := allG_lot n l (byLen_mem.mp hl)
    omega
end Gl

namespace Gl
open PySem PySem.Spec L2 PyProof.Rows
variable {g : Pg}

theorem sc_Ratio_init : FnScope ["self", "top", "bottom", "common"] ["self", "top", "bottom"] (defScope s_Ratio_init) := ⟨rfl, rfl, rfl, by decide +kernel, rfl, by decide +kernel, by decide +kernel⟩
abbrev cR (K : PySem.W.Frag) : Addr := He.ga K "Ratio"
abbrev cA (K : PySem.W.Frag) : Addr := He.ga K "Amounts"
abbrev cB (K : PySem.W.Frag) : Addr := He.ga K "Blend"
/-- the number one -/
def r1 (K : PySem.W.Frag) : Dt := .ins (cR K) [("own_top", .int 1), ("own_bottom", .int 1)]
def gRatio : List Dt → List (Str × Dt) → Prop := fun ds fs => ds = [.int 1, .int 1] ∧ fs = ([("own_top", .int 1), ("own_bottom", .int 1)] : List (Str × Dt))
theorem ratio_body (W : Wl g) (D : Addr) (ds : List Dt) (fs : List (Str × Dt)) (h : gRatio ds fs) : SD (g.S ["self", "top", "bottom", "common"] (defScope s_Ratio_init) 3) D (defBody s_Ratio_init) (startD ["self", "top", "bottom", "common"] (.adr D :: ds)) (.ins (cR g.K) []) (fun _ c => c = .ins (cR g.K) fs) (fun _ => False) := by
  obtain ⟨rfl, rfl⟩ := h
  refine sd_skip (etx_h (ET.is (et_not (et_val (ed_call (fn_is_integer W) (ea_cons (ed_name 1 rfl) ea_nil) ⟨1, rfl, rfl⟩))) rfl)) ?_
  refine sd_skip (etx_h (ET.is (et_w (ew_or (et_not (et_val (ed_call (fn_is_integer W) (ea_cons (ed_name 2 rfl) ea_nil) ⟨1, rfl, rfl⟩))) fun _ => ew_or1 (et_cmp (ec_eqI (ed_name 2 rfl) ed_int)))) rfl)) ?_
  refine sd_set 3 (edx_h (ed_call (fn_common_part W) (ea_cons (ed_name 1 rfl) (ea_cons (ed_name 2 rfl) ea_nil)) ⟨rfl, rfl⟩)) ?_ sc_Ratio_init.nd
  refine sd_skip (etx_h (ET.is (et_cmp (ec_lt (ed_name 2 rfl) ed_int)) rfl)) ?_
  refine sd_fld 0 rfl (edx_h (ed_fdiv (ed_name 1 rfl) (ed_name 3 rfl) ⟨by decide, by decide⟩)) rfl (by decide) W.c_Ratio W.n_Ratio_own_top ?_
  refine sd_fld 0 rfl (edx_h (ed_fdiv (ed_name 2 rfl) (ed_name 3 rfl) ⟨by decide, by decide⟩)) rfl (by decide) W.c_Ratio W.n_Ratio_own_bottom ?_
  exact sd_nil rfl
theorem mk_Ratio (W : Wl g) : MkP g "Ratio" 4 (cR g.K) [] gRatio := by
  obtain ⟨fd, F⟩ := W.d_Ratio_init
  obtain ⟨dus, hv, hb⟩ := F.binds1 (ps := ["self", "top", "bottom"]) 3 1 (fun z => by cases z) rfl fun T kV doc pm an cdv ct us its hl hi => match us, hl, its, hi with | [_, _, _], _, [_], _ => ⟨_, rfl, rfl⟩
  exact ⟨_, fd, _, dus, [], W.g_Ratio, W.k_Ratio, initOk F sc_Ratio_init (fun ds fs h => by obtain ⟨rfl, _⟩ := h; rfl) (ratio_body W), hb, hv, fun H => rfl⟩
theorem mk_Ratio1 (W : Wl g) : MkP g "Ratio" 4 (cR g.K) [.int 1] gRatio := by
  obtain ⟨fd, F⟩ := W.d_Ratio_init
  obtain ⟨dus, hv, hb⟩ := F.binds1 (ps := ["self", "top", "bottom"]) 2 0 (fun z => by cases z) rfl fun T kV doc pm an cdv ct us its hl hi => match us, hl, its, hi with | [_, _], _, [_], _ => ⟨_, rfl, rfl⟩
  exact ⟨_, fd, _, dus, [.int 1], W.g_Ratio, W.k_Ratio, initOk F sc_Ratio_init (fun ds fs h => by obtain ⟨rfl, _⟩ := h; rfl) (ratio_body W), hb, hv, fun H => ⟨_, _, rfl, rfl, rfl⟩⟩
theorem sc_ratio_of : FnScope ["number"] ["number"] (defScope s_ratio_of) := ⟨rfl, rfl, rfl, by decide +kernel, rfl, by decide +kernel, by decide +kernel⟩
theorem fn_ratio_of (W : Wl g) : FnP g "ratio_of" 6 (spP fun ds d => ds = [.int 1] ∧ d = r1 g.K) :=
  mkFn (st := s_ratio_of) W.d_ratio_of W.g_ratio_of sc_ratio_of (fun _ _ _ _ _ _ us hl => match us, hl with | [_], _ => rfl) (fun ds d h => by obtain ⟨rfl, rfl⟩ := h <;> rfl) fun ds d h => by
    obtain ⟨rfl, rfl⟩ := h
    exact sv_ret (ed_if (k := false) (et_val (ed_isC (ed_name 0 rfl) (ed_globR W.g_Ratio) kd_int W.says.x.intRa W.f_isinstance)) (fun h => by cases h) fun _ => ed_make (mk_Ratio1 W) (ea_cons (ed_name 0 rfl) ea_nil) ⟨rfl, rfl⟩) rfl
theorem sc_pair_product : FnScope ["one", "other"] ["one", "other"] (defScope s_pair_product) := ⟨rfl, rfl, rfl, by decide +kernel, rfl, by decide +kernel, by decide +kernel⟩
theorem fn_pair_product (W : Wl g) : FnP g "pair_product" 6 (spP fun ds d => ds = [r1 g.K, r1 g.K] ∧ d = r1 g.K) :=
  mkFn (st := s_pair_product) W.d_pair_product W.g_pair_product sc_pair_product (fun _ _ _ _ _ _ us hl => match us, hl with | [_, _], _ => rfl) (fun ds d h => by obtain ⟨rfl, rfl⟩ := h <;> rfl) fun ds d h => by
    obtain ⟨rfl, rfl⟩ := h
    have h1 : ∀ {i : Nat} {x f : Str} {k : Nat} {p p2 : Pos} {ρ : En}, (ρ[i]? = some (some (r1 g.K))) → (["one", "other"] : List Str)[i]? = some x → Vis (defScope s_pair_product) x → (x == ("__debug__" : Str)) = false → (x == ("__classdict__" : Str)) = false → ([("own_top", .int 1), ("own_bottom", .int 1)] : List (Str × Dt)).lookup f = some (.int 1) → NoAttr g.K (cR g.K) f → (∀ env : Env, attributeBase (.Name x p) f env (eval (.Name x p) env) = eval (.Name x p) env) →
        ED (g.S ["one", "other"] (defScope s_pair_product) k) (.Attribute (.Name x p) f p2) ρ (.int 1) := fun h1 h2 h3 h4 h5 h6 h7 h8 => ed_fld (C := cR g.K) (ed_name _ h1 h2 h3 h4 h5) h6 W.c_Ratio h7 h8
    refine sv_ret (ed_make (mk_Ratio W) (ea_cons (ed_mul (h1 (i := 0) rfl rfl (Or.inl rfl) rfl rfl rfl W.n_Ratio_own_top (fun _ => rfl)) (h1 (i := 1) rfl rfl (Or.inl rfl) rfl rfl rfl W.n_Ratio_own_top (fun _ => rfl)) (.inl (by decide))) (ea_cons (ed_mul (h1 (i := 0) rfl rfl (Or.inl rfl) rfl rfl rfl W.n_Ratio_own_bottom (fun _ => rfl)) (h1 (i := 1) rfl rfl (Or.inl rfl) rfl rfl rfl W.n_Ratio_own_bottom (fun _ => rfl)) (.inl (by decide))) ea_nil)) ⟨rfl, rfl⟩) rfl
theorem sc_wholes : FnScope ["ratios", "bottom", "ratio"] ["ratios"] (defScope s_wholes) := ⟨rfl, rfl, rfl, by decide +kernel, rfl, by decide +kernel, by decide +kernel⟩
theorem fn_wholes (W : Wl g) : FnP g "wholes" 5 (spP fun ds d => ∃ ks : List (List Int), ds = [.lst (ks.map fun _ => r1 g.K)] ∧ ks.length ≤ 1000 ∧ d = .tup [.int 1, .lst (ks.map fun _ => .int 1)]) :=
  mkFn (st := s_wholes) W.d_wholes W.g_wholes sc_wholes (fun _ _ _ _ _ _ us hl => match us, hl with | [_], _ => rfl) (fun ds d h => by obtain ⟨ks, rfl, hl, rfl⟩ := h <;> rfl) fun ds d h => by
    obtain ⟨ks, rfl, hl, rfl⟩ := h
    refine sv_set 1 ed_int ?_ sc_wholes.nd
    refine sv_for (as := ks) (g := fun _ => r1 g.K) (fun i ρ => ∃ t, ρ = [some (.lst (ks.map fun _ => r1 g.K)), some (.int 1), t]) (iv_list (ed_name 0 rfl)) ⟨_, rfl⟩ (fun i k ρ' hx h => ?_) fun ρ' h => ?_
    · obtain ⟨t, rfl⟩ := h
      refine ⟨_, [2], gv_name 2 sc_wholes.nd, ?_⟩
      exact sv_set 1 (ed_call (fn_common_bottom W) (ea_cons (ed_name 1 rfl) (ea_cons (ed_fld (C := cR g.K) (ed_name 2 rfl) rfl W.c_Ratio W.n_Ratio_own_bottom) ea_nil)) ⟨rfl, rfl⟩) (sv_nil ⟨_, rfl⟩) sc_wholes.nd
    · obtain ⟨t, rfl⟩ := h
      refine sv_ret (ed_tup (ea_cons (ed_name 1 rfl) (ea_cons (ed_map [("ratio", 2)] (fun _ => .int 1) (as := ks) (g := fun _ => r1 g.K) sc_wholes.nd (by kernel_rfl) (iv_list (ed_name 0 rfl)) (by omega) (fun k hk => ?_)) ea_nil)) (Nat.le_of_ble_eq_true rfl)) rfl
      exact ⟨_, [2], gv_name 2 sc_wholes.nd, by decide, ED.is (ed_mul (ed_fld (C := cR g.K) (ed_name 2 rfl) rfl W.c_Ratio W.n_Ratio_own_top) (ed_fdiv (ed_name 1 rfl) (ed_fld (C := cR g.K) (ed_name 2 rfl) rfl W.c_Ratio W.n_Ratio_own_bottom) ⟨by decide, by decide⟩) (.inl (by decide))) rfl⟩
theorem sc_Amounts_init : FnScope ["self", "amounts"] ["self", "amounts"] (defScope s_Amounts_init) := ⟨rfl, rfl, rfl, by decide +kernel, rfl, by decide +kernel, by decide +kernel⟩
def gAmounts : List Dt → List (Str × Dt) → Prop := fun ds fs => ∃ kvs, ds = [.dic kvs] ∧ fs = ([("own_dict", .dic kvs)] : List (Str × Dt))
theorem mk_Amounts (W : Wl g) : MkP g "Amounts" 2 (cA g.K) [] gAmounts := by
  obtain ⟨fd, F⟩ := W.d_Amounts_init
  have hb := F.bindsN (ps := ["self", "amounts"]) fun _ _ _ _ _ _ us hl => match us, hl with | [_, _], _ => rfl
  refine ⟨_, fd, _, [], [], W.g_Amounts, W.k_Amounts, initOk F sc_Amounts_init (fun ds fs h => by obtain ⟨_, rfl, _⟩ := h; rfl) (fun D ds fs h => ?_), hb, .nil, fun H => rfl⟩
  obtain ⟨kvs, rfl, rfl⟩ := h
  exact sd_fld 0 rfl (edx_h (ed_name 1 rfl)) rfl (by decide) W.c_Amounts W.n_Amounts_own_dict (sd_nil rfl)

end Gl

namespace Gl
open PySem PySem.Spec L2 PyProof.Rows

/-! ### methods -/
structure MtP (g : Pg) (C : Addr) (m : Str) (k : Nat) (G : List Dt → Dt → Prop) : Prop where
  ex : ∃ (f : Addr) (fd : FuncData) (ps : List Str), Meth g.K C m f ∧ FnOk g.prog g.w g.K g.mg g.base CX0 k f fd ps (spP G) ∧ Binds g.K fd ps []
theorem mkM {g : Pg} {nm qual m : Str} {st : Stmt} {N ps : List Str} {k : Nat} {C f : Addr} {G : List Dt → Dt → Prop} (hf : ∃ fd, FunD g.K nm qual (defArgs st) (defBody st) (defScope st) [] [] f fd) (hm : Meth g.K C m f) (sc : FnScope N ps (defScope st))
    (hb : ∀ (kV doc pm : Value) (an : Option Addr) (cdv ct : Value) (us : List Value), us.length = ps.length → bindArgs (PySem.W.fnOf nm qual (defArgs st) (defBody st) (defScope st) .none kV doc pm an cdv ct) ⟨us, []⟩ = pure (ps.zip us))
    (len : ∀ ds d, G ds d → ds.length = ps.length) (body : ∀ ds d, G ds d → SV (g.S N (defScope st) k) none (defBody st) (startD N ds) (fun _ => d = .non) (fun z => z = d)) : MtP g C m (k + 1) G := by
  obtain ⟨fd, F⟩ := hf
  refine ⟨f, fd, ps, hm, F.ok sc (fun vs H Q E h => ?_) (fun cdv A outer s H vs Q E hr h => ?_), F.bindsN hb⟩
  · obtain ⟨P, ds, d, _, r, hG, _⟩ := h
    rw [r.length, len ds d hG]
  · obtain ⟨P, ds, d, pk, r, hG, kq⟩ := h
    refine ⟨wSs _ (defBody st), pss_w, ?_⟩
    refine body ds d hG _ ?has P _ H ⟨pk, fun p z => by cases z⟩ r.start _ (fun σ' ρ' H' go _ e => ?_) fun v z H' go rp e => ?_
    case has => exact ⟨rfl, rfl, rfl, rfl, rfl, rfl, rfl, fun _ _ => rfl, hr, rfl⟩
    · rw [e] at kq
      exact kq .non H' go.none rfl
    · rw [show z = d from e] at rp
      exact kq v H' go.none rp
/-- an instance's type, as the model looks -/
theorem ins_look {X : Cx} {pins : List (Addr × Obj)} {σ : L2.St} {H : Hp} {s : Shared} {a C dx : Addr} {fs : List (Str × V)} (I : Inv X pins σ H s) (h : H a = some (.ins C dx fs)) : ∃ od, PySem.W.InstAt s.heap a (PySem.W.instObj C dx) C od := by
  obtain ⟨mA, J, _⟩ := ins_get I.hok h
  obtain ⟨od, J, _⟩ := J.look
  exact ⟨od, J⟩
def rOwn (sp : Sp) (C : Addr) : R2 := fun x y H Q => ∃ (a b dx dy : Addr) (fs gs : List (Str × V)), x = .ref a ∧ y = .ref b ∧ H a = some (.ins C dx fs) ∧ H b = some (.ins C dy gs) ∧ sp [.ref a, .ref b] H (fun v H' => (∃ c, v = .ref c) ∧ Q v H') (fun _ _ _ => False)
theorem op_own {X : Cx} {op : Operator} {C f : Addr} {fd : FuncData} {ps : List Str} {k : Nat} {sp : Sp} (F : FnOk X.prog X.w X.K X.mg X.base CX0 k f fd ps sp) (hr : Room k X.A) (hb : Binds X.K fd ps []) (M : Meth X.K C (PySem.dunder op.info.2) f) (hc : PySem.W.selfFirst X.K C = true) : OpR X (binaryOp op) (rOwn sp C) := by
  (intro pins s σ H x y v u Q I rx ry h)
  obtain ⟨a, b, dx, dy, fs, gs, rfl, rfl, ha, hb2, h⟩ := h
  cases rx
  cases ry
  obtain ⟨od, J⟩ := ins_look I ha
  obtain ⟨od', J'⟩ := ins_look I hb2
  obtain ⟨m, hF⟩ := I.fr
  refine PySem.W.binop_K hF I.ok.mod.kin J J'.type hc M.at_ M.fn ?_
  (have r2 : Vals [V.ref a, V.ref b] [Value.ref a, Value.ref b] := .cons rfl (.cons rfl .nil))
  refine wpAny_mono (run_fn (dvs := []) F hr hb .nil pass0 I r2 h) (fun w s' q => ?_) fun _ _ z => z
  obtain ⟨z, H', I', rz, ⟨c, rfl⟩, q⟩ := q
  cases rz
  exact ⟨.ref c, H', I', rfl, q⟩
section
variable {S : Sx} {ρ : En} {d : Dt} {a b : Expr} {pos : Pos} {k : Nat}
/-- a op b, by an own method -/
theorem ed_own {op : Operator} {C : Addr} {m : Str} {fs gs hs : List (Str × Dt)} {G : List Dt → Dt → Prop} (F : MtP S.pg C m k G) (hm : PySem.dunder op.info.2 = m) (hc : PySem.W.selfFirst S.K C = true) (ha : ED S a ρ (.ins C fs)) (hb : ED S b ρ (.ins C gs)) (hG : G [.ins C fs, .ins C gs] (.ins C hs)) (hk : k ≤ S.k := by exact Nat.le_of_ble_eq_true rfl) : ED S (.BinOp a op b pos) ρ (.ins C hs) := by
  obtain ⟨fa, fd, ps, h2, h3, h4⟩ := F.ex
  refine ed_op (r := rOwn (spP G) C) (fun X hX => ?_) ha hb fun P H x y pk rx ry Q z => ?_
  · exact op_own (hX.fnok h3) (hX.room.mono hk) (by rw [hX.K]; exact h4) (by rw [hX.K, hm]; exact h2) (by rw [hX.K]; exact hc)
  · obtain ⟨o1, dx, ws, rfl, g1, k1⟩ := id rx
    obtain ⟨o2, dy, us, rfl, g2, k2⟩ := id ry
    refine ⟨o1, o2, dx, dy, ws, us, rfl, rfl, (hid_some g1).2, (hid_some g2).2, P, [.ins C fs, .ins C gs], .ins C hs, pk, .cons rx (.one ry), hG, fun v H' s r => ⟨?_, z v H' s r⟩⟩
    obtain ⟨o3, _, _, e, _⟩ := r
    exact ⟨o3, e⟩
end

/-! ### == -/
theorem FnOk.weak {prog : Program} {w : World} {K : PySem.W.Frag} {mg : Str → Option Value} {base : Heap} {k : Nat} {f : Addr} {fd : FuncData} {ps : List Str} {sp sp' : Sp} (F : FnOk prog w K mg base CX0 k f fd ps sp) (h : ∀ vs H Q E, sp' vs H Q E → sp vs H Q E) : FnOk prog w K mg base CX0 k f fd ps sp' :=
  ⟨fun vs H Q E x => F.len vs H Q E (h _ _ _ _ x), fun A stk s H args us vs Q E hr e0 hb hv x => F.run A stk s H args us vs Q E hr e0 hb hv (h _ _ _ _ x)⟩
/-- the two data are told equal by the own == of class C -/
def REq (G : List Dt → Dt → Prop) (dA dB : Dt) : Addr → Addr → Hp → Prop := fun a b H => ∃ P, Pok P H ∧ Rep (hid P H) dA (.ref a) ∧ Rep (hid P H) dB (.ref b) ∧ G [dA, dB] (.bl true)
theorem spEq_le {G : List Dt → Dt → Prop} {dA dB : Dt} : ∀ vs H Q E, spEq (REq G dA dB) vs H Q E → spP G vs H Q E := fun vs H Q E h => by
  obtain ⟨a, b, rfl, ⟨P, pk, r1, r2, hG⟩, q⟩ := h
  refine ⟨P, [dA, dB], .bl true, pk, .cons r1 (.one r2), hG, fun v H' s r => ?_⟩
  rw [show v = .bl true from r]
  exact q H' s
theorem REq.mon {G : List Dt → Dt → Prop} {dA dB : Dt} : ∀ a b H H', Ext H H' → REq G dA dB a b H → REq G dA dB a b H' := fun a b H H' e h => by
  obtain ⟨P, pk, r1, r2, hG⟩ := h
  have s : Same H H' := e
  exact ⟨P, pk.same s, r1.same s.hid, r2.same s.hid, hG⟩
theorem eqR {S : Sx} {X : Cx} {C : Addr} {k : Nat} {G : List Dt → Dt → Prop} {dA dB : Dt} (hX : S.Has X) (F : MtP S.pg C "__eq__" k G) : RcG X k (DIns C (REq G dA dB)) := by
  obtain ⟨fa, fd, ps, h2, h3, h4⟩ := F.ex
  have h2' : Meth X.K C "__eq__" fa := by rw [hX.K]; exact h2
  exact rcG_ins (FnOk.weak (hX.fnok h3) spEq_le) h2'.at_ h2'.fn (by rw [hX.K]; exact h4) pass0

/-- a lock upon the state -/
theorem inv_lk {X : Cx} {pins : List (Addr × Obj)} {σ : L2.St} {H : Hp} {s : Shared} {a : Addr} {ws : List (List Key × V)} (I : Inv X pins σ H s) (rd : Rd H a (.dT ws)) :
    ∃ H1 od bk, Lk H H1 a od ws bk ∧ Inv X pins σ H1 s ∧ (∀ H' s', Inv X pins σ H' s' → H' a = some (.frz od (.dT ws)) → Inv X pins σ (bk H') s') ∧ ∀ b, (∃ o u, H b = some (.frz o u)) → H1 b = H b := by
  rcases id rd with h | ⟨o, h⟩
  · obtain ⟨od, I1⟩ := I.lock h trivial
    refine ⟨upd H a (.frz od (.dT ws)), od, fun H' => upd H' a (.dT ws), ⟨upd_same, fun b hb => upd_ne hb, fun H' b hb => upd_ne hb, fun H' _ => by rw [upd_same, h], rd⟩, I1, fun H' s' I' e => I'.unlock e (I.nofrz h trivial), fun b ⟨o, u, e⟩ => upd_ne fun z => ?_⟩
    rw [z, h] at e
    cases e
  · exact ⟨H, o, id, ⟨h, fun _ _ => rfl, fun _ _ _ => rfl, fun H' h' => h'.trans h.symm, rd⟩, I, fun H' s' I' _ => I', fun _ _ => rfl⟩
def DDic (Dv : Eqv) : Eqv := fun x y H => ∃ (a b : Addr) (ws us : List (List Key × V)), x = .ref a ∧ y = .ref b ∧ Rd H a (.dT ws) ∧ Rd H b (.dT us) ∧ ws.length = us.length ∧ (∀ k, k ∈ ws.map (·.1) → k ∈ us.map (·.1)) ∧ ∀ p q, p ∈ ws → q ∈ us → p.1 = q.1 → Dv p.2 q.2 H
theorem Lk.ext {H H1 : Hp} {a : Addr} {od : Obj} {ws : List (List Key × V)} {bk : Hp → Hp} (l : Lk H H1 a od ws bk) {H' : Hp} (e : Ext H1 H') : H' a = some (.frz od (.dT ws)) ∧ Ext H (bk H') := by
  have h1 : H' a = some (.frz od (.dT ws)) := e a _ l.at1
  refine ⟨h1, fun b o hb => ?_⟩
  by_cases hz : b = a
  · subst hz
    rw [l.back H' h1]
    exact hb
  · rw [l.boff H' b hz]
    exact e b o (by rw [l.off b hz]; exact hb)
theorem frz_dt {X : Cx} {pins : List (Addr × Obj)} {σ : L2.St} {H : Hp} {s : Shared} {a : Addr} {od : Obj} {ws : List (List Key × V)} (I : Inv X pins σ H s) (h : H a = some (.frz od (.dT ws))) :
    s.heap.get? a = some od ∧ od.ExactDict ∧ (a == sysModules) = false ∧ ∃ (xs : List (List Key × Addr × Value)) (es : Array DictEntry) (ep : Nat), KT H ws xs ∧ od.data = .dict es ep ∧ es.toList = xs.map (entryOfKey (tupleKind (mixKind X.prog X.w))) ∧ (xs.map (·.1)).Nodup := by
  obtain ⟨g, z, hs, xs, pr, o', es, ep, ho, hx, hdt, he, hn⟩ := I.hok a _ h
  rw [g] at ho
  cases ho
  exact ⟨g, hx, hs, xs, es, ep, pr, hdt, he, hn⟩
theorem samePairsG {X : Cx} {n : Nat} {Dv : Eqv} {A : Around} {pins : List (Addr × Obj)} {σ : L2.St} {H : Hp} {s : Shared} {nm : String} {a b : Addr} {oa ob : Obj} {ws us : List (List Key × V)} {Q : Bool → Shared → Prop} (hD : Mon Dv) (h : EqG X n Dv) (sb : Sub X n A) (hu : A.units + 1 < cLine) (I : Inv X pins σ H s)
    (ha : H a = some (.frz oa (.dT ws))) (hb : H b = some (.frz ob (.dT us))) (hl : ws.length = us.length) (hk : ∀ k, k ∈ ws.map (·.1) → k ∈ us.map (·.1)) (hv : ∀ p q, p ∈ ws → q ∈ us → p.1 = q.1 → Dv p.2 q.2 H)
    (hroom : (tupleKind (mixKind X.prog X.w)).room A) (hQ : ∀ H' s', Inv X pins σ H' s' → Ext H H' → Q true s') : wpAny (model X.prog X.w) A (Builtin.Dict.samePairs nm a b) Q X.xe s := by
  obtain ⟨ga, xa, sa, xs, es, ep, pr, hda, hea, hna⟩ := frz_dt I ha
  obtain ⟨gb, xb, sb2, ys, es', ep', pr', hdb, heb, hnb⟩ := frz_dt I hb
  have l1 : es.size = ws.length := by rw [size_of_entries hea, ← Paired.length pr]
  have l2 : es'.size = us.length := by rw [size_of_entries heb, ← Paired.length pr']
  (unfold Builtin.Dict.samePairs Builtin.Dict.showsAll)
  rw [if_neg (show ¬(a == sysModules) = true by rw [sa]; exact Bool.false_ne_true), if_neg (show ¬(b == sysModules) = true by rw [sb2]; exact Bool.false_ne_true)]
  refine wpAny_bind (wpAny_pure (wpAny_bind (wpAny_pure (wpAny_bind (wpAny_dictEntries ga hda ?_)))))
  dsimp only
  refine wpAny_bind (wpAny_dictEntries gb hdb ?_)
  rw [if_neg (by rw [l1, l2, hl]; simp)]
  refine wpAny_bind (wpAny_dictEpoch ga hda (wpAny_bind ?_))
  (rw [Std.Legacy.Range.forIn_eq_forIn_range'])
  (simp only [Std.Legacy.Range.size, Nat.sub_zero, Nat.add_sub_cancel, Nat.div_one])
  refine wpAny_forIn_list _ (fun rest q s1 => q = (none, ()) ∧ (∃ H1, Inv X pins σ H1 s1 ∧ Ext H H1) ∧ ∃ i, rest = List.range' i (es.size - i) ∧ i ≤ es.size) _ ?_ ?_ _ _ ⟨rfl, ⟨H, I, Ext.rfl'⟩, 0, by simp, Nat.zero_le _⟩
  · rintro x rest q s1 ⟨rfl, ⟨H1, I1, e1⟩, i, hr, hi⟩
    have hlt : i < es.size := by
      (rcases Nat.lt_or_ge i es.size with h | h)
      · exact h
      · rw [Nat.sub_eq_zero_of_le h] at hr
        cases hr
    have esz : es.size - i = (es.size - (i + 1)) + 1 := by omega
    rw [esz, List.range'_succ] at hr
    obtain ⟨rfl, hrest⟩ := List.cons.inj hr
    obtain ⟨ga1, _, _, xs1, es1, ep1, pr1, hda1, hea1, hna1⟩ := frz_dt I1 (e1 _ _ ha)
    obtain ⟨gb1, _, _, ys1, es1', ep1', pr1', hdb1, heb1, hnb1⟩ := frz_dt I1 (e1 _ _ hb)
    rw [hda] at hda1
    cases hda1
    rw [hdb] at hdb1
    cases hdb1
    refine wpAny_bind (wpAny_dictEntries ga1 hda ?_)
    (rw [Array.getElem?_eq_getElem hlt])
    have hx1 : x < xs1.length := by rw [← size_of_entries hea1]; exact hlt
    have hxe : xs1[x]? = some xs1[x] := List.getElem?_eq_getElem hx1
    have hent : es[x] = entryOfKey (tupleKind (mixKind X.prog X.w)) xs1[x] := by
      have e2 := entry_at hea1 x
      rw [hxe, Array.getElem?_eq_getElem hlt] at e2
      exact Option.some.inj e2
    obtain ⟨p, hpw, hk1, hk2, hk3⟩ := pairedAt pr1 hxe
    have hkey : (tupleKind (mixKind X.prog X.w)).is s1.heap xs1[x].1 xs1[x].2.1 := key_of I1.hok (by rw [← hk1]; exact hk2)
    (show wpAny _ _ (holding [es[x].key, es[x].val] _ >>= _) _ _ _)
    rw [hent]
    refine wpAny_bind (wpAny_holding (wpAny_bind ?_))
    have hallk : ∀ z ∈ ys1, (tupleKind (mixKind X.prog X.w)).is s1.heap z.1 z.2.1 := fun z hz => by
      obtain ⟨p2, q1, q2, q3⟩ := pairedMem pr1' hz
      exact key_of I1.hok (by rw [← q1]; exact q2)
    refine wpAny_dictFind_heap hroom hkey gb1 hdb heb1 hallk hnb1 (fun hno => ?_) fun j z hj => ?_
    · exfalso
      have h3 : xs1[x].1 ∈ us.map (·.1) := hk _ (by rw [← hk1]; exact List.mem_map_of_mem (List.mem_of_getElem? hpw))
      rw [show us.map (·.1) = ys1.map (·.1) from pairedMap (fun _ _ h => h.1) pr1'] at h3
      obtain ⟨z, hz, ez⟩ := List.mem_map.mp h3
      obtain ⟨j, hj⟩ := List.getElem?_of_mem hz
      exact hno j z.2 (by rw [hj, ← ez])
    · have hjlt : j < es'.size := by rw [size_of_entries heb1]; exact (List.getElem?_eq_some_iff.mp hj).1
      refine wpAny_bind (wpAny_dictEntries gb1 hdb ?_)
      have hent2 : es'[j]? = some (entryOfKey (tupleKind (mixKind X.prog X.w)) (xs1[x].1, z)) := by
        rw [entry_at heb1 j, hj]
        rfl
      rw [hent2]
      obtain ⟨p2, hpu, q1, q2, q3⟩ := pairedAt pr1' hj
      have hdv : Dv p.2 p2.2 H1 := hD _ _ _ _ e1 (hv p p2 (List.mem_of_getElem? hpw) (List.mem_of_getElem? hpu) (hk1.trans q1.symm))
      refine wpAny_holding (wpAny_mono (h A pins s1 σ H1 _ _ _ _ sb I1 hk3 q3 hdv) (fun r s2 z2 => ?_) fun _ _ z2 => z2)
      obtain ⟨rfl, H2, I2, e2⟩ := z2
      (show wpAny _ _ (if (!true) = true then _ else _) _ _ _)
      rw [if_neg (by decide)]
      obtain ⟨ga2, _⟩ := frz_dt I2 (e2 _ _ (e1 _ _ ha))
      refine wpAny_bind (wpAny_dictEpoch ga2 hda ?_)
      rw [if_neg (by simp)]
      exact wpAny_pure ⟨rfl, ⟨H2, I2, e1.trans e2⟩, x + 1, hrest, hlt⟩
  · rintro q s1 ⟨rfl, ⟨H1, I1, e1⟩, i, hr, hi⟩
    exact wpAny_pure (hQ H1 s1 I1 e1)
theorem rcG_dic {X : Cx} {n : Nat} {Dv : Eqv} (hD : Mon Dv) (hDl : ∀ x y H H1 a od ws bk, Lk H H1 a od ws bk → Dv x y H → Dv x y H1) (h : EqG X n Dv) : RcG X (n + 1) (DDic Dv) := by
  (intro A pins s σ H x y u v sb I rx ry d)
  obtain ⟨a, b, ws, us, rfl, rfl, ra, rb, hl, hk, hv⟩ := d
  cases rx
  cases ry
  obtain ⟨H1, oa, bk1, lk1, I1, un1, st1⟩ := inv_lk I ra
  have rb1 : Rd H1 b (.dT us) := by
    by_cases hz : b = a
    · subst hz
      have e := (rd_other ra).2.2.2 us rb
      subst e
      exact lk1.rd1
    · rcases rb with r | ⟨o, r⟩
      · exact .inl (by rw [lk1.off b hz]; exact r)
      · exact .inr ⟨o, by rw [lk1.off b hz]; exact r⟩
  obtain ⟨H2, ob, bk2, lk2, I2, un2, st2⟩ := inv_lk I1 rb1
  have ha2 : H2 a = some (.frz oa (.dT ws)) := by
    rw [st2 a ⟨_, _, lk1.at1⟩]
    exact lk1.at1
  have hv2 : ∀ p q, p ∈ ws → q ∈ us → p.1 = q.1 → Dv p.2 q.2 H2 := fun p q hp hq e => hDl _ _ _ _ _ _ _ _ lk2 (hDl _ _ _ _ _ _ _ _ lk1 (hv p q hp hq e))
  obtain ⟨ga, xa, sa, _⟩ := frz_dt I2 ha2
  obtain ⟨gb, xb, sb2, _⟩ := frz_dt I2 lk2.at1
  have ta : s.TypeIs (.ref a) "dict" := ⟨oa, ga, xa.1⟩
  have tb : s.TypeIs (.ref b) "dict" := ⟨ob, gb, xb.1⟩
  have hun := sb.room.un
  refine wpAny_richCompare_same_room (op := .Eq) ta tb PySem.F.slot_dict_eq (wpAny_call_entry PySem.F.slot_dict_eq ta PySem.F.entry_dict_eq ?_ (PySem.F.args_dict_eq_2 _ _)) (by omega)
  show wpAny _ _ (Builtin.Dict.dictSlotArgs "__eq__" ⟨[.ref a, .ref b], []⟩ >>= _) _ _ s; refine wpAny_bind ?_
  unfold Builtin.Dict.dictSlotArgs; refine wpAny_bind (wpAny_notOrdered_dict ta ?_)
  show wpAny _ _ (pure (Value.ref a, Value.ref b)) _ _ s; refine wpAny_pure ?_
  refine wpAny_bind (wpAny_isInstance (T := "dict") tb PySem.F.sub_dict_dict ?_)
  (simp only [Bool.not_true, Bool.false_eq_true, if_false])
  refine wpAny_bind (wpAny_pure (wpAny_bind (wpAny_pure (wpAny_bind ?_))))
  refine samePairsG hD h sb.in1 (by show A.units + 1 + 1 < cLine; omega) I2 ha2 lk2.at1 hl hk hv2 (tupleKind_room_in1 (by omega)) fun H' s' I' e' => ?_
  obtain ⟨f1, x1⟩ := lk2.ext e'
  have I3 := un2 _ _ I' f1
  obtain ⟨f2, x2⟩ := lk1.ext x1
  have I4 := un1 _ _ I3 f2
  refine wpAny_pure ⟨_, rfl, (fun z => nomatch z), rfl, _, I4, x2⟩
end Gl

namespace Gl
open PySem PySem.Spec L2 PyProof.Rows

section
variable {S : Sx} {ρ : En} {a b c tg iter elt : Expr} {pos p : Pos}
theorem iv_zipT {ds es' : List Dt} {elts : List Expr} {kk : Nat} {tpos p : Pos} (h : ED S a ρ (.tup ds)) (h2 : ED S b ρ (.tup es')) (hl : ds.length = es'.length) (hm : S.mg "zip" = none) (hg : S.sc.names.lookup ("zip" : Str) = some .globalImplicit := by rfl)
    (hs : ∀ env : Env, starEach [a, b] env = (false, eval a env) :: starEach [b] env := by intro _; rfl) (hs2 : ∀ env : Env, starEach [b] env = (false, eval b env) :: starEach [] env := by intro _; rfl) (hpl : ∀ env : Env, (backTo pos (starEach [b] env)).any (·.1) = false := by intro _; rfl) :
    IV S (.Tuple elts kk tpos) (.Call (.Name "zip" p) [a, b] [] pos) ρ (List.zipWith (fun x y => .tup [x, y]) ds es') := fun X hX P σ H w er R k => by
  refine wI.of (RZ.pi_zipA (hX.gl hg) (by rw [hX.mg]; exact hm) pa_w (hs X.env) (hpl X.env)) ?_
  refine (ea_cons h (ea_cons h2 ea_nil hs2) hs) X hX P σ H w er _ fun vs H1 s1 r1 => ?_
  obtain ⟨v, v2, rfl, q1, q2⟩ := r1.at2
  obtain ⟨l, vs', rfl, g, r⟩ := q1
  obtain ⟨l2, vs2, rfl, g2, r5⟩ := q2
  have at1 : ∀ {P' : Addr → Bool} {H : Hp}, Wx P P' H1 → Same (hid P' H1) (hid P' H) → H l = some (.tup vs') := fun x s => Same.hid_at s (by rw [x.eq]; exact g)
  have at2 : ∀ {P' : Addr → Bool} {H : Hp}, Wx P P' H1 → Same (hid P' H1) (hid P' H) → H l2 = some (.tup vs2) := fun x s => Same.hid_at s (by rw [x.eq]; exact g2)
  have hz : (List.zipWith (fun x y => Dt.tup [x, y]) ds es').length = ds.length := by simp [hl]
  refine ⟨l, l2, vs', vs2, rfl, .inr ⟨.inl (.inl (hid_some g).2), .inl (.inl (hid_some g2).2), k _ H1 s1 ⟨fun i H s hi => ?_, fun i H s hi => ?_, fun P' wx i H x H' s pk hi y => ?_⟩⟩⟩
  · rw [hz] at hi
    have hv : i < vs'.length := by rw [r.length]; exact hi
    have hv2 : i < vs2.length := by rw [r5.length, ← hl]; exact hi
    exact ⟨vs', vs2, vs'[i], vs2[i], .inl (.inl (at1 (.refl P H1) s)), .inl (.inl (at2 (.refl P H1) s)), List.getElem?_eq_getElem hv, List.getElem?_eq_getElem hv2⟩
  · rw [hz] at hi
    exact ⟨vs', vs2, .inl (.inl (at1 (.refl P H1) s)), .inl (.inl (at2 (.refl P H1) s)), .inl (by rw [r.length]; exact hi)⟩
  · obtain ⟨T, z, z2, rfl, nT, rfl, f, f2⟩ := y
    obtain ⟨d, hd, rd⟩ := r.get (f vs' (.inl (.inl (at1 wx s))))
    obtain ⟨d2, hd2, rd2⟩ := r5.get (f2 vs2 (.inl (.inl (at2 wx s))))
    refine ⟨same_new nT, .tup [d, d2], by simp [List.getElem?_zipWith, hd, hd2], ?_⟩
    rw [← wx.eq] at rd rd2
    exact ⟨T, [z, z2], rfl, hid_upd pk nT, .cons ((rd.same s).same (same_new nT).hid) (.one ((rd2.same s).same (same_new nT).hid))⟩
def dII (z : Int × Int) : Dt := .tup [.int z.1, .int z.2]
theorem zip_dII (k m : List Int) : List.zipWith (fun x y => Dt.tup [x, y]) (k.map .int) (m.map .int) = (k.zip m).map dII := by
  induction k generalizing m with
  | nil => rfl
  | cons x k ih =>
    cases m with
    | nil => rfl
    | cons y m => rw [List.map_cons, List.map_cons, List.zipWith_cons_cons, ih m, List.zip_cons_cons, List.map_cons]; rfl
theorem iv_zipI {k m : List Int} {elts : List Expr} {kk : Nat} {tpos p : Pos} (h : ED S a ρ (tI k)) (h2 : ED S b ρ (tI m)) (hl : k.length = m.length) (hm : S.mg "zip" = none) (hg : S.sc.names.lookup ("zip" : Str) = some .globalImplicit := by rfl)
    (hs : ∀ env : Env, starEach [a, b] env = (false, eval a env) :: starEach [b] env := by intro _; rfl) (hs2 : ∀ env : Env, starEach [b] env = (false, eval b env) :: starEach [] env := by intro _; rfl) (hpl : ∀ env : Env, (backTo pos (starEach [b] env)).any (·.1) = false := by intro _; rfl) :
    IV S (.Tuple elts kk tpos) (.Call (.Name "zip" p) [a, b] [] pos) ρ ((k.zip m).map dII) := by
  rw [← zip_dII]
  exact iv_zipT h h2 (by simpa using hl) hm hg hs hs2 hpl
/-- == of instances -/
theorem ec_eqC {C : Addr} {k : Nat} {fs gs : List (Str × Dt)} {G : List Dt → Dt → Prop} (F : MtP S.pg C "__eq__" k G) (ha : ED S a ρ (.ins C fs)) (hb : ED S b ρ (.ins C gs)) (hG : G [.ins C fs, .ins C gs] (.bl true)) (hk : k ≤ S.k := by exact Nat.le_of_ble_eq_true rfl) : EC S .Eq a b ρ (.bl true) :=
  ec_op (r := rEqG (DIns C (REq G (.ins C fs) (.ins C gs)))) (fun X hX => op_eqG (eqR hX F) (hX.room.mono hk)) ha hb fun P H x y pk rx ry Q z => by
    obtain ⟨o1, dx, ws, rfl, g1, k1⟩ := id rx
    obtain ⟨o2, dy, us, rfl, g2, k2⟩ := id ry
    exact ⟨⟨o1, o2, dx, dy, ws, us, rfl, rfl, (hid_some g1).2, (hid_some g2).2, P, pk, rx, ry, hG⟩, fun H' s => z _ H' s rfl⟩
theorem repK_at {H : Hp} : ∀ {kvs : List (List Int × Dt)} {ws : List (List Key × V)}, RepK H kvs ws → ∀ p ∈ ws, ∃ q ∈ kvs, p.1 = ik q.1 ∧ Rep H q.2 p.2
  | [], ws, h, p, hp => by
    rw [show ws = [] from h] at hp
    cases hp
  | (k0, d0) :: r, ws, h, p, hp => by
    obtain ⟨v, t, e, g, h⟩ := h
    subst e
    (rcases List.mem_cons.mp hp with rfl | hp)
    · exact ⟨_, List.mem_cons_self, rfl, g⟩
    · obtain ⟨q, hq, h1, h2⟩ := repK_at h p hp
      exact ⟨q, List.mem_cons_of_mem _ hq, h1, h2⟩
/-- == of two dicts of the same keys, all values the same instance's data -/
theorem ec_eqD {C : Addr} {k : Nat} {fs : List (Str × Dt)} {ks ms : List (List Int)} {G : List Dt → Dt → Prop} (F : MtP S.pg C "__eq__" k G) (ha : ED S a ρ (.dic (ks.map fun k => (k, .ins C fs)))) (hb : ED S b ρ (.dic (ms.map fun k => (k, .ins C fs)))) (hl : ks.length = ms.length) (hs : ∀ k ∈ ks, k ∈ ms) (hG : G [.ins C fs, .ins C fs] (.bl true)) (hk : k + 1 ≤ S.k := by exact Nat.le_of_ble_eq_true rfl) : EC S .Eq a b ρ (.bl true) :=
  ec_op (r := rEqG (DDic (DIns C (REq G (.ins C fs) (.ins C fs))))) (fun X hX => op_eqG (rcG_dic (mon_ins REq.mon) (fun x y H H1 o od ws bk lk d => by
      obtain ⟨a, b, dx, dy, fs', gs', rfl, rfl, g1, g2, P, pk, r1, r2, hG⟩ := d
      have nn := (rd_other lk.rd).2.2.1
      have n1 : a ≠ o := fun z => nn _ _ _ (by rw [← z]; exact g1)
      have n2 : b ≠ o := fun z => nn _ _ _ (by rw [← z]; exact g2)
      exact ⟨a, b, dx, dy, fs', gs', rfl, rfl, by rw [lk.off a n1]; exact g1, by rw [lk.off b n2]; exact g2, P, lk.pok pk, Rep.pres (lk.pres P) _ _ r1, Rep.pres (lk.pres P) _ _ r2, hG⟩) (RcG.eqG (eqR hX F) fun x y H d => by
      obtain ⟨a, b, _, _, _, _, e1, e2, _⟩ := d
      exact ⟨a, b, e1, e2⟩)) (hX.room.mono hk)) ha hb fun P H x y pk rx ry Q z => by
    obtain ⟨o1, ws, rfl, d1, k1⟩ := rx
    obtain ⟨o2, us, rfl, d2, k2⟩ := ry
    have e1 := repK_keys k1
    have e2 := repK_keys k2
    refine ⟨⟨o1, o2, ws, us, rfl, rfl, rd_hid d1, rd_hid d2, by rw [k1.length, k2.length]; simpa using hl, fun k hk => ?_, fun p q hp hq e => ?_⟩, fun H' s => z _ H' s rfl⟩
    · rw [e1, List.map_map] at hk
      rw [e2, List.map_map]
      obtain ⟨m, hm, rfl⟩ := List.mem_map.mp hk
      exact List.mem_map.mpr ⟨m, hs m hm, rfl⟩
    · obtain ⟨p', hp', h3, h4⟩ := repK_at k1 p hp
      obtain ⟨q', hq', h5, h6⟩ := repK_at k2 q hq
      obtain ⟨m1, _, rfl⟩ := List.mem_map.mp hp'
      obtain ⟨m2, _, rfl⟩ := List.mem_map.mp hq'
      obtain ⟨a1, dx, ws1, i1, g1, i2⟩ := id h4
      obtain ⟨a2, dy, ws2, i3, g2, i4⟩ := id h6
      rw [i1] at h4
      rw [i3] at h6
      exact ⟨a1, a2, dx, dy, ws1, ws2, i1, i3, (hid_some g1).2, (hid_some g2).2, P, pk, h4, h6, hG⟩
end
end Gl

namespace Gl
open PySem
section
variable {w : World} {prog : Program} {A : Around} {E : Value → Shared → Prop} {s : Shared}
/-! a key iterator's draws -/
theorem keyOf_item {kit dd : Addr} {i ep : Nat} {es : Array DictEntry} {Q : Value → Shared → Prop} (st : s.heap.IsKeyIter kit dd i es.size ep) (raw : s.heap.DictRaw dd es ep) (lt : i < es.size)
    (go : ∀ h', h'.IsKeyIter kit dd (i + 1) es.size ep → Heap.SameBut kit s.heap h' → Q es[i].key { s with heap := h' }) : wpAny (model prog w) A (Builtin.SmallTypes.nextOf (.ref kit)) Q E s := by
  obtain ⟨ob, g1, g2, g3⟩ := id st
  obtain ⟨db, e1, e2, e3⟩ := id raw
  have own0 : Builtin.Dict_items.ownsTuple "dict_keyiterator" = false := by decide
  have nn : ¬ ((Value.ref dd == Value.none) = true) := Bool.false_ne_true
  have st' : (s.heap.update kit (Obj.mapFields (·.setIfInBounds 1 (rawInt ((i : Int) + 1))))).IsKeyIter kit dd (i + 1) es.size ep :=
    ⟨_, Heap.get?_update_self _ g1 (Obj.isFreed_of_fields (Obj.data_mapFields g3 _)), (Obj.cls_mapFields ..).trans g2, by rw [Obj.data_mapFields g3]; simp [rawInt]⟩
  (unfold Builtin.SmallTypes.nextOf)
  refine wpAny_bind (wpAny_callSpecial?_slot (name := Str.ofString "__next__") st.typeIs F.slot_dict_keyiterator_next
    (wpAny_call_entry F.slot_dict_keyiterator_next st.typeIs F.entry_dict_keyiterator_next ?_ (F.args_dict_keyiterator_next_1 _)))
  refine wpAny_bind (wpAny_pure (wpAny_bind (wpAny_bind ?_)))
  first | refine wpAny_bind (wpAny_typeNameOfWhole_keyiter st.typeIs (wpAny_pure ?_)) | refine wpAny_bind (wpAny_typeNameOf_keyiter st.typeIs (wpAny_pure ?_))
  refine wpAny_bind (wpAny_fieldsOf g1 g3 ?_)
  simp only [own0, Bool.false_eq_true, if_false]
  show wpAny _ _ (if (Value.ref dd == Value.none) = true then _ else _) _ _ s
  rw [if_neg nn]
  refine wpAny_bind (wpAny_pure (wpAny_bind (wpAny_dictEntries e1 e3 ?_)))
  rw [if_neg (by simp)]
  refine wpAny_bind (wpAny_pure (wpAny_bind (wpAny_dictEpoch e1 e3 ?_)))
  rw [if_neg (by simp)]
  refine wpAny_pure ?_
  simp only [show ¬ ((i : Int) < 0) from by omega, if_false, Int.toNat_natCast, Array.getElem?_eq_getElem lt]
  refine wpAny_bind ?_
  first | refine wpAny_bind (wpAny_typeNameOfWhole_keyiter st.typeIs (wpAny_pure ?_)) | refine wpAny_bind (wpAny_typeNameOf_keyiter st.typeIs (wpAny_pure ?_))
  refine wpAny_bind (wpAny_isOneOf_keyiter st.typeIs ?_)
  show wpAny _ _ (setField (.ref kit) 1 (rawInt ((i : Int) + 1)) >>= _) _ _ s
  refine wpAny_bind (wpAny_setField g1 g3 (by simp) (wpAny_bind (wpAny_holding ?_)))
  refine wpAny_bind (wpAny_isOneOf_keyiter (s := { s with heap := s.heap.update kit (Obj.mapFields (·.setIfInBounds 1 (rawInt ((i : Int) + 1)))) }) st'.typeIs ?_)
  (show wpAny _ _ (pure es[i].key) _ _ _)
  exact wpAny_pure (wpAny_pure ⟨_, rfl, wpAny_pure (go _ st' (Heap.SameBut.update ..))⟩)
theorem keyOf_end {kit dd : Addr} {i ep : Nat} {es : Array DictEntry} {Q : Value → Shared → Prop} (nh : A.handled = none) (st : s.heap.IsKeyIter kit dd i es.size ep) (raw : s.heap.DictRaw dd es ep) (ge : es.size ≤ i)
    (go : ∀ h' e, Heap.ExtBut kit s.heap h' → (∃ o, h'.get? e = some o ∧ o.cls = .type "StopIteration") → E (.ref e) { s with heap := h' }) : wpAny (model prog w) A (Builtin.SmallTypes.nextOf (.ref kit)) Q E s := by
  obtain ⟨ob, g1, g2, g3⟩ := id st
  obtain ⟨db, e1, e2, e3⟩ := id raw
  have own0 : Builtin.Dict_items.ownsTuple "dict_keyiterator" = false := by decide
  have nn : ¬ ((Value.ref dd == Value.none) = true) := Bool.false_ne_true
  (unfold Builtin.SmallTypes.nextOf)
  refine wpAny_bind (wpAny_callSpecial?_slot (name := Str.ofString "__next__") st.typeIs F.slot_dict_keyiterator_next
    (wpAny_call_entry F.slot_dict_keyiterator_next st.typeIs F.entry_dict_keyiterator_next ?_ (F.args_dict_keyiterator_next_1 _)))
  refine wpAny_bind (wpAny_pure (wpAny_bind (wpAny_bind ?_)))
  first | refine wpAny_bind (wpAny_typeNameOfWhole_keyiter st.typeIs (wpAny_pure ?_)) | refine wpAny_bind (wpAny_typeNameOf_keyiter st.typeIs (wpAny_pure ?_))
  refine wpAny_bind (wpAny_fieldsOf g1 g3 ?_)
  simp only [own0, Bool.false_eq_true, if_false]
  show wpAny _ _ (if (Value.ref dd == Value.none) = true then _ else _) _ _ s
  rw [if_neg nn]
  refine wpAny_bind (wpAny_pure (wpAny_bind (wpAny_dictEntries e1 e3 ?_)))
  rw [if_neg (by simp)]
  refine wpAny_bind (wpAny_pure (wpAny_bind (wpAny_dictEpoch e1 e3 ?_)))
  rw [if_neg (by simp)]
  refine wpAny_pure ?_
  simp only [show ¬ ((i : Int) < 0) from by omega, if_false, Int.toNat_natCast, Array.getElem?_eq_none ge]
  refine wpAny_bind ?_
  first | refine wpAny_bind (wpAny_typeNameOfWhole_keyiter st.typeIs (wpAny_pure ?_)) | refine wpAny_bind (wpAny_typeNameOf_keyiter st.typeIs (wpAny_pure ?_))
  show wpAny _ _ (setField (.ref kit) 0 .none >>= _) _ _ s
  refine wpAny_bind (wpAny_setField g1 g3 (by simp) ?_)
  (show wpAny _ _ (newExc (.type "StopIteration") [] >>= _) _ _ _)
  refine wpAny_bind ?_
  simp only [newExc, newTuple]
  (refine wpAny_bind (wpAny_newObj_type ?_ (by size_fits)))
  (refine wpAny_bind (m := firstArgMember _ _) (wpAny_of_eq (a := Value.none) (by first | rfl | (simp only [firstArgMember]; rfl)) ?_))
  (refine wpAny_newObj_type ?_ (by size_fits))
  simp only [raiseNew]
  (refine wpAny_bind (wpAny_handled ?_))
  first | rw [show A.in1.handled = none from nh] | rw [nh]
  (refine wpAny_bind (wpAny_pure (wpAny_throw ?_)))
  exact go _ _ (((Heap.SameBut.update ..).extBut.push _).push _) ⟨_, Heap.get?_push_size _ rfl, rfl⟩
theorem keyDraws (nh : A.handled = none) (kit dd : Addr) (ne : dd ≠ kit) (es : Array DictEntry) (ep : Nat) : Draws prog w A kit [kit, dd] es.size (fun i v => ∃ hi : i < es.size, v = es[i].key) (fun i h => h.IsKeyIter kit dd i es.size ep ∧ h.DictRaw dd es ep) where
  live := fun _ _ st => let ⟨ob, g, _⟩ := st.1; ⟨ob, g⟩
  frame := fun _ _ _ st hk => ⟨st.1.at fun o e => hk kit (by simp) o e, st.2.at fun o e => hk dd (by simp) o e⟩
  item := fun i s Q E hi st hQ => keyOf_item st.1 st.2 hi fun h' st' sb => hQ _ h' s.toks ⟨hi, rfl⟩ ⟨st', st.2.at fun o e => (sb.2 dd ne).trans e⟩ sb
  done := fun s Q E st hE => keyOf_end nh st.1 st.2 (Nat.le_refl _) hE
end
end Gl

namespace Gl
open PySem
abbrev zipO (f0 : Value) (f1 : Bool) (TI TO : Addr) : Obj := { cls := .type "zip", dict := none, data := .fields #[f0, .bool f1, .bool false, .ref TI, .ref TO], slots := #[] }
def Outed (f0 : Value) : Prop := f0 = .none ∨ ∃ T : Addr, f0 = rawInt T
section
variable {prog : Program} {w : World} {A : Around} {E : Value → Shared → Prop} {s : Shared} {z TI TO i1 i2 : Addr} {fp1 fp2 : List Addr} {n1 n2 i : Nat} {P1 P2 : Nat → Value → Prop} {St1 St2 : Nat → Heap → Prop} {a1 a2 f0 : Value} {f1 : Bool}
theorem alive_any {a : Addr} {Q : Option Obj → Shared → Prop} (h : Q (s.heap.get? a) s) : wpAny (model prog w) A (loadIfAlive a) Q E s := fun _ _ _ => h
theorem owned_any {Q : Bool → Shared → Prop} (hz : s.heap.get? z = some (zipO f0 f1 TI TO)) (hf : Outed f0) (k : ∀ b h' f, h'.get? z = some (zipO f0 f TI TO) → Heap.SameBut z s.heap h' → Q b { s with heap := h' }) :
    wpAny (model prog w) A (Builtin.SmallTypes.ownedTupleIsFree (.ref z)) Q E s := by
  (unfold Builtin.SmallTypes.ownedTupleIsFree)
  refine wpAny_bind (wpAny_field hz rfl (x := f0) rfl ?_)
  rcases hf with rfl | ⟨T, rfl⟩
  · exact wpAny_pure (k true s.heap f1 hz (Heap.SameBut.refl _ _))
  · show wpAny _ _ (loadIfAlive ((T : Int).toNat) >>= _) _ _ _
    refine wpAny_bind (alive_any ?_)
    cases e : s.heap.get? ((T : Int).toNat) with
    | none =>
      (simp only [Option.isNone_none, if_true])
      exact wpAny_pure (k true s.heap f1 hz (Heap.SameBut.refl _ _))
    | some o =>
      (simp only [Option.isNone_some, Bool.false_eq_true, if_false])
      refine wpAny_bind (wpAny_field hz rfl (x := .bool f1) rfl ?_)
      cases f1 with
      | true =>
        (rw [if_neg (show ¬ ((Value.bool true != Value.bool true) = true) from Bool.false_ne_true)])
        exact wpAny_pure (k false s.heap true hz (Heap.SameBut.refl _ _))
      | false =>
        (rw [if_pos (show (Value.bool false != Value.bool true) = true from rfl)])
        exact wpAny_bind (wpAny_setField_rec hz (by simp) fun h' z1 sb => wpAny_pure (k false h' true z1 sb))
theorem zipG_item {Q : Value → Shared → Prop} (S : ZipSep2 z TI TO i1 i2 fp1 fp2) (D1 : Draws prog w A i1 fp1 n1 P1 St1) (D2 : Draws prog w A i2 fp2 n2 P2 St2)
    (hz : s.heap.get? z = some (zipO f0 f1 TI TO)) (hf : Outed f0) (hI : IsTupOf2 s.heap TI (.ref i1) (.ref i2)) (hO : IsTupOf2 s.heap TO a1 a2) (q1 : St1 i s.heap) (q2 : St2 i s.heap) (lt1 : i < n1) (lt2 : i < n2)
    (k : ∀ v g0 g1 b1 b2 h' tk, h'.get? z = some (zipO g0 g1 TI TO) → Outed g0 → IsTupOf2 h' TO b1 b2 → St1 (i + 1) h' → St2 (i + 1) h' → (∀ c o, c ≠ z → c ≠ TO → c ≠ i1 → c ≠ i2 → s.heap.get? c = some o → h'.get? c = some o) → Q v { s with heap := h', toks := tk }) : wpAny (model prog w) A (Builtin.«zip.__next__» ⟨[.ref z], []⟩) (fun fin s' => ∃ v, fin = .done (.ret v) ∧ Q v s') E s := by
  obtain ⟨hp, gg, dr, tk0, os⟩ := s
  (show wpAny _ _ (field (.ref z) 2 >>= _) _ _ _)
  (refine wpAny_bind (wpAny_field hz rfl (x := .bool false) rfl ?_))
  (show wpAny _ _ (field (.ref z) 3 >>= _) _ _ _)
  refine wpAny_bind (wpAny_field hz rfl (x := .ref TI) rfl (wpAny_bind (wpAny_seqItems hI rfl ?_)))
  (show wpAny _ _ (Builtin.SmallTypes.ownedTupleIsFree (.ref z) >>= _) _ _ _)
  refine wpAny_bind (owned_any hz hf fun b u f zu su => ?_)
  replace su : Heap.SameBut z hp u := su
  have Iu : IsTupOf2 u TI (.ref i1) (.ref i2) := su.extBut _ _ S.TIz hI
  have Ou : IsTupOf2 u TO a1 a2 := su.extBut _ _ S.TOz hO
  have p1 := D1.over q1 su S.zf1
  have p2 := D2.over q2 su S.zf2
  cases b with
  | false =>
    (simp only [Bool.false_eq_true, if_false])
    refine wpAny_bind ?_
    rw [← Array.forIn_toList]
    (simp only [List.forIn_cons, List.forIn_nil])
    (refine wpAny_bind (wpAny_bind (wpAny_holding ?_)))
    show wpAny _ _ (Builtin.SmallTypes.nextOf (.ref i1) >>= _) _ _ ⟨u, gg, dr, tk0, os⟩
    refine wpAny_bind (D1.item i _ _ _ lt1 p1 fun x1 v1 t1 y1 m1 sv1 => wpAny_pure (wpAny_pure ?_))
    replace sv1 : Heap.SameBut i1 u v1 := sv1
    (refine wpAny_bind (wpAny_bind (wpAny_holding ?_)))
    show wpAny _ _ (Builtin.SmallTypes.nextOf (.ref i2) >>= _) _ _ ⟨v1, gg, dr, t1, os⟩
    refine wpAny_bind (D2.item i _ _ _ lt2 (D2.over p2 sv1 S.sep1_2) fun x2 v2 t2 y2 m2 sv2 => wpAny_pure (wpAny_pure (wpAny_pure ?_)))
    replace sv2 : Heap.SameBut i2 v1 v2 := sv2
    show wpAny _ _ (newTuple [x1, x2] >>= _) _ _ _
    refine wpAny_bind (wpAny_newTuple (wpAny_pure ⟨_, rfl, ?_⟩))
    have up : ∀ c o, c ≠ i1 → c ≠ i2 → u.get? c = some o → (v2.push { cls := .type "tuple", data := .seq #[x1, x2] }).get? c = some o := fun c o c1 c2 e => Heap.get?_push_of_some _ (sv2.extBut _ _ c2 (sv1.extBut _ _ c1 e))
    refine k _ f0 f a1 a2 _ t2 (up _ _ S.zi1 S.zi2 zu) hf (up _ _ S.Ti1 S.Ti2 Ou) ?_ ?_ fun c o cz cT c1 c2 e => up c o c1 c2 (su.extBut _ _ cz e)
    · exact D1.frame _ _ _ (D1.over m1 sv2 S.sep2_1) fun c _ o e => Heap.get?_push_of_some _ e
    · exact D2.frame _ _ _ m2 fun c _ o e => Heap.get?_push_of_some _ e
  | true =>
    simp only [if_true]
    refine wpAny_bind (wpAny_rule (wpAny_bind (wpAny_field zu rfl (x := .ref TO) rfl ?_)))
    refine wpAny_bind (wpAny_setField_rec zu (by simp) fun w0 zw sw0 => ?_)
    replace zw : w0.get? z = some (zipO .ellipsis f TI TO) := zw
    replace sw0 : Heap.SameBut z u w0 := sw0
    refine wpAny_bind ?_
    (simp only [List.zipIdx_cons, List.zipIdx_nil, List.forIn_cons, List.forIn_nil])
    (refine wpAny_bind (wpAny_bind (wpAny_onRaise ?_)))
    show wpAny _ _ (Builtin.SmallTypes.nextOf (.ref i1) >>= _) _ _ ⟨w0, gg, dr, tk0, os⟩
    refine wpAny_bind (D1.item i _ _ _ lt1 (D1.over p1 sw0 S.zf1) fun x1 v1 t1 y1 m1 sv1 => wpAny_pure ?_)
    replace sv1 : Heap.SameBut i1 w0 v1 := sv1
    have O1 : IsTupOf2 v1 TO a1 a2 := sv1.extBut _ _ S.Ti1 (sw0.extBut _ _ S.TOz Ou)
    refine wpAny_bind (wpAny_seqItems (s := ⟨v1, gg, dr, t1, os⟩) O1 rfl ?_)
    refine wpAny_bind (updateSeq_IsTupOf2 (s := ⟨v1, gg, dr, t1, os⟩) O1 fun w1 T1 sw1 => ?_)
    replace T1 : IsTupOf2 w1 TO x1 a2 := T1
    replace sw1 : Heap.SameBut TO v1 w1 := sw1
    refine wpAny_bind (wpAny_letGo (wpAny_pure (wpAny_bind (wpAny_bind (wpAny_onRaise ?_)))))
    show wpAny _ _ (Builtin.SmallTypes.nextOf (.ref i2) >>= _) _ _ ⟨w1, gg, dr, t1, os⟩
    refine wpAny_bind (D2.item i _ _ _ lt2 (D2.over (D2.over (D2.over p2 sw0 S.zf2) sv1 S.sep1_2) sw1 S.Tf2) fun x2 v2 t2 y2 m2 sv2 => wpAny_pure ?_)
    replace sv2 : Heap.SameBut i2 w1 v2 := sv2
    have O2 : IsTupOf2 v2 TO x1 a2 := sv2.extBut _ _ S.Ti2 T1
    refine wpAny_bind (wpAny_seqItems (s := ⟨v2, gg, dr, t2, os⟩) O2 rfl ?_)
    refine wpAny_bind (updateSeq_IsTupOf2 (s := ⟨v2, gg, dr, t2, os⟩) O2 fun w2 T2 sw2 => ?_)
    replace T2 : IsTupOf2 w2 TO x1 x2 := T2
    replace sw2 : Heap.SameBut TO v2 w2 := sw2
    (refine wpAny_bind (wpAny_letGo (wpAny_pure (wpAny_pure ?_))))
    refine wpAny_bind (wpAny_seqItems (s := ⟨w2, gg, dr, t2, os⟩) T2 rfl (wpAny_bind (wpAny_newTuple ?_)))
    have zz : w2.get? z = some (zipO .ellipsis f TI TO) := sw2.extBut _ _ S.TOz.symm (sv2.extBut _ _ S.zi2 (sw1.extBut _ _ S.TOz.symm (sv1.extBut _ _ S.zi1 zw)))
    have kk : ∀ c o, c ≠ z → c ≠ TO → c ≠ i1 → c ≠ i2 → hp.get? c = some o → w2.get? c = some o := fun c o cz cT c1 c2 e =>
      sw2.extBut _ _ cT (sv2.extBut _ _ c2 (sw1.extBut _ _ cT (sv1.extBut _ _ c1 (sw0.extBut _ _ cz (su.extBut _ _ cz e)))))
    have j1 : St1 (i + 1) w2 := D1.over (D1.over (D1.over m1 sw1 S.Tf1) sv2 S.sep2_1) sw2 S.Tf1
    have j2 : St2 (i + 1) w2 := D2.over m2 sw2 S.Tf2
    show wpAny _ _ (Builtin.SmallTypes.ownedTupleHandOut (.ref z) (.ref w2.objs.size) >>= _) _ _ ⟨w2.push { cls := .type "tuple", data := .seq #[x1, x2] }, gg, dr, t2, os⟩
    refine wpAny_bind ?_
    (unfold Builtin.SmallTypes.ownedTupleHandOut)
    have z6 : (w2.push { cls := .type "tuple", data := .seq #[x1, x2] }).get? z = some (zipO .ellipsis f TI TO) := Heap.get?_push_of_some _ zz
    refine wpAny_bind (wpAny_setField_rec z6 (by simp) fun u7 z7 s7 => ?_)
    replace z7 : u7.get? z = some (zipO (rawInt w2.objs.size) f TI TO) := z7
    refine wpAny_setField_rec z7 (by simp) fun u8 z8 s8 => ?_
    replace z8 : u8.get? z = some (zipO (rawInt w2.objs.size) false TI TO) := z8
    replace s7 : Heap.SameBut z (w2.push { cls := .type "tuple", data := .seq #[x1, x2] }) u7 := s7
    replace s8 : Heap.SameBut z u7 u8 := s8
    have up : ∀ c o, c ≠ z → w2.get? c = some o → u8.get? c = some o := fun c o c1 e => s8.extBut _ _ c1 (s7.extBut _ _ c1 (Heap.get?_push_of_some _ e))
    (refine wpAny_pure ⟨_, rfl, ?_⟩)
    exact k _ _ _ _ _ u8 t2 z8 (.inr ⟨_, rfl⟩) (up _ _ S.TOz T2) (D1.frame _ _ _ j1 fun b hb o e => up b o (fun q => S.zf1 (q ▸ hb)) e) (D2.frame _ _ _ j2 fun b hb o e => up b o (fun q => S.zf2 (q ▸ hb)) e) fun c o cz cT c1 c2 e => up c o cz (kk c o cz cT c1 c2 e)
/-- .. at the end of both -/
theorem zipG_end {Q : Fin → Shared → Prop} (S : ZipSep2 z TI TO i1 i2 fp1 fp2) (D1 : Draws prog w A i1 fp1 n1 P1 St1)
    (hz : s.heap.get? z = some (zipO f0 f1 TI TO)) (hf : Outed f0) (hI : IsTupOf2 s.heap TI (.ref i1) (.ref i2)) (q1 : St1 n1 s.heap)
    (k : ∀ h' tk e, (∀ c o, c ≠ z → c ≠ i1 → s.heap.get? c = some o → h'.get? c = some o) → (∃ o, h'.get? e = some o ∧ o.cls = .type "StopIteration") → E (.ref e) { s with heap := h', toks := tk }) : wpAny (model prog w) A (Builtin.«zip.__next__» ⟨[.ref z], []⟩) Q E s := by
  obtain ⟨hp, gg, dr, tk0, os⟩ := s
  (show wpAny _ _ (field (.ref z) 2 >>= _) _ _ _)
  (refine wpAny_bind (wpAny_field hz rfl (x := .bool false) rfl ?_))
  (show wpAny _ _ (field (.ref z) 3 >>= _) _ _ _)
  refine wpAny_bind (wpAny_field hz rfl (x := .ref TI) rfl (wpAny_bind (wpAny_seqItems hI rfl ?_)))
  (show wpAny _ _ (Builtin.SmallTypes.ownedTupleIsFree (.ref z) >>= _) _ _ _)
  refine wpAny_bind (owned_any hz hf fun b u f zu su => ?_)
  replace su : Heap.SameBut z hp u := su
  have p1 := D1.over q1 su S.zf1
  cases b with
  | false =>
    (simp only [Bool.false_eq_true, if_false])
    refine wpAny_bind ?_
    rw [← Array.forIn_toList]
    (simp only [List.forIn_cons, List.forIn_nil])
    (refine wpAny_bind (wpAny_bind (wpAny_holding ?_)))
    show wpAny _ _ (Builtin.SmallTypes.nextOf (.ref i1) >>= _) _ _ ⟨u, gg, dr, tk0, os⟩
    refine wpAny_bind (D1.done ⟨u, gg, dr, tk0, os⟩ _ _ p1 fun v e sv he => ?_)
    replace sv : Heap.ExtBut i1 u v := sv
    exact k v tk0 e (fun c o cz c1 x => sv _ _ c1 (su.extBut _ _ cz x)) he
  | true =>
    simp only [if_true]
    refine wpAny_bind (wpAny_rule (wpAny_bind (wpAny_field zu rfl (x := .ref TO) rfl ?_)))
    refine wpAny_bind (wpAny_setField_rec zu (by simp) fun w0 zw sw0 => ?_)
    replace zw : w0.get? z = some (zipO .ellipsis f TI TO) := zw
    replace sw0 : Heap.SameBut z u w0 := sw0
    refine wpAny_bind ?_
    (simp only [List.zipIdx_cons, List.zipIdx_nil, List.forIn_cons, List.forIn_nil])
    (refine wpAny_bind (wpAny_bind (wpAny_onRaise ?_)))
    show wpAny _ _ (Builtin.SmallTypes.nextOf (.ref i1) >>= _) _ _ ⟨w0, gg, dr, tk0, os⟩
    refine wpAny_bind (D1.done ⟨w0, gg, dr, tk0, os⟩ _ _ (D1.over p1 sw0 S.zf1) fun v e sv he => ?_)
    replace sv : Heap.ExtBut i1 w0 v := sv
    obtain ⟨oe, hoe, hce⟩ := he
    replace hoe : v.get? e = some oe := hoe
    have zv : v.get? z = some (zipO .ellipsis f TI TO) := sv _ _ S.zi1 zw
    have ez : e ≠ z := fun x => by
      subst x
      rw [zv] at hoe
      cases hoe
      simp at hce
    refine wpAny_setField_rec (s := ⟨v, gg, dr, tk0, os⟩) zv (by simp) fun v' _ sv' => ?_
    replace sv' : Heap.SameBut z v v' := sv'
    exact k v' tk0 e (fun c o cz c1 x => sv'.extBut _ _ cz (sv _ _ c1 (sw0.extBut _ _ cz (su.extBut _ _ cz x)))) ⟨oe, sv'.extBut _ _ ez hoe, hce⟩
end
end Gl

namespace Gl
open PySem
theorem zip_len0 : typeLookup (.type "zip") "__len__" = pure none := by rw [typeLookup_type, builtinLookup_eq_fast] <;> kernel_rfl
theorem zip_hint0 : typeLookup (.type "zip") "__length_hint__" = pure none := by rw [typeLookup_type, builtinLookup_eq_fast] <;> kernel_rfl
section
variable {prog : Program} {w : World} {A : Around} {E : Value → Shared → Prop} {s : Shared} {z TI TO i1 i2 : Addr} {fp1 fp2 : List Addr} {n i : Nat} {P1 P2 : Nat → Value → Prop} {St1 St2 : Nat → Heap → Prop}
def ZSt (z TI TO i1 i2 : Addr) (St1 St2 : Nat → Heap → Prop) (i : Nat) (h : Heap) : Prop :=
  ∃ f0 f1 a b, h.get? z = some (zipO f0 f1 TI TO) ∧ Outed f0 ∧ IsTupOf2 h TI (.ref i1) (.ref i2) ∧ IsTupOf2 h TO a b ∧ St1 i h ∧ St2 i h
theorem zipG_walks (S : ZipSep2 z TI TO i1 i2 fp1 fp2) (D1 : Draws prog w A.in1 i1 fp1 n P1 St1) (D2 : Draws prog w A.in1 i2 fp2 n P2 St2) :
    Walks prog w A z (z :: TI :: TO :: (fp1 ++ fp2)) [z, TO, i1, i2] n (fun _ _ => True) (ZSt z TI TO i1 i2 St1 St2) where
  sub := fun c hc => by
    simp only [List.mem_cons, List.not_mem_nil, or_false, List.mem_append] at hc ⊢
    rcases hc with rfl | rfl | rfl | rfl
    · exact .inl rfl
    · exact .inr (.inr (.inl rfl))
    · exact .inr (.inr (.inr (.inl S.mem1)))
    · exact .inr (.inr (.inr (.inr S.mem2)))
  frame := fun _ h h' st hk => by
    obtain ⟨f0, f1, a, b, g1, g2, g3, g4, g5, g6⟩ := st
    refine ⟨f0, f1, a, b, hk z (by simp) _ g1, g2, hk TI (by simp) _ g3, hk TO (by simp) _ g4, D1.frame _ _ _ g5 fun c hc o e => hk c ?_ o e, D2.frame _ _ _ g6 fun c hc o e => hk c ?_ o e⟩
    · simp [hc]
    · simp [hc]
  item := fun _ s Q E hi st hQ => by
    obtain ⟨f0, f1, a, b, g1, g2, g3, g4, g5, g6⟩ := st
    have ty : s.TypeIs (.ref z) "zip" := ⟨_, g1, rfl⟩
    unfold pyNext
    refine wpAny_bind (wpAny_attempt (wpAny_callSpecial?_slot (name := Str.ofString "__next__") ty F.slot_zip_next (wpAny_call_entry F.slot_zip_next ty F.entry_zip_next
      (zipG_item S D1 D2 g1 g2 g3 g4 g5 g6 hi hi fun v k0 k1 b1 b2 h' tk r1 r2 r3 r4 r5 r6 => wpAny_pure (hQ v h' tk trivial ⟨k0, k1, b1, b2, r1, r2, r6 _ _ S.TIz S.TITO S.TIi1 S.TIi2 g3, r3, r4, r5⟩ fun c o hc e => ?_)) (F.args_zip_next_1 _))))
    exact r6 c o (fun x => hc (by simp [x])) (fun x => hc (by simp [x])) (fun x => hc (by simp [x])) (fun x => hc (by simp [x])) e
  done := fun s Q E st hQ => by
    obtain ⟨f0, f1, a, b, g1, g2, g3, g4, g5, g6⟩ := st
    have ty : s.TypeIs (.ref z) "zip" := ⟨_, g1, rfl⟩
    unfold pyNext
    refine wpAny_bind (wpAny_attempt (wpAny_callSpecial?_slot (name := Str.ofString "__next__") ty F.slot_zip_next (wpAny_call_entry F.slot_zip_next ty F.entry_zip_next
      (zipG_end S D1 g1 g2 g3 g5 fun h' tk e hk he => ?_) (F.args_zip_next_1 _))))
    obtain ⟨o, ho, hc⟩ := he
    (refine wpAny_bind (wpAny_isInstance (T := "StopIteration") (b := true) ⟨o, ho, hc⟩ isSubtype_stop ?_))
    exact wpAny_pure (hQ h' tk fun c o hc e => hk c o (fun x => hc (by simp [x])) (fun x => hc (by simp [x])) e)
  self := fun i s Q E st hQ => by
    obtain ⟨f0, f1, a, b, g1, _⟩ := st
    have ty : s.TypeIs (.ref z) "zip" := ⟨_, g1, rfl⟩
    refine wpAny_pyIter_slot ty F.slot_zip_iter (wpAny_call_entry F.slot_zip_iter ty F.entry_zip_iter ?_ (F.args_zip_iter_1 _))
    (show wpAny _ _ (ret (.ref z)) _ _ s)
    exact wpAny_pure ⟨_, rfl, "zip", _, ty, F.slot_zip_next.lookup, hQ⟩
end
section
variable {w : World} {prog : Program} {A : Around} {E : Value → Shared → Prop} {s : Shared}
variable {I : Addr} {fp wr : List Addr} {n : Nat} {P : Nat → Value → Prop} {St : Nat → Heap → Prop} {R : Result → Shared → Prop}
theorem ext_zip (W : Walks prog w A.in1 I fp wr n P St) (ty : ∀ i (s : Shared), St i s.heap → s.TypeIs (.ref I) "zip") (L : Addr) (res : Value) (c₀ : Nat) (st : St 0 s.heap) (hL : L ∉ fp) (hI : I ∈ fp) (hn : n ≤ sizeLine)
    (gL : s.heap.get? L = some { cls := .type "list", data := .seq #[] c₀ })
    (k : ∀ s' acc' c', Moved (L :: wr) (fun a b => b = a) s s' → s'.heap.get? L = some { cls := .type "list", dict := none, data := .seq acc' c', slots := #[] } → R (.ok (.ret res)) s') :
    wpAny (model prog w) A.in1 (Builtin.List.listExtendWith (.ref L) (.ref I) res) (fun fin s' => match fin with | .done f => R (.ok f) s' | .again c' => c'.quiet = true ∧ codeAny (model prog w) A c' R s') (fun e s' => R (.error e) s') s := by
  have WS := W.toS
  have LI : L ≠ I := fun e => hL (e ▸ hI)
  (unfold Builtin.List.listExtendWith)
  refine wpAny_bind (wpAny_typeOf (ty 0 _ st) ?_)
  have e1 : Builtin.List.listSameRef (.ref L) (.ref I) = false := by simp [Builtin.List.listSameRef, LI]
  have e2 : (Value.type "zip" == Value.type "list") = false := by decide
  have e3 : (Value.type "zip" == Value.type "tuple") = false := by decide
  simp only [e1, e2, e3, Bool.or_false, Bool.false_eq_true, if_false]
  refine wpAny_bind (W.self 0 _ _ _ st (wpAny_bind (wpAny_holding ?_)))
  (unfold Builtin.List.listLengthHint)
  refine wpAny_bind (wpAny_specialOf (ty 0 _ st) zip_len0 ?_)
  (show wpAny _ A.in1 (specialOf (Value.ref I) (Str.ofString "__length_hint__") >>= _) _ _ _)
  refine wpAny_bind (wpAny_specialOf (ty 0 _ st) zip_hint0 (wpAny_pure ?_))
  show wpAny _ A.in1 (rule "list.extend.makes-room" >>= fun _ => Builtin.List.listTouch (.ref L) >>= fun _ =>
    again (.builtin "list.extend.loop" ⟨[.ref L, .ref I, res], []⟩)) _ _ _
  (refine wpAny_bind (wpAny_rule (wpAny_bind ?_)))
  show wpAny _ A.in1 (updateSeq L (·.push .none) >>= fun _ => updateSeq L (·.pop)) _ _ _
  refine wpAny_bind (wpAny_updateSeq gL rfl ?_)
  have gL2 := Heap.get?_update_self (Obj.mapSeq (·.push Value.none)) gL rfl
  refine wpAny_updateSeq (hz := by seq_fits) gL2 rfl ?_
  have gL3 := Heap.get?_update_self (Obj.mapSeq (·.pop)) gL2 rfl
  have oth : ∀ b o, b ≠ L → s.heap.get? b = some o → ((s.heap.update L (Obj.mapSeq (·.push Value.none))).update L (Obj.mapSeq (·.pop))).get? b = some o := fun b o hb e => (Heap.get?_update_other _ _ (Ne.symm hb)).trans ((Heap.get?_update_other _ _ (Ne.symm hb)).trans e)
  refine wpAny_pure ⟨plainId_quiet F.plain_extend_loop _, codeAny_extend_loopS WS hn _ hL _ n 0 _ _ _ rfl (Nat.zero_le _)
    (WS.frame 0 s _ s.toks st (Nat.le_refl _) fun b hb o e => oth b o (fun h => hL (h ▸ hb)) e) gL3 (ItemsOf.nil P) fun s' acc' c' hm hS' _ => ?_⟩
  have m0 : Moved (L :: wr) (fun a b => b = a) s { s with heap := (s.heap.update L (Obj.mapSeq (·.push Value.none))).update L (Obj.mapSeq (·.pop)) } := ⟨fun b o hb e => oth b o (fun h => hb (by rw [h]; exact List.mem_cons_self)) e, rfl, rfl, rfl, Nat.le_refl _⟩
  exact k s' acc' c' (Moved.trans WS.gtrans m0 hm) hS'
theorem init_zip (W : Walks prog w A.in1 I fp wr n P St) (ty : ∀ i (s : Shared), St i s.heap → s.TypeIs (.ref I) "zip") (L : Addr) (st : St 0 s.heap) (hL : L ∉ fp) (hI : I ∈ fp) (hn : n ≤ sizeLine)
    (gL : s.heap.get? L = some { cls := .type "list", data := .seq #[] })
    (k : ∀ s' acc' c', Moved (L :: wr) (fun a b => b = a) s s' → s'.heap.get? L = some { cls := .type "list", dict := none, data := .seq acc' c', slots := #[] } → R (.ok (.ret .none)) s') :
    wpAny (model prog w) A.in1 (Builtin.«list.__init__» ⟨[.ref L, .ref I], []⟩) (fun fin s' => match fin with | .done f => R (.ok f) s' | .again c' => c'.quiet = true ∧ codeAny (model prog w) A c' R s') (fun e s' => R (.error e) s') s := by
  show wpAny _ A.in1 (do let old ← Builtin.List.listItems (.ref L); Builtin.List.listUpdate (.ref L) (fun _ => #[]); letGo old.toList.reverse; Builtin.List.listExtendWith (.ref L) (.ref I) .none) _ _ s
  refine wpAny_bind ?_
  unfold Builtin.List.listItems
  refine wpAny_bind (wpAny_seqItems gL rfl (wpAny_pure ?_))
  show wpAny _ A.in1 (updateSeq L (fun _ => #[]) >>= fun _ => letGo (#[] : Array Value).toList.reverse >>= fun _ => Builtin.List.listExtendWith (.ref L) (.ref I) .none) _ _ s
  refine wpAny_bind (wpAny_updateSeq gL rfl ?_)
  have gL2 := Heap.get?_update_self (Obj.mapSeq (fun _ => (#[] : Array Value))) gL rfl
  have oth : ∀ b o, b ≠ L → s.heap.get? b = some o → (s.heap.update L (Obj.mapSeq (fun _ => (#[] : Array Value)))).get? b = some o := fun b o hb e => (Heap.get?_update_other _ _ (Ne.symm hb)).trans e
  (refine wpAny_bind (wpAny_letGo ?_))
  refine ext_zip W ty L .none _ (W.frame 0 _ _ st fun b hb o e => oth b o (fun h => hL (h ▸ hb)) e) hL hI hn gL2 fun s' acc' c' hm hS' => ?_
  have m0 : Moved (L :: wr) (fun a b => b = a) s { s with heap := s.heap.update L (Obj.mapSeq (fun _ => (#[] : Array Value))) } := ⟨fun b o hb e => oth b o (fun h => hb (by rw [h]; exact List.mem_cons_self)) e, rfl, rfl, rfl, Nat.le_refl _⟩
  exact k s' acc' c' (Moved.trans (fun _ _ _ h1 h2 => h2.trans h1) m0 hm) hS'
theorem list_zip {Q : Value → Shared → Prop} (W : Walks prog w A.in1.in1 I fp wr n P St) (ty : ∀ i (s : Shared), St i s.heap → s.TypeIs (.ref I) "zip") (st : St 0 s.heap) (hfp : ∀ b ∈ fp, b < s.heap.objs.size) (hI : I ∈ fp) (hn : n ≤ sizeLine)
    (k : ∀ a s', Moved wr (fun a b => b = a) s s' → Q (.ref a) s') : wpAny (model prog w) A (call (.type "list") [.ref I]) Q E s := by
  have hL : s.heap.objs.size ∉ fp := fun hm => Nat.lt_irrefl _ (hfp _ hm)
  refine callType_codes (Q₁ := fun obj s₁ => obj = .ref s.heap.objs.size ∧ s₁ = { s with heap := s.heap.push { cls := .type "list", data := .seq #[] } }) F.called_list (F.typeCall_list_1 _) F.entry_list_init (code_list_new _ ⟨rfl, rfl⟩) fun obj s₁ h₁ => ?_
  obtain ⟨rfl, rfl⟩ := h₁
  have gL : (s.heap.push { cls := .type "list", data := .seq #[] }).get? s.heap.objs.size = some { cls := .type "list", data := .seq #[] } := Heap.get?_push_size _ rfl
  refine ⟨⟨_, gL, rfl⟩, F.args_list_init_2 _ _, init_zip W ty _ (W.frame 0 _ _ st fun b _ o e => Heap.get?_push_of_some _ e) hL hI hn gL fun s' acc' c' hm hS' => ⟨rfl, ?_⟩⟩
  refine k _ s' ⟨fun b o hb e => hm.heap b o (fun hc => ?_) (Heap.get?_push_of_some _ e), hm.gens, hm.drawn, hm.os, hm.toks⟩
  (rcases List.mem_cons.mp hc with rfl | hc)
  · (exact absurd (Heap.lt_size e) (Nat.lt_irrefl _))
  · exact hb hc
end
end Gl

namespace Gl
open PySem PySem.Spec L2 PyProof.Rows
theorem dict_begins (dd : Addr) (lo : (dd == sysModules) = false) (es : Array DictEntry) (ep : Nat) : Begins (.ref dd) { cls := .type "dict_keyiterator", data := .fields #[.ref dd, .int 0 0, .int es.size 0, .int ep 0] } fun h => h.DictRaw dd es ep where
  iter := fun _ _ _ _ _ _ hm k => wpAny_pyIter_dict_raw lo hm k
  keeps := fun _ _ st hk => st.at fun o e => hk dd o e
  free := rfl
theorem off_ne {N k j : Nat} (h : k ≠ j) : N + k ≠ N + j := by omega
theorem lt_off2 {N : Nat} (k : Nat) (h : 0 < k) : N + k ≠ N := by omega
theorem in_off {N d l b : Nat} (hd : d < N) (hl : l < N) (h : b = N + 4 ∨ b = N + 2 ∨ b = N + 3 ∨ (b = N ∨ b = d) ∨ b = N + 1 ∨ b = l) : b < N + 5 := by omega
theorem no_off {N b : Nat} (hb : b < N) (h : b = N + 4 ∨ b = N + 3 ∨ b = N ∨ b = N + 1) : False := by omega
theorem lt_off {N d : Nat} (k : Nat) (h : d < N) : N + k ≠ d := by omega
section
variable {w : World} {prog : Program} {A : Around} {E : Value → Shared → Prop} {s : Shared}
theorem zip_list {dd l : Addr} {es : Array DictEntry} {ep : Nat} {its : Array Value} {R : Value → Shared → Prop} (nh : A.handled = none) (lo : (dd == sysModules) = false) (raw : s.heap.DictRaw dd es ep) (gl : s.heap.IsList l its) (hsz : its.size = es.size) (hn : es.size ≤ sizeLine)
    (k : ∀ a h' tk, (∀ c o, s.heap.get? c = some o → h'.get? c = some o) → R (.ref a) { s with heap := h', toks := tk }) :
    wpAny (model prog w) A (call (.type "zip") [.ref dd, .ref l]) (fun z s1 => wpAny (model prog w) A (call (.type "list") [z]) R E s1) E s := by
  have hd : dd < s.heap.objs.size := by obtain ⟨o, e, _⟩ := raw; exact Heap.lt_size e
  have hl : l < s.heap.objs.size := by obtain ⟨o, e, _⟩ := gl; exact Heap.lt_size e
  refine zip_begins2 (dict_begins dd lo es ep) (begins_list l its) raw gl fun h' gz gI gO g1 g2 gs kp => ?_
  generalize hN : s.heap.objs.size = N at *
  have S : ZipSep2 (N + 4) (N + 2) (N + 3) N (N + 1) [N, dd] [N + 1, l] := by
    refine ⟨off_ne (by decide), off_ne (by decide), off_ne (by decide), lt_off2 2 (by decide), by simp, ?_, ?_, off_ne (by decide), by simp, ?_, ?_, ?_, ?_⟩
    · simp only [List.mem_cons, List.not_mem_nil, or_false, not_or]
      exact ⟨lt_off2 4 (by decide), lt_off 4 hd⟩
    · simp only [List.mem_cons, List.not_mem_nil, or_false, not_or]
      exact ⟨lt_off2 3 (by decide), lt_off 3 hd⟩
    · simp only [List.mem_cons, List.not_mem_nil, or_false, not_or]
      exact ⟨off_ne (by decide), lt_off 4 hl⟩
    · simp only [List.mem_cons, List.not_mem_nil, or_false, not_or]
      exact ⟨off_ne (by decide), lt_off 3 hl⟩
    · simp only [List.mem_cons, List.not_mem_nil, or_false, not_or]
      exact ⟨(lt_off2 1 (by decide)).symm, lt_off 0 hl⟩
    · simp only [List.mem_cons, List.not_mem_nil, or_false, not_or]
      exact ⟨lt_off2 1 (by decide), lt_off 1 hd⟩
  have D1 := keyDraws (prog := prog) (w := w) (A := A.in1.in1.in1) nh N dd (Nat.ne_of_lt hd) es ep
  have D2 := Draws.list (prog := prog) (w := w) (A := A.in1.in1.in1) nh (N + 1) l (Nat.ne_of_lt (Nat.lt_succ_of_lt hl)) its
  rw [hsz] at D2
  have W := zipG_walks S D1 D2
  refine list_zip W (fun i s st => ?_) ⟨.none, false, .none, .none, gz, .inl rfl, gI, gO, ⟨⟨_, g1, rfl, rfl⟩, raw.at fun o e => kp _ o e⟩, ⟨_, g2, rfl, rfl⟩, gl.at fun o e => kp _ o e⟩ (fun b hb => ?_) (by simp) hn fun a s' hm => ?_
  · obtain ⟨f0, f1, a, b, g, _⟩ := st
    exact ⟨_, g, rfl⟩
  · show b < h'.objs.size
    rw [gs]
    simp only [List.mem_cons, List.mem_append, List.not_mem_nil, or_false] at hb
    exact in_off hd hl hb
  · rw [hm.eq_with]
    refine k a s'.heap s'.toks fun c o e => hm.heap c o (fun hc => ?_) (kp c o e)
    have hc2 := Heap.lt_size e
    rw [hN] at hc2
    simp only [List.mem_cons, List.not_mem_nil, or_false] at hc
    exact no_off hc2 hc
end
section
variable {S : Sx} {ρ : En} {a b c tg iter elt : Expr} {pos p p2 pos2 : Pos}
theorem pe_listZip {X : Cx} {ta tb : TE} (hg : Gl X "list") (hm : X.mg "list" = none) (hg2 : Gl X "zip") (hm2 : X.mg "zip" = none) (ha : PE X a ta) (hb : PE X b tb) (hc : X.calm = true)
    (na : starEach [a, b] X.env = (false, eval a X.env) :: starEach [b] X.env) (nb : starEach [b] X.env = (false, eval b X.env) :: starEach [] X.env) (hp : (backTo pos2 (starEach [b] X.env)).any (·.1) = false) :
    PE X (.Call (.Name "list" p) [.Call (.Name "zip" p2) [a, b] [] pos2] [] pos) fun σ H Q => ta σ H fun x H1 => tb σ H1 fun y H2 => ∃ d kvs l xs, x = .ref d ∧ Rd H2 d (.dT kvs) ∧ y = .ref l ∧ SqL X.K H2 l xs ∧ kvs.length = xs.length ∧ ∀ p, Q (.ref p) H2 := by
  (refine ⟨fun pins s σ H Q I h => ?_⟩)
  have nz : starEach [.Call (.Name "zip" p2) [a, b] [] pos2] X.env = (false, eval (.Call (.Name "zip" p2) [a, b] [] pos2) X.env) :: starEach [] X.env := rfl
  refine Call_ (ld_blt I hg hm boot_list (PyProof.Rows.callWith_type1 (args_cons ?_ nz) nz))
  refine Call_ (ld_blt I hg2 hm2 PyProof.Rows.boot_zip (PyProof.Rows.callWith_type1 (args_cons (thn (ha.run pins s σ H _ I h) fun v s1 ⟨x, H1, I1, r1, q1⟩ => one_arg hb I1 q1 (fun u s2 y H2 I2 r2 q => ?_) nb) na) na hp))
  obtain ⟨d, kvs, l, xs, rfl, hd, rfl, hl, hz, q⟩ := q
  cases r1
  cases r2
  obtain ⟨z, hs, ks, pr, o, es, ep, ho, hx, hdt, he, hn⟩ := (show ObjOk X.prog X.w H2 s2.heap d (.dT kvs) from hd.ok I2.hok)
  (have l1 : es.size = ks.length := size_of_entries he)
  (have l2 : kvs.length = ks.length := Paired.length pr)
  obtain ⟨its, rv, pl, hzl⟩ := I2.list hl
  have l3 : its.toArray.size = es.size := by
    rw [List.size_toArray, ← rv.length]
    omega
  refine thn (zip_list (R := EP X pins σ Q) (I2.ok.hd hc) hs ⟨o, ho, hx, hdt⟩ pl.isList l3 (by omega) fun a h' tk kp => ⟨.ref a, H2, I2.kept kp, rfl, q a⟩) fun v s3 q3 => args_nil q3
theorem ed_listZip {kvs : List (List Int × Dt)} {ds : List Dt} (h : ED S a ρ (.dic kvs)) (h2 : ED S b ρ (.lst ds)) (hl : kvs.length = ds.length) (hz : ds.length ≤ 1000) (hm : S.mg "list" = none) (hm2 : S.mg "zip" = none) (hg : S.sc.names.lookup ("list" : Str) = some .globalImplicit := by rfl) (hg2 : S.sc.names.lookup ("zip" : Str) = some .globalImplicit := by rfl)
    (hs : ∀ env : Env, starEach [a, b] env = (false, eval a env) :: starEach [b] env := by intro _; rfl) (hs2 : ∀ env : Env, starEach [b] env = (false, eval b env) :: starEach [] env := by intro _; rfl) (hpl : ∀ env : Env, (backTo pos2 (starEach [b] env)).any (·.1) = false := by intro _; rfl) :
    ED S (.Call (.Name "list" p) [.Call (.Name "zip" p2) [a, b] [] pos2] [] pos) ρ .any := fun X hX P σ H w er Q z => by
  refine wE.of (pe_listZip (hX.gl hg) (by rw [hX.mg]; exact hm) (hX.gl hg2) (by rw [hX.mg]; exact hm2) pe_w pe_w hX.calm (hs X.env) (hs2 X.env) (hpl X.env)) ?_
  refine h X hX P σ H w er _ fun v H1 s1 r1 => ?_
  refine h2 X hX P σ H1 (w.same s1) (er.same s1.hid) _ fun u H2 s2 r2 => ?_
  obtain ⟨d, ws, rfl, rd, rk⟩ := r1.same s2.hid
  obtain ⟨l, xs, rfl, gl, rl⟩ := r2
  refine ⟨d, ws, l, xs, rfl, rd_hid rd, rfl, .inl (.inl (hid_some gl).2), ?_, fun p => z _ H2 (s1.trans s2) trivial⟩
  have e1 := congrArg List.length (repK_keys rk)
  have e2 := rl.length
  simp only [List.length_map] at e1
  omega
end
end Gl

namespace Gl
open PySem PySem.Spec L2 PyProof.Rows
variable {g : Pg}

def rat (K : PySem.W.Frag) (ks : List (List Int)) : List (List Int × Dt) := ks.map fun k => (k, r1 K)
theorem rat_len (K : PySem.W.Frag) (ks : List (List Int)) : (rat K ks).length = ks.length := by simp [rat]
theorem rat_keys (K : PySem.W.Frag) (ks : List (List Int)) : (rat K ks).map (·.1) = ks := by
  unfold rat
  rw [List.map_map]
  exact List.map_id ks
theorem rat_look (K : PySem.W.Frag) (k : List Int) : ∀ ks : List (List Int), (rat K ks).lookup k = if decide (k ∈ ks) then some (r1 K) else none
  | [] => by simp [rat]
  | l :: ls => by
    have ih := rat_look K k ls
    unfold rat at ih ⊢
    rw [List.map_cons, List.lookup_cons]
    by_cases h : k = l
    · subst h
      rw [beq_self_eq_true]
      simp
    · rw [show (k == l) = false from by simpa using h, ih]
      by_cases h2 : k ∈ ls <;> simp [h, h2]
theorem rat_in {K : PySem.W.Frag} {k : List Int} {ks : List (List Int)} (h : k ∈ ks) : (rat K ks).lookup k = some (r1 K) := by
  rw [rat_look, decide_eq_true h]
  rfl
theorem rat_out {K : PySem.W.Frag} {k : List Int} {ks : List (List Int)} (h : k ∉ ks) : (rat K ks).lookup k = none := by
  rw [rat_look, decide_eq_false h]
  rfl
theorem rat_snoc (K : PySem.W.Frag) (ks : List (List Int)) (k : List Int) : rat K ks ++ [(k, r1 K)] = rat K (ks ++ [k]) := by
  unfold rat
  rw [List.map_append]
  rfl
theorem off0_r1 (K : PySem.W.Frag) : Off 0 (r1 K) = true := by
  unfold r1
  simp [Off, OffF]
theorem sortR_perm (ks : List (List Int)) : (sortR ks).Perm ks := List.mergeSort_perm ks rowLe
theorem sortR_len (ks : List (List Int)) : (sortR ks).length = ks.length := (sortR_perm ks).length_eq
theorem sc_amounts_sorted : FnScope ["amounts", "found", "counts"] ["amounts"] (defScope s_amounts_sorted) := ⟨rfl, rfl, rfl, by decide +kernel, rfl, by decide +kernel, by decide +kernel⟩
theorem fn_amounts_sorted (W : Wl g) : FnP g "amounts_sorted" 3 (spP fun ds d => ∃ ks : List (List Int), ds = [.dic (rat g.K ks)] ∧ ks.Nodup ∧ (∀ k ∈ ks, k ≠ []) ∧ ks.length ≤ 1000 ∧ d = .dic (rat g.K (sortR ks))) :=
  mkFn (st := s_amounts_sorted) W.d_amounts_sorted W.g_amounts_sorted sc_amounts_sorted (fun _ _ _ _ _ _ us hl => match us, hl with | [_], _ => rfl) (fun ds d h => by obtain ⟨ks, rfl, nd, hne, hl, rfl⟩ := h <;> rfl) fun ds d h => by
    obtain ⟨ks, rfl, nd, hne, hl, rfl⟩ := h
    have hpm := sortR_perm ks
    have hsl := sortR_len ks
    refine sv_new 1 en_dnew (fun D => ?_) sc_amounts_sorted.nd
    refine sd_for (as := sortR ks) (g := tI) (fun i ρ c => ∃ t, ρ = [some (.dic (rat g.K ks)), some (.adr D), t] ∧ c = .dic (rat g.K ((sortR ks).take i))) (iv_list (ED.is (ed_sortD (ed_name (d := .dic (rat g.K ks)) 0 rfl) (fun x hx => ?_) (by rw [rat_len]; exact hl) W.f_sorted) (by rw [rat_keys]; rfl))) ⟨_, rfl, rfl⟩ (fun i k ρ' c' hx h => ?_) fun ρ' c' h => ?_
    · obtain ⟨k, hk, rfl⟩ := List.mem_map.mp hx
      exact hne k hk
    · obtain ⟨t, rfl, rfl⟩ := h
      have hm : k ∈ ks := hpm.mem_iff.mp (List.mem_of_getElem? hx)
      refine ⟨_, [2], gv_name 2 sc_amounts_sorted.nd, ?_⟩
      refine sd_put 1 rfl (edx_h (ed_getD (ed_name 0 rfl) (ed_name 2 rfl) (rat_in hm))) (ed_name 2 rfl) (rat_out (nodup_fresh (hpm.nodup_iff.mpr nd) hx)) (by rw [rat_len, List.length_take]; omega) (sd_nil ⟨_, rfl, ?_⟩)
      rw [rat_snoc, take_snoc hx]
    · obtain ⟨t, rfl, rfl⟩ := h
      rw [List.take_length]
      exact sd_open (Rn' := fun _ => False) 1 rfl (sv_ret (ed_name 1 rfl) rfl) fun _ h => h
/-- entries: counts of n things, the same degree -/
structure Ents (n : Nat) (ls : List (List Int)) (deg : Int) : Prop where
  n1 : 1 ≤ n
  n7 : n ≤ 7
  lot : ∀ l ∈ ls, l.length = n ∧ (∀ x ∈ l, 0 ≤ x) ∧ l.sum = deg
  deg : deg ≤ 8
  nd : ls.Nodup
  len : ls.length ≤ 300
def entD (l : List Int) : Dt := .tup [tI l, .int 1]
theorem ent_eq (ls : List (List Int)) : ((ls.map entD).mapIdx fun i d => Dt.tup [.int i, d]) = (ls.mapIdx fun i l => ((i : Int), l)).map fun z => .tup [.int z.1, entD z.2] := by
  refine List.ext_getElem? fun i => ?_
  simp only [List.getElem?_mapIdx, List.getElem?_map]
  cases ls[i]? <;> rfl
theorem sc_told_amounts : FnScope ["many", "entries", "found", "degree", "position", "entry", "counts"] ["many", "entries"] (defScope s_told_amounts) := ⟨rfl, rfl, rfl, by decide +kernel, rfl, by decide +kernel, by decide +kernel⟩
theorem fn_told_amounts (W : Wl g) : FnP g "told_amounts" 7 (spP fun ds d => (∃ (m : Int) (kvs : List (List Int × Dt)), ds = [.int m, .ins (cA g.K) [("own_dict", .dic kvs)]] ∧ d = .dic kvs) ∨ ∃ (n : Nat) (ls : List (List Int)) (deg : Int), ds = [.int n, .lst (ls.map entD)] ∧ Ents n ls deg ∧ d = .dic (rat g.K (sortR ls))) :=
  mkFn (st := s_told_amounts) W.d_told_amounts W.g_told_amounts sc_told_amounts (fun _ _ _ _ _ _ us hl => match us, hl with | [_, _], _ => rfl) (fun ds d h => by obtain (⟨m, kvs, rfl, rfl⟩ | ⟨n, ls, deg, rfl, en, rfl⟩) := h <;> rfl) fun ds d h => by
    obtain (⟨m, kvs, rfl, rfl⟩ | ⟨n, ls, deg, rfl, en, rfl⟩) := h
    · have ia := W.says.x.amounts
      refine sv_if (k := true) (et_val (ed_isC (ed_name 1 rfl) (ed_globR W.g_Amounts) (kd_ins W.c_Amounts ia.ha ia.hn ia.htk ia.hm) kit_self W.f_isinstance)) (fun _ => ?_) fun h => by cases h
      exact sv_ret (ed_fld (C := cA g.K) (ed_name 1 rfl) rfl W.c_Amounts W.n_Amounts_own_dict) rfl
    · have hl300 := en.len
      refine sv_skip (et_val (ed_isC (ed_name 1 rfl) (ed_globR W.g_Amounts) kd_lst W.says.x.listAm W.f_isinstance)) ?_
      refine sv_skip (ET.is (et_not (et_val (ed_call (fn_is_list W) (ea_cons (ed_name 1 rfl) ea_nil) ⟨⟨_, .inl rfl⟩, rfl⟩))) rfl) ?_
      refine sv_new 2 en_dnew (fun D => ?_) sc_told_amounts.nd
      refine sd_set 3 (edx_h ed_non) ?_ sc_told_amounts.nd
      refine sd_for (as := ls.mapIdx fun i l => ((i : Int), l)) (g := fun z => .tup [.int z.1, entD z.2]) (fun i ρ c => ∃ a b u, ρ = [some (.int n), some (.lst (ls.map entD)), some (.adr D), some (if i = 0 then .non else .int deg), a, b, u] ∧ c = .dic (rat g.K (ls.take i))) (by rw [← ent_eq]; exact iv_enum (ed_name 1 rfl) W.f_enumerate) ⟨_, _, _, rfl, rfl⟩ (fun i z ρ' c' hz h => ?_) fun ρ' c' h => ?_
      · obtain ⟨a, b, u, rfl, rfl⟩ := h
        rw [List.getElem?_mapIdx] at hz
        cases hx : ls[i]? with
        | none =>
          rw [hx] at hz
          cases hz
        | some l =>
          rw [hx] at hz
          have hz2 := Option.some.inj hz
          subst hz2
          have hm : l ∈ ls := List.mem_of_getElem? hx
          obtain ⟨q1, q2, q3⟩ := en.lot l hm
          have hfr := nodup_fresh en.nd hx
          have hn7 := en.n7
          have hl7 : l.length ≤ 1000 := by omega
          refine ⟨_, [4, 5], gv_pair 4 5 sc_told_amounts.nd, ?_⟩
          refine sd_skip (etx_h (ET.is (et_not (et_val (ed_call (fn_is_entry W) (ea_cons (ed_name 5 rfl) (ea_cons (ed_name 0 rfl) ea_nil)) ⟨l, by rw [q1]; rfl, q2, hl7, by rw [q3]; exact en.deg, rfl⟩))) rfl)) ?_
          refine sd_set 6 (edx_h (ed_tupleT (ed_ixT (ed_name 5 rfl) ed_int rfl) W.f_tuple)) ?_ sc_told_amounts.nd
          refine sd_set (d := .int deg) 3 (edx_h ?_) ?_ sc_told_amounts.nd
          · by_cases h0 : i = 0
            · refine ed_if (k := true) (et_cmp (ec_isN (ed_name 3 ?_))) (fun _ => ED.is (ed_sumT (ns := l) (ed_name 6 rfl) W.f_sum) (by rw [q3])) fun h => by cases h
              show some (some (if i = 0 then Dt.non else .int deg)) = _
              rw [if_pos h0]
            · have hd : ∀ {p : Pos}, ED (g.S ["many", "entries", "found", "degree", "position", "entry", "counts"] (defScope s_told_amounts) 6) (.Name "degree" p) ([some (.int (n : Int)), some (.lst (ls.map entD)), some (.adr D), some (if i = 0 then .non else .int deg), some (.int (i : Int)), some (entD l), some (tI l)] : En) (.int deg) := fun {_} => ed_name 3 (by
                show some (some (if i = 0 then Dt.non else .int deg)) = _
                rw [if_neg h0])
              exact ed_if (k := false) (et_cmp (ec_isS hd nn_int)) (fun h => by cases h) fun _ => hd
          refine sd_skip (etx_v 2 rfl (ET.is (et_w (ew_or (et_cmp (ec_neI (ed_sumT (ns := l) (ed_name 6 rfl) W.f_sum) (ed_name 3 rfl))) fun _ => ew_or1 (et_cmp (ec_inD (kk := l) (ed_name 6 rfl) (ed_name 2 rfl))))) ?_)) ?_
          · rw [q3, rat_out hfr]
            simp
          refine sd_put 2 rfl (edx_h (ed_call (fn_ratio_of W) (ea_cons (ed_ixT (ed_name 5 rfl) ed_int rfl) ea_nil) ⟨rfl, rfl⟩)) (kk := l) (ed_name 6 rfl) (rat_out hfr) (by rw [rat_len, List.length_take]; omega) (sd_nil ⟨some (.int (i : Int)), some (entD l), some (tI l), ?_, ?_⟩)
          · rw [if_neg (Nat.succ_ne_zero i)]
            rfl
          · show Dt.dic (rat g.K (ls.take i) ++ [(l, r1 g.K)]) = _
            rw [rat_snoc, take_snoc hx]
      · obtain ⟨a, b, u, rfl, rfl⟩ := h
        have e : (ls.mapIdx fun i l => ((i : Int), l)).length = ls.length := List.length_mapIdx
        rw [e, List.take_length]
        refine sd_open (Rn' := fun _ => False) 2 rfl ?_ fun _ h => h
        refine sv_do (ed_call (fn_want_at_most W) (ea_cons ed_str (ea_cons (ed_globI W.i_MOST_ENTRIES) (ea_cons (ed_lenL (ed_name 1 rfl) W.f_len) ea_nil))) ⟨_, _, _, rfl, by rw [List.length_map]; omega, rfl⟩) ?_
        refine sv_ret (ed_call (fn_amounts_sorted W) (ea_cons (ed_name 2 rfl) ea_nil) ⟨ls, rfl, en.nd, fun k hk z => ?_, by omega, rfl⟩) rfl
        have h1 := (en.lot k hk).1
        have h2 := en.n1
        rw [z] at h1
        simp at h1
        omega
theorem sc_degree_of : FnScope ["amounts", "counts"] ["amounts"] (defScope s_degree_of) := ⟨rfl, rfl, rfl, by decide +kernel, rfl, by decide +kernel, by decide +kernel⟩
theorem fn_degree_of (W : Wl g) : FnP g "degree_of" 3 (spP fun ds d => ∃ (k : List Int) (v : Dt) (r : List (List Int × Dt)), ds = [.dic ((k, v) :: r)] ∧ d = .int k.sum) :=
  mkFn (st := s_degree_of) W.d_degree_of W.g_degree_of sc_degree_of (fun _ _ _ _ _ _ us hl => match us, hl with | [_], _ => rfl) (fun ds d h => by obtain ⟨k, v, r, rfl, rfl⟩ := h <;> rfl) fun ds d h => by
    obtain ⟨k, v, r, rfl, rfl⟩ := h
    refine sv_forK (kvs := (k, v) :: r) (fun i ρ => i = 0 ∧ ρ = [some (.dic ((k, v) :: r)), none]) (pl_name 0 rfl) ⟨rfl, rfl⟩ (fun i kv ρ' hx h => ?_) fun ρ' h => by cases h.1
    obtain ⟨rfl, rfl⟩ := h
    have e : (k, v) = kv := Option.some.inj hx
    subst e
    exact ⟨_, [1], gv_name 1 sc_degree_of.nd, sv_ret (ed_sumT (ns := k) (ed_name 1 rfl) W.f_sum) rfl⟩
end Gl

namespace Gl
open PySem PySem.Spec L2 PyProof.Rows
variable {g : Pg}

theorem sc_Blend_init : FnScope ["self", "letters", "entries", "bottom", "tops", "counts"] ["self", "letters", "entries"] (defScope s_Blend_init) := ⟨rfl, rfl, rfl, by decide +kernel, rfl, by decide +kernel, by decide +kernel⟩
def blF (K : PySem.W.Frag) (n : Nat) (ks : List (List Int)) : List (Str × Dt) := [("own_letters", .str (lts n)), ("own_amounts", .dic (rat K ks)), ("own_degree", .int (ks.headD []).sum), ("own_bottom", .int 1), ("own_tops", .any)]
def bl (K : PySem.W.Frag) (n : Nat) (ks : List (List Int)) : Dt := .ins (cB K) (blF K n ks)
def gBlend (g : Pg) : List Dt → List (Str × Dt) → Prop := fun ds fs => ∃ (n : Nat) (ks : List (List Int)), 1 ≤ n ∧ n ≤ 7 ∧ ks ≠ [] ∧ ks.length ≤ 1000 ∧ fs = blF g.K n ks ∧ (ds = [.str (lts n), .ins (cA g.K) [("own_dict", .dic (rat g.K ks))]] ∨ ∃ (ls : List (List Int)) (deg : Int), ds = [.str (lts n), .lst (ls.map entD)] ∧ Ents n ls deg ∧ ks = sortR ls)
theorem off_map {α : Type} (k : Nat) (ks : List α) (d : Dt) (h : Off k d = true) : OffL k (ks.map fun _ => d) = true := offL_all fun x hx => by
  obtain ⟨_, _, rfl⟩ := List.mem_map.mp hx
  exact h
theorem blend_body (W : Wl g) (D : Addr) (ds : List Dt) (fs : List (Str × Dt)) (h : gBlend g ds fs) : SD (g.S ["self", "letters", "entries", "bottom", "tops", "counts"] (defScope s_Blend_init) 7) D (defBody s_Blend_init) (startD ["self", "letters", "entries", "bottom", "tops", "counts"] (.adr D :: ds)) (.ins (cB g.K) []) (fun _ c => c = .ins (cB g.K) fs) (fun _ => False) := by
  obtain ⟨n, ks, h1, h2, hne, hz, rfl, hd⟩ := h
  have hl := lts_len n
  obtain ⟨k0, kr, rfl⟩ : ∃ k r, ks = k :: r := by
    cases ks with
    | nil => exact absurd rfl hne
    | cons k r => exact ⟨k, r, rfl⟩
  obtain ⟨e, rfl, hG⟩ : ∃ e, ds = [.str (lts n), e] ∧ ∀ {k : Nat} {p p2 p3 p4 p5 p6 : Pos} {ρ : En}, ρ[1]? = some (some (.str (lts n))) → ρ[2]? = some (some e) → 7 ≤ k → ED (g.S ["self", "letters", "entries", "bottom", "tops", "counts"] (defScope s_Blend_init) k) (.Call (.Name "told_amounts" p) [.Call (.Name "len" p2) [.Name "letters" p3] [] p4, .Name "entries" p5] [] p6) ρ (.dic (rat g.K (k0 :: kr))) := by
    rcases hd with rfl | ⟨ls, deg, rfl, en, hk⟩
    · exact ⟨_, rfl, fun q1 q2 hk => ed_call (fn_told_amounts W) (ea_cons (ed_lenS (ed_name 1 q1) (by omega) W.f_len) (ea_cons (ed_name 2 q2) ea_nil)) (.inl ⟨_, _, rfl, rfl⟩) hk⟩
    · exact ⟨_, rfl, fun q1 q2 hk2 => ED.is (ed_call (fn_told_amounts W) (ea_cons (ed_lenS (ed_name 1 q1) (by omega) W.f_len) (ea_cons (ed_name 2 q2) ea_nil)) (.inr ⟨n, ls, deg, by rw [hl], en, rfl⟩) hk2) (by rw [hk]; rfl)⟩
  refine sd_expr (edx_h (ed_call (fn_want_letters W) (ea_cons (ed_name 1 rfl) ea_nil) ⟨n, rfl, h1, h2, rfl⟩)) ?_
  refine sd_fld 0 rfl (edx_h (ed_name 1 rfl)) rfl (by decide) W.c_Blend W.n_Blend_own_letters ?_
  refine sd_fld 0 rfl (edx_h (hG rfl rfl (Nat.le_refl _))) rfl (Nat.le_of_ble_eq_true rfl) W.c_Blend W.n_Blend_own_amounts ?_
  refine sd_fld 0 rfl (edx_v 0 rfl (ed_call (fn_degree_of W) (ea_cons (ed_fld (C := cB g.K) (ed_name 0 rfl) rfl W.c_Blend W.n_Blend_own_amounts) ea_nil) ⟨k0, r1 g.K, rat g.K kr, rfl, rfl⟩) (by simp [Off])) rfl (Nat.le_of_ble_eq_true rfl) W.c_Blend W.n_Blend_own_degree ?_
  refine sd_asg (js := [3, 4]) (edx_v 0 rfl (ed_call (fn_wholes W) (ea_cons (ED.is (ed_mapK [("counts", 5)] (fun _ => r1 g.K) sc_Blend_init.nd (by kernel_rfl) (pl_fld (C := cB g.K) (d := .dic (rat g.K (k0 :: kr))) (pl_name 0 rfl) rfl W.c_Blend W.n_Blend_own_amounts) (by rw [rat_len]; omega) (fun kv hkv => ?_)) ?_) ea_nil) ⟨k0 :: kr, rfl, hz, rfl⟩) ?_) (gv_pair 3 4 sc_Blend_init.nd) ?_
  · obtain ⟨k, hk, rfl⟩ := List.mem_map.mp hkv
    exact ⟨_, [5], gv_name 5 sc_Blend_init.nd, by decide, ed_getD (ed_fld (C := cB g.K) (ed_name 0 rfl) rfl W.c_Blend W.n_Blend_own_amounts) (ed_name 5 rfl) (rat_in hk)⟩
  · show Dt.lst ((rat g.K (k0 :: kr)).map fun _ => r1 g.K) = _
    unfold rat
    rw [List.map_map]
    rfl
  · have h3 := off_map 2 (k0 :: kr) (.int 1) (by simp [Off])
    show Off 2 (.tup [.int 1, .lst ((k0 :: kr).map fun _ => .int 1)]) = true
    rw [Off, OffL, OffL, OffL, Off, h3]
    simp [Off]
  refine sd_fld 0 rfl (edx_h (ed_name 3 rfl)) rfl (Nat.le_of_ble_eq_true rfl) W.c_Blend W.n_Blend_own_bottom ?_
  refine sd_fld 0 rfl (edx_v 0 rfl (ed_listZip (ed_fld (C := cB g.K) (ed_name 0 rfl) rfl W.c_Blend W.n_Blend_own_amounts) (ed_name 4 rfl) ?_ ?_ W.f_list W.f_zip) (by simp [Off])) rfl (Nat.le_of_ble_eq_true rfl) W.c_Blend W.n_Blend_own_tops ?_
  · simp [rat]
  · simpa using hz
  exact sd_nil rfl
theorem mk_Blend (W : Wl g) : MkP g "Blend" 8 (cB g.K) [] (gBlend g) := by
  obtain ⟨fd, F⟩ := W.d_Blend_init
  obtain ⟨dus, hv, hb⟩ := F.binds1 (ps := ["self", "letters", "entries"]) 3 1 (fun z => by cases z) rfl fun T kV doc pm an cdv ct us its hl hi => match us, hl, its, hi with | [_, _, _], _, [_], _ => ⟨_, rfl, rfl⟩
  exact ⟨_, fd, _, dus, [], W.g_Blend, W.k_Blend, initOk F sc_Blend_init (fun ds fs h => by obtain ⟨_, _, _, _, _, _, _, rfl | ⟨_, _, rfl, _⟩⟩ := h <;> rfl) (blend_body W), hb, hv, fun H => rfl⟩
theorem sc_blend_of : FnScope ["letters", "amounts"] ["letters", "amounts"] (defScope s_blend_of) := ⟨rfl, rfl, rfl, by decide +kernel, rfl, by decide +kernel, by decide +kernel⟩
theorem fn_blend_of (W : Wl g) : FnP g "blend_of" 10 (spP fun ds d => ∃ (n : Nat) (ks : List (List Int)), ds = [.str (lts n), .dic (rat g.K ks)] ∧ 1 ≤ n ∧ n ≤ 7 ∧ ks ≠ [] ∧ ks.Nodup ∧ (∀ k ∈ ks, k ≠ []) ∧ ks.length ≤ 1000 ∧ d = bl g.K n (sortR ks)) :=
  mkFn (st := s_blend_of) W.d_blend_of W.g_blend_of sc_blend_of (fun _ _ _ _ _ _ us hl => match us, hl with | [_, _], _ => rfl) (fun ds d h => by obtain ⟨n, ks, rfl, h1, h2, hne, nd, hk, hz, rfl⟩ := h <;> rfl) fun ds d h => by
    obtain ⟨n, ks, rfl, h1, h2, hne, nd, hk, hz, rfl⟩ := h
    refine sv_ret (ed_make (mk_Blend W) (ea_cons (ed_name 0 rfl) (ea_cons (ed_make (mk_Amounts W) (ea_cons (ed_call (fn_amounts_sorted W) (ea_cons (ed_name 1 rfl) ea_nil) ⟨ks, rfl, nd, hk, hz, rfl⟩) ea_nil) ⟨_, rfl, rfl⟩) ea_nil)) ⟨n, sortR ks, h1, h2, fun z => hne ?_, by rw [sortR_len]; exact hz, rfl, .inl rfl⟩) rfl
    have h3 := sortR_len ks
    rw [z] at h3
    exact List.eq_nil_of_length_eq_zero h3.symm
theorem sc_want_blend : FnScope ["value"] ["value"] (defScope s_want_blend) := ⟨rfl, rfl, rfl, by decide +kernel, rfl, by decide +kernel, by decide +kernel⟩
theorem fn_want_blend (W : Wl g) : FnP g "want_blend" 2 (spP fun ds d => ∃ fs, ds = [.ins (cB g.K) fs] ∧ d = .ins (cB g.K) fs) :=
  mkFn (st := s_want_blend) W.d_want_blend W.g_want_blend sc_want_blend (fun _ _ _ _ _ _ us hl => match us, hl with | [_], _ => rfl) (fun ds d h => by obtain ⟨fs, rfl, rfl⟩ := h <;> rfl) fun ds d h => by
    obtain ⟨fs, rfl, rfl⟩ := h
    have ib := W.says.x.blend
    refine sv_skip (ET.is (et_not (et_val (ed_isC (ed_name 0 rfl) (ed_globR W.g_Blend) (kd_ins W.c_Blend ib.ha ib.hn ib.htk ib.hm) kit_self W.f_isinstance))) rfl) ?_
    exact sv_ret (ed_name 0 rfl) rfl
theorem sc_want_alike : FnScope ["blend", "other", "is_degree"] ["blend", "other", "is_degree"] (defScope s_want_alike) := ⟨rfl, rfl, rfl, by decide +kernel, rfl, by decide +kernel, by decide +kernel⟩
theorem fn_want_alike (W : Wl g) : FnP g "want_alike" 2 (spP fun ds d => ∃ (n : Nat) (ks ms : List (List Int)) (b : Bool), ds = [bl g.K n ks, bl g.K n ms, .bl b] ∧ (b = true → (ks.headD []).sum = (ms.headD []).sum) ∧ d = .non) :=
  mkFn (st := s_want_alike) W.d_want_alike W.g_want_alike sc_want_alike (fun _ _ _ _ _ _ us hl => match us, hl with | [_, _, _], _ => rfl) (fun ds d h => by obtain ⟨n, ks, ms, b, rfl, hb, rfl⟩ := h <;> rfl) fun ds d h => by
    obtain ⟨n, ks, ms, b, rfl, hb, rfl⟩ := h
    have fl : ∀ {i : Nat} {x f : Str} {ks : List (List Int)} {d : Dt} {k : Nat} {p p2 : Pos} {ρ : En}, (ρ[i]? = some (some (bl g.K n ks))) → (["blend", "other", "is_degree"] : List Str)[i]? = some x → Vis (defScope s_want_alike) x → (x == ("__debug__" : Str)) = false → (x == ("__classdict__" : Str)) = false → (blF g.K n ks).lookup f = some d → NoAttr g.K (cB g.K) f → (∀ env : Env, attributeBase (.Name x p) f env (eval (.Name x p) env) = eval (.Name x p) env) →
        ED (g.S ["blend", "other", "is_degree"] (defScope s_want_alike) k) (.Attribute (.Name x p) f p2) ρ d := fun h1 h2 h3 h4 h5 h6 h7 h8 => ed_fld (C := cB g.K) (ed_name _ h1 h2 h3 h4 h5) h6 W.c_Blend h7 h8
    refine sv_skip (ET.is (et_cmp (ec_neS (fl (i := 0) rfl rfl (Or.inl rfl) rfl rfl rfl W.n_Blend_own_letters (fun _ => rfl)) (fl (i := 1) rfl rfl (Or.inl rfl) rfl rfl rfl W.n_Blend_own_letters (fun _ => rfl)))) (by simp)) ?_
    refine sv_if (et_w (ew_and (et_val (ed_name 2 rfl)) fun _ => ew_and (et_cmp (ec_notS (fl (i := 0) rfl rfl (Or.inl rfl) rfl rfl rfl W.n_Blend_own_degree (fun _ => rfl)) nn_int)) fun _ => ew_and1 (et_cmp (ec_notS (fl (i := 1) rfl rfl (Or.inl rfl) rfl rfl rfl W.n_Blend_own_degree (fun _ => rfl)) nn_int)))) (fun hk => ?_) fun hk => sv_nil (sv_nil rfl)
    have hb2 : b = true := by
      cases b with
      | true => rfl
      | false => cases hk
    refine sv_skip (ET.is (et_cmp (ec_neI (fl (i := 0) rfl rfl (Or.inl rfl) rfl rfl rfl W.n_Blend_own_degree (fun _ => rfl)) (fl (i := 1) rfl rfl (Or.inl rfl) rfl rfl rfl W.n_Blend_own_degree (fun _ => rfl)))) (by rw [hb hb2]; simp)) (sv_nil (sv_nil rfl))
end Gl

namespace Gl
open PySem PySem.Spec L2 PyProof.Rows
variable {g : Pg}

def gREq (g : Pg) : List Dt → Dt → Prop := fun ds d => ds = [r1 g.K, r1 g.K] ∧ d = .bl true
theorem sc_Ratio_eq : FnScope ["self", "other"] ["self", "other"] (defScope s_Ratio_eq) := ⟨rfl, rfl, rfl, by decide +kernel, rfl, by decide +kernel, by decide +kernel⟩
theorem mt_Ratio_eq (W : Wl g) : MtP g (cR g.K) "__eq__" 2 (gREq g) :=
  mkM (st := s_Ratio_eq) W.d_Ratio_eq W.m_Ratio_eq sc_Ratio_eq (fun _ _ _ _ _ _ us hl => match us, hl with | [_, _], _ => rfl) (fun ds d h => by obtain ⟨rfl, rfl⟩ := h; rfl) fun ds d h => by
    obtain ⟨rfl, rfl⟩ := h
    have ir := W.says.x.ratio
    refine sv_skip (ET.is (et_not (et_val (ed_isC (ed_name 1 rfl) (ed_globR W.g_Ratio) (kd_ins W.c_Ratio ir.ha ir.hn ir.htk ir.hm) kit_self W.f_isinstance))) rfl) ?_
    exact sv_ret (ed_and (ed_cmp (ec_eqI (ed_fld (C := cR g.K) (ed_name 0 rfl) rfl W.c_Ratio W.n_Ratio_own_top) (ed_fld (C := cR g.K) (ed_name 1 rfl) rfl W.c_Ratio W.n_Ratio_own_top))) fun _ => ed_one (ed_cmp (ec_eqI (ed_fld (C := cR g.K) (ed_name 0 rfl) rfl W.c_Ratio W.n_Ratio_own_bottom) (ed_fld (C := cR g.K) (ed_name 1 rfl) rfl W.c_Ratio W.n_Ratio_own_bottom)))) rfl
def gBEq (g : Pg) : List Dt → Dt → Prop := fun ds d => ∃ (n : Nat) (ks ms : List (List Int)), ds = [bl g.K n ks, bl g.K n ms] ∧ ks.length = ms.length ∧ (∀ k ∈ ks, k ∈ ms) ∧ d = .bl true
theorem sc_Blend_eq : FnScope ["self", "other"] ["self", "other"] (defScope s_Blend_eq) := ⟨rfl, rfl, rfl, by decide +kernel, rfl, by decide +kernel, by decide +kernel⟩
theorem mt_Blend_eq (W : Wl g) : MtP g (cB g.K) "__eq__" 5 (gBEq g) :=
  mkM (st := s_Blend_eq) W.d_Blend_eq W.m_Blend_eq sc_Blend_eq (fun _ _ _ _ _ _ us hl => match us, hl with | [_, _], _ => rfl) (fun ds d h => by obtain ⟨_, _, _, rfl, _⟩ := h; rfl) fun ds d h => by
    obtain ⟨n, ks, ms, rfl, hl, hs, rfl⟩ := h
    have ib := W.says.x.blend
    refine sv_skip (ET.is (et_not (et_val (ed_isC (ed_name 1 rfl) (ed_globR W.g_Blend) (kd_ins W.c_Blend ib.ha ib.hn ib.htk ib.hm) kit_self W.f_isinstance))) rfl) ?_
    exact sv_ret (ed_and (ed_cmp (ec_eqS (ed_fld (C := cB g.K) (ed_name 0 rfl) rfl W.c_Blend W.n_Blend_own_letters) (ed_fld (C := cB g.K) (ed_name 1 rfl) rfl W.c_Blend W.n_Blend_own_letters))) fun _ => ed_one (ed_cmp (ec_eqD (ks := ks) (ms := ms) (mt_Ratio_eq W) (ed_fld (C := cB g.K) (ed_name 0 rfl) rfl W.c_Blend W.n_Blend_own_amounts) (ed_fld (C := cB g.K) (ed_name 1 rfl) rfl W.c_Blend W.n_Blend_own_amounts) hl hs ⟨rfl, rfl⟩))) (by simp)
theorem sc_blends_added : FnScope ["blend", "other", "found", "counts", "amount"] ["blend", "other"] (defScope s_blends_added) := ⟨rfl, rfl, rfl, by decide +kernel, rfl, by decide +kernel, by decide +kernel⟩
theorem fn_blends_added (W : Wl g) : FnP g "blends_added" 12 (spP fun ds d => ∃ (n : Nat) (ks ms : List (List Int)), ds = [bl g.K n ks, bl g.K n ms] ∧ 1 ≤ n ∧ n ≤ 7 ∧ ks ≠ [] ∧ (ks ++ ms).Nodup ∧ (∀ k ∈ ks ++ ms, k ≠ []) ∧ (ks ++ ms).length ≤ 300 ∧ (ks.map hashK).Nodup ∧ d = bl g.K n (sortR (ks ++ ms))) :=
  mkFn (st := s_blends_added) W.d_blends_added W.g_blends_added sc_blends_added (fun _ _ _ _ _ _ us hl => match us, hl with | [_, _], _ => rfl) (fun ds d h => by obtain ⟨n, ks, ms, rfl, h1, h2, hne, nd, hk, hz, hh, rfl⟩ := h <;> rfl) fun ds d h => by
    obtain ⟨n, ks, ms, rfl, h1, h2, hne, nd, hk, hz, hh, rfl⟩ := h
    have hz2 : ks.length + ms.length ≤ 300 := by simpa using hz
    refine sv_new 2 (en_dictC (kvs := rat g.K ks) (ed_fld (C := cB g.K) (ed_name 0 rfl) rfl W.c_Blend W.n_Blend_own_amounts) ?_ W.f_dict) (fun D => ?_) sc_blends_added.nd
    · unfold rat
      rw [List.map_map]
      exact hh
    refine sd_forK (kvs := rat g.K ms) (fun i ρ c => ∃ t u, ρ = [some (bl g.K n ks), some (bl g.K n ms), some (.adr D), t, u] ∧ c = .dic (rat g.K (ks ++ ms.take i))) (pl_fld (C := cB g.K) (pl_name 1 rfl) rfl W.c_Blend W.n_Blend_own_amounts) ⟨_, _, rfl, by rw [List.take_zero, List.append_nil]⟩ (fun i kv ρ' c' hx h => ?_) fun ρ' c' h => ?_
    · obtain ⟨t, u, rfl, rfl⟩ := h
      obtain ⟨m, hm, rfl⟩ : ∃ m, ms[i]? = some m ∧ (m, r1 g.K) = kv := by
        unfold rat at hx
        rw [List.getElem?_map] at hx
        cases e : ms[i]? with
        | none =>
          rw [e] at hx
          cases hx
        | some m =>
          rw [e] at hx
          exact ⟨m, rfl, Option.some.inj hx⟩
      have hmm : m ∈ ms := List.mem_of_getElem? hm
      have hfr : m ∉ ks ++ ms.take i := by
        intro z
        rcases List.mem_append.mp z with z | z
        · exact (List.nodup_append.mp nd).2.2 m z m hmm rfl
        · exact nodup_fresh (List.nodup_append.mp nd).2.1 hm z
      refine ⟨_, [3], gv_name 3 sc_blends_added.nd, ?_⟩
      refine sd_set 4 (edx_h (ed_getD (ed_fld (C := cB g.K) (ed_name 1 rfl) rfl W.c_Blend W.n_Blend_own_amounts) (ed_name 3 rfl) (rat_in hmm))) ?_ sc_blends_added.nd
      refine sd_put 2 rfl (edx_v 2 rfl (ed_if (k := false) (ET.is (et_cmp (ec_inD (ed_name 3 rfl) (ed_name 2 rfl))) (by rw [rat_out hfr]; rfl)) (fun h => by cases h) fun _ => ed_name (d := r1 g.K) 4 rfl) (off0_r1 g.K)) (ed_name 3 rfl) (rat_out hfr) (by rw [rat_len, List.length_append, List.length_take]; omega) (sd_nil ⟨_, _, rfl, ?_⟩)
      rw [rat_snoc, take_snoc hm, List.append_assoc]
    · obtain ⟨t, u, rfl, rfl⟩ := h
      rw [rat_len, List.take_length]
      refine sd_open (Rn' := fun _ => False) 2 rfl ?_ fun _ h => h
      refine sv_do (ed_call (fn_want_at_most W) (ea_cons ed_str (ea_cons (ed_globI W.i_MOST_ENTRIES) (ea_cons (ed_lenD (ed_name 2 rfl) W.f_len) ea_nil))) ⟨_, _, _, rfl, by rw [rat_len]; omega, rfl⟩) ?_
      exact sv_ret (ed_call (fn_blend_of W) (ea_cons (ed_fld (C := cB g.K) (ed_name 0 rfl) rfl W.c_Blend W.n_Blend_own_letters) (ea_cons (ed_name 2 rfl) ea_nil)) ⟨n, ks ++ ms, rfl, h1, h2, fun z => hne (List.append_eq_nil_iff.mp z).1, nd, hk, by omega, rfl⟩) rfl
def addF (k m : List Int) : List Int := (k.zip m).map fun z => z.1 + z.2
theorem sc_blends_multiplied : FnScope ["blend", "other", "found", "counts", "more", "both", "amount", "one", "two"] ["blend", "other"] (defScope s_blends_multiplied) := ⟨rfl, rfl, rfl, by decide +kernel, rfl, by decide +kernel, by decide +kernel⟩
theorem fn_blends_multiplied (W : Wl g) : FnP g "blends_multiplied" 12 (spP fun ds d => ∃ (n : Nat) (k0 : List Int) (ms : List (List Int)), ds = [bl g.K n [k0], bl g.K n ms] ∧ 1 ≤ n ∧ n ≤ 7 ∧ ms ≠ [] ∧ k0.length = n ∧ (∀ m ∈ ms, m.length = n) ∧ (ms.map (addF k0)).Nodup ∧ ms.length ≤ 300 ∧ k0.sum + (ms.headD []).sum ≤ 8 ∧ d = bl g.K n (sortR (ms.map (addF k0)))) :=
  mkFn (st := s_blends_multiplied) W.d_blends_multiplied W.g_blends_multiplied sc_blends_multiplied (fun _ _ _ _ _ _ us hl => match us, hl with | [_, _], _ => rfl) (fun ds d h => by obtain ⟨n, k0, ms, rfl, h1, h2, hne, hk0, hm0, nd, hz, hdeg, rfl⟩ := h <;> rfl) fun ds d h => by
    obtain ⟨n, k0, ms, rfl, h1, h2, hne, hk0, hm0, nd, hz, hdeg, rfl⟩ := h
    refine sv_if (k := true) (et_w (ew_and (et_cmp (ec_notS (ed_fld (C := cB g.K) (ed_name 0 rfl) rfl W.c_Blend W.n_Blend_own_degree) nn_int)) fun _ => ew_and1 (et_cmp (ec_notS (ed_fld (C := cB g.K) (ed_name 1 rfl) rfl W.c_Blend W.n_Blend_own_degree) nn_int)))) (fun _ => ?_) fun h => by cases h
    refine sv_do (ed_call (fn_want_at_most W) (ea_cons ed_str (ea_cons (ed_globI W.i_MOST_DEGREE) (ea_cons (ed_add (ed_fld (C := cB g.K) (ed_name 0 rfl) rfl W.c_Blend W.n_Blend_own_degree) (ed_fld (C := cB g.K) (ed_name 1 rfl) rfl W.c_Blend W.n_Blend_own_degree)) ea_nil))) ⟨_, _, _, rfl, hdeg, rfl⟩) (sv_nil ?_)
    refine sv_new 2 en_dnew (fun D => ?_) sc_blends_multiplied.nd
    refine sd_forK (kvs := rat g.K [k0]) (fun i ρ c => ∃ t u v w, ρ = [some (bl g.K n [k0]), some (bl g.K n ms), some (.adr D), t, u, v, w, none, none] ∧ c = .dic (rat g.K (if i = 0 then [] else ms.map (addF k0)))) (pl_fld (C := cB g.K) (pl_name 0 rfl) rfl W.c_Blend W.n_Blend_own_amounts) ⟨_, _, _, _, rfl, rfl⟩ (fun i kv ρ' c' hx h => ?_) fun ρ' c' h => ?_
    · obtain ⟨t, u, v, w, rfl, rfl⟩ := h
      obtain ⟨rfl, rfl⟩ : i = 0 ∧ (k0, r1 g.K) = kv := by
        cases i with
        | zero => exact ⟨rfl, Option.some.inj hx⟩
        | succ i => cases hx
      rw [if_pos rfl]
      refine ⟨_, [3], gv_name 3 sc_blends_multiplied.nd, ?_⟩
      refine sd_forK (kvs := rat g.K ms) (fun i ρ c => ∃ u v w, ρ = [some (bl g.K n [k0]), some (bl g.K n ms), some (.adr D), some (tI k0), u, v, w, none, none] ∧ c = .dic (rat g.K ((ms.map (addF k0)).take i))) (pl_fld (C := cB g.K) (pl_name 1 rfl) rfl W.c_Blend W.n_Blend_own_amounts) ⟨_, _, _, rfl, rfl⟩ (fun i kv ρ' c' hx h => ?_) fun ρ' c' h => ?_
      · obtain ⟨u, v, w, rfl, rfl⟩ := h
        obtain ⟨m, hm, rfl⟩ : ∃ m, ms[i]? = some m ∧ (m, r1 g.K) = kv := by
          unfold rat at hx
          rw [List.getElem?_map] at hx
          cases e : ms[i]? with
          | none =>
            rw [e] at hx
            cases hx
          | some m =>
            rw [e] at hx
            exact ⟨m, rfl, Option.some.inj hx⟩
        have hmm : m ∈ ms := List.mem_of_getElem? hm
        have hm2 : (ms.map (addF k0))[i]? = some (addF k0 m) := by rw [List.getElem?_map, hm]; rfl
        have hfr := nodup_fresh nd hm2
        have hln := hm0 m hmm
        refine ⟨_, [4], gv_name 4 sc_blends_multiplied.nd, ?_⟩
        refine sd_set (d := tI (addF k0 m)) 5 (edx_h (ed_tupM (f := fun z : Int × Int => z.1 + z.2) (ed_map [("one", 7), ("two", 8)] (as := k0.zip m) (g := dII) (fun z => .int (z.1 + z.2)) sc_blends_multiplied.nd (by kernel_rfl) (iv_zipI (ed_name 3 rfl) (ed_name 4 rfl) (by omega) W.f_zip) (by simp; omega) (fun z hz => ⟨_, [7, 8], gv_pair 7 8 sc_blends_multiplied.nd, by decide, ed_add (ed_name 7 rfl) (ed_name 8 rfl)⟩)) W.f_tuple)) ?_ sc_blends_multiplied.nd
        refine sd_set 6 (edx_h (ed_call (fn_pair_product W) (ea_cons (ed_getD (ed_fld (C := cB g.K) (ed_name 0 rfl) rfl W.c_Blend W.n_Blend_own_amounts) (ed_name 3 rfl) (rat_in (K := g.K) (ks := [k0]) List.mem_cons_self)) (ea_cons (ed_getD (ed_fld (C := cB g.K) (ed_name 1 rfl) rfl W.c_Blend W.n_Blend_own_amounts) (ed_name 4 rfl) (rat_in hmm)) ea_nil)) ⟨rfl, rfl⟩)) ?_ sc_blends_multiplied.nd
        refine sd_put 2 rfl (edx_v 2 rfl (ed_if (k := false) (ET.is (et_cmp (ec_inD (kk := addF k0 m) (ed_name 5 rfl) (ed_name 2 rfl))) (by rw [rat_out hfr]; rfl)) (fun h => by cases h) fun _ => ed_name (d := r1 g.K) 6 rfl) (off0_r1 g.K)) (ed_name 5 rfl) (rat_out hfr) (by rw [rat_len, List.length_take, List.length_map]; omega) (sd_nil ⟨_, _, _, rfl, ?_⟩)
        rw [rat_snoc, take_snoc hm2]
      · obtain ⟨u, v, w, rfl, rfl⟩ := h
        refine sd_nil ⟨_, _, _, _, rfl, ?_⟩
        rw [rat_len, ← List.length_map (as := ms) (addF k0), List.take_length, if_neg (by decide)]
    · obtain ⟨t, u, v, w, rfl, rfl⟩ := h
      rw [if_neg (by rw [rat_len]; exact Nat.succ_ne_zero 0)]
      refine sd_open (Rn' := fun _ => False) 2 rfl ?_ fun _ h => h
      refine sv_do (ed_call (fn_want_at_most W) (ea_cons ed_str (ea_cons (ed_globI W.i_MOST_ENTRIES) (ea_cons (ed_lenD (ed_name 2 rfl) W.f_len) ea_nil))) ⟨_, _, _, rfl, by rw [rat_len, List.length_map]; omega, rfl⟩) ?_
      refine sv_ret (ed_call (fn_blend_of W) (ea_cons (ed_fld (C := cB g.K) (ed_name 0 rfl) rfl W.c_Blend W.n_Blend_own_letters) (ea_cons (ed_name 2 rfl) ea_nil)) ⟨n, ms.map (addF k0), rfl, h1, h2, fun z => hne (List.map_eq_nil_iff.mp z), nd, fun k hk z => ?_, by rw [List.length_map]; omega, rfl⟩) rfl
      obtain ⟨m, hm, rfl⟩ := List.mem_map.mp hk
      have h3 : (addF k0 m).length = n := by
        have := hm0 m hm
        unfold addF
        rw [List.length_map, List.length_zip]
        omega
      rw [z] at h3
      simp at h3
      omega
end Gl

namespace Gl
open PySem PySem.Spec L2 PyProof.Rows
variable {g : Pg}

def gAdd (g : Pg) : List Dt → Dt → Prop := fun ds d => ∃ (n : Nat) (ks ms : List (List Int)), ds = [bl g.K n ks, bl g.K n ms] ∧ 1 ≤ n ∧ n ≤ 7 ∧ ks ≠ [] ∧ (ks ++ ms).Nodup ∧ (∀ k ∈ ks ++ ms, k ≠ []) ∧ (ks ++ ms).length ≤ 300 ∧ (ks.map hashK).Nodup ∧ (ks.headD []).sum = (ms.headD []).sum ∧ d = bl g.K n (sortR (ks ++ ms))
theorem sc_Blend_add : FnScope ["self", "other"] ["self", "other"] (defScope s_Blend_add) := ⟨rfl, rfl, rfl, by decide +kernel, rfl, by decide +kernel, by decide +kernel⟩
theorem mt_Blend_add (W : Wl g) : MtP g (cB g.K) "__add__" 13 (gAdd g) :=
  mkM (st := s_Blend_add) W.d_Blend_add W.m_Blend_add sc_Blend_add (fun _ _ _ _ _ _ us hl => match us, hl with | [_, _], _ => rfl) (fun ds d h => by obtain ⟨_, _, _, rfl, _⟩ := h; rfl) fun ds d h => by
    obtain ⟨n, ks, ms, rfl, h1, h2, h3, h4, h5, h6, h7, h8, rfl⟩ := h
    refine sv_do (ed_call (fn_want_alike W) (ea_cons (ed_name 0 rfl) (ea_cons (ed_call (fn_want_blend W) (ea_cons (ed_name 1 rfl) ea_nil) ⟨_, rfl, rfl⟩) (ea_cons ed_bl ea_nil))) ⟨n, ks, ms, true, rfl, fun _ => h8, rfl⟩) ?_
    exact sv_ret (ed_call (fn_blends_added W) (ea_cons (ed_name 0 rfl) (ea_cons (ed_name 1 rfl) ea_nil)) ⟨n, ks, ms, rfl, h1, h2, h3, h4, h5, h6, h7, rfl⟩) rfl
def gMul (g : Pg) : List Dt → Dt → Prop := fun ds d => ∃ (n : Nat) (k0 : List Int) (ms : List (List Int)), ds = [bl g.K n [k0], bl g.K n ms] ∧ 1 ≤ n ∧ n ≤ 7 ∧ ms ≠ [] ∧ k0.length = n ∧ (∀ m ∈ ms, m.length = n) ∧ (ms.map (addF k0)).Nodup ∧ ms.length ≤ 300 ∧ k0.sum + (ms.headD []).sum ≤ 8 ∧ d = bl g.K n (sortR (ms.map (addF k0)))
theorem sc_Blend_mul : FnScope ["self", "other"] ["self", "other"] (defScope s_Blend_mul) := ⟨rfl, rfl, rfl, by decide +kernel, rfl, by decide +kernel, by decide +kernel⟩
theorem mt_Blend_mul (W : Wl g) : MtP g (cB g.K) "__mul__" 13 (gMul g) :=
  mkM (st := s_Blend_mul) W.d_Blend_mul W.m_Blend_mul sc_Blend_mul (fun _ _ _ _ _ _ us hl => match us, hl with | [_, _], _ => rfl) (fun ds d h => by obtain ⟨_, _, _, rfl, _⟩ := h; rfl) fun ds d h => by
    obtain ⟨n, k0, ms, rfl, h1, h2, h3, h4, h5, h6, h7, h8, rfl⟩ := h
    refine sv_do (ed_call (fn_want_alike W) (ea_cons (ed_name 0 rfl) (ea_cons (ed_call (fn_want_blend W) (ea_cons (ed_name 1 rfl) ea_nil) ⟨_, rfl, rfl⟩) (ea_cons ed_bl ea_nil))) ⟨n, [k0], ms, false, rfl, (fun z => by cases z), rfl⟩) ?_
    exact sv_ret (ed_call (fn_blends_multiplied W) (ea_cons (ed_name 0 rfl) (ea_cons (ed_name 1 rfl) ea_nil)) ⟨n, k0, ms, rfl, h1, h2, h3, h4, h5, h6, h7, h8, rfl⟩) rfl
theorem cut_lts {n : Nat} (h : n ≤ 7) : cutS "abcdefg" none (some (n : Int)) = lts n := by
  have hn : n = 0 ∨ n = 1 ∨ n = 2 ∨ n = 3 ∨ n = 4 ∨ n = 5 ∨ n = 6 ∨ n = 7 := by omega
  rcases hn with rfl | rfl | rfl | rfl | rfl | rfl | rfl | rfl <;> decide +kernel
theorem sc_greatest_blend : FnScope ["many", "lots", "tops", "lot"] ["many", "lots"] (defScope s_greatest_blend) := ⟨rfl, rfl, rfl, by decide +kernel, rfl, by decide +kernel, by decide +kernel⟩
theorem fn_greatest_blend (W : Wl g) : FnP g "greatest_blend" 10 (spP fun ds d => ∃ (n : Nat) (ls : List (List Int)) (deg : Int), ds = [.int n, lI ls] ∧ Hs n ls ∧ greF ls ≠ [] ∧ Ents n ((greF ls).map (cntF n)) deg ∧ d = bl g.K n (sortR ((greF ls).map (cntF n)))) :=
  mkFn (st := s_greatest_blend) W.d_greatest_blend W.g_greatest_blend sc_greatest_blend (fun _ _ _ _ _ _ us hl => match us, hl with | [_, _], _ => rfl) (fun ds d h => by obtain ⟨n, ls, deg, rfl, hs, hne, en, rfl⟩ := h <;> rfl) fun ds d h => by
    obtain ⟨n, ls, deg, rfl, hs, hne, en, rfl⟩ := h
    have h1 := en.n1
    have h7 := en.n7
    have hl := en.len
    rw [List.length_map] at hl
    refine sv_skip (ET.is (et_w (ew_and (k := false) (l := false) (ET.is (et_cmp (ec_eqI (ed_name 0 rfl) ed_int)) (decide_eq_false (by omega))) fun h => by cases h)) rfl) ?_
    refine sv_set 2 (ed_call (fn_longest_of W) (ea_cons (ed_call (fn_told_house W) (ea_cons (ed_name 0 rfl) (ea_cons (ed_name 1 rfl) ea_nil)) ⟨n, ls, rfl, hs, rfl⟩) ea_nil) ⟨_, rfl, hs.here.len, rfl⟩) ?_ sc_greatest_blend.nd
    refine sv_ret (ed_make (mk_Blend W) (ea_cons (ED.is (ed_toS (n := n) (ed_globS W.s_LETTERS) (Nat.le_of_ble_eq_true rfl) (ed_name 0 rfl)) (congrArg Dt.str (cut_lts h7))) (ea_cons (ED.is (ed_map [("lot", 3)] (as := greF ls) (g := tI) (fun l => entD (cntF n l)) sc_greatest_blend.nd (by kernel_rfl) (iv_list (ed_name 2 rfl)) (by omega) (fun l hl => ⟨_, [3], gv_name 3 sc_greatest_blend.nd, by decide, ed_tup (ea_cons (ed_call (fn_counts_of W) (ea_cons (ed_name 3 rfl) (ea_cons (ed_name 0 rfl) ea_nil)) ⟨l, n, rfl, by omega, rfl⟩) (ea_cons ed_int ea_nil)) (Nat.le_of_ble_eq_true rfl)⟩)) ?_) ea_nil)) ⟨n, sortR ((greF ls).map (cntF n)), h1, h7, fun z => hne ?_, by rw [sortR_len, List.length_map]; omega, rfl, .inr ⟨(greF ls).map (cntF n), deg, rfl, en, rfl⟩⟩) rfl
    · rw [List.map_map]
      rfl
    · have h3 := sortR_len ((greF ls).map (cntF n))
      rw [z, List.length_map] at h3
      exact List.eq_nil_of_length_eq_zero h3.symm
end Gl

namespace Gl
open PySem PySem.Spec L2 PyProof.Rows
variable {g : Pg}

section
variable {S : Sx} {q : Option Addr} {ρ : En} {a b e : Expr} {pos p : Pos} {ns : List Int}
theorem ed_lenRo {K : PySem.W.Frag} (hK : S.K = K) (ha : ED S a ρ (.ro K ns)) (hm : S.mg "len" = none) (hg : S.sc.names.lookup ("len" : Str) = some .globalImplicit := by rfl) (hs : ∀ env : Env, starEach [a] env = (false, eval a env) :: starEach [] env := by intro _; rfl) : ED S (.Call (.Name "len" p) [a] [] pos) ρ (.int ns.length) :=
  ed_bi (cl_of (r := rLenQ) fun X _ => call_len_seq) (ha := ea_cons ha ea_nil hs) (he := hs) (hr := fun P H vs pk r0 Q z => by
    obtain ⟨v, rfl, r⟩ := r0.at1
    obtain ⟨l, rfl, g⟩ := r
    subst hK
    refine ⟨l, _, rfl, .inl (by rcases g with g | g
                                · exact .inl (rd_hid' g)
                                · exact .inr g), ?_⟩
    rw [List.length_map]
    exact z _ H (Same.refl H) rfl) (hm := hm) (hv := PySem.boot_len) (hg := hg)
where rd_hid' {P : Addr → Bool} {H : Hp} {a : Addr} {u : HO} (h : Rd (hid P H) a u) : Rd H a u := rd_hid h
theorem ed_ixRo {K : PySem.W.Frag} {i m : Int} (hK : S.K = K) (ha : ED S a ρ (.ro K ns)) (hb : ED S b ρ (.int i)) (hd : atI ns i = some m) (hs : PlainIx b := by exact fun _ _ => rfl) : ED S (.Subscript a b pos) ρ (.int m) := fun X hX P σ H w er Q z => by
  refine wE.of (pe_ix (r := rIxL S.K) (by rw [← hX.K]; exact ix_list) pe_w pe_w hs) ?_
  refine ha X hX P σ H w er _ fun v H1 s1 r1 => ?_
  refine hb X hX P σ H1 (w.same s1) (er.same s1.hid) _ fun u H2 s2 r2 => ?_
  obtain ⟨l, rfl, g⟩ := r1.same s2.hid
  subst hK
  refine ⟨l, ns.map .int, i, .int m, rfl, r2, ?_, ?_, z _ H2 (s1.trans s2) rfl⟩
  · rcases g with g | g
    · exact .inl (rd_hid g)
    · exact .inr g
  · unfold atI at hd ⊢
    rw [List.length_map]
    cases h : ixN ns.length i with
    | none =>
      rw [h] at hd
      cases hd
    | some j =>
      rw [h] at hd
      show (ns.map V.int)[j]? = _
      rw [List.getElem?_map, show ns[j]? = some m from hd]
      rfl
end
def potC (ns : List Int) : Int := if decide (0 < (ns.length : Int)) then (if ns.headD 0 < 0 then -(ns.headD 0) else ns.headD 0) else 127 * 0 + 61
def potA (ns : List Int) : Int := if potC ns - 10 ^ (18 : Int).toNat > 0 then potC ns - 10 ^ (18 : Int).toNat else 0
def potB (ns : List Int) : Int := (potC ns % 2147483549 * 48271 + 1013 * 0 + 83) % 2147483563 + 1
theorem potB_ok (ns : List Int) : 0 ≤ potB ns ∧ potB ns < 4294967296 := by
  unfold potB
  omega
theorem potA_ok (ns : List Int) : 0 ≤ potA ns := by
  unfold potA
  split <;> omega
theorem sc_law_pot : FnScope ["_law_script", "_law_k", "_law_cell"] ["_law_script", "_law_k"] (defScope s_law_pot) := ⟨rfl, rfl, rfl, by decide +kernel, rfl, by decide +kernel, by decide +kernel⟩
theorem fn_law_pot (W : Wl g) : FnP g "_law_pot" 2 (spP fun ds d => ∃ ns : List Int, ds = [.ro g.K ns, .int 0] ∧ d = .lst [.int (potA ns), .int (potB ns)]) :=
  mkFn (st := s_law_pot) W.d_law_pot W.g_law_pot sc_law_pot (fun _ _ _ _ _ _ us hl => match us, hl with | [_, _], _ => rfl) (fun ds d h => by obtain ⟨ns, rfl, rfl⟩ := h <;> rfl) fun ds d h => by
    obtain ⟨ns, rfl, rfl⟩ := h
    refine sv_set (d := .int (potC ns)) 2 (ED.is (ed_if (d := .int (potC ns)) (et_cmp (ec_lt (ed_name 1 rfl) (ed_lenRo rfl (ed_name 0 rfl) W.f_len))) (fun h => ?_) fun h => ?_) rfl) ?_ sc_law_pot.nd
    · have h0 : 0 < (ns.length : Int) := by simpa using h
      have h1 : atI ns 0 = some (ns.headD 0) := by
        cases ns with
        | nil => simp at h0
        | cons x r => exact atI_nat (i := 0) rfl
      refine ED.is (ed_absI (ed_ixRo rfl (ed_name 0 rfl) (ed_name 1 rfl) h1) W.f_abs) ?_
      unfold potC
      rw [if_pos h]
    · refine ED.is (ed_add (ed_mul ed_int (ed_name 1 rfl) (.inl (by decide))) ed_int) ?_
      unfold potC
      (rw [if_neg (by rw [h]; exact Bool.false_ne_true)])
    · refine sv_ret (ed_lst (ea_cons (ed_max2 ed_int (ed_sub (ed_name 2 rfl) (ed_pow ed_int ed_int ⟨by decide, by decide, by decide⟩)) W.f_max) (ea_cons (ed_add (ed_mod (ed_intI (ed_add (ed_add (ed_mul (ed_mod (ed_intI (ed_name 2 rfl) W.f_int) ed_int (by decide)) ed_int (.inr (by decide))) (ed_mul ed_int (ed_name 1 rfl) (.inl (by decide)))) ed_int) W.f_int) ed_int (by decide)) ed_int) ea_nil)) (Nat.le_of_ble_eq_true rfl)) rfl
end Gl

namespace Gl
open PySem PySem.Spec L2 PyProof.Rows
variable {g : Pg}
/-- at this heap e is worth the number n, nothing changes -/
def EH (X : Cx) (σ : L2.St) (H : Hp) (e : Expr) (n : Int) : Prop := ∀ Q : VK, Q (.int n) H → wE X e σ H Q
section
variable {X : Cx} {σ : L2.St} {H : Hp} {e a b : Expr} {pos p : Pos} {m n : Int}
theorem eh_int {j : Nat} : EH X σ H (.Constant (.int n) j pos) n := fun Q q => wE.of pe_int q
theorem eh_name {x : Str} (i : Nat) (h : σ[i]? = some (some (.int n))) (hN : X.N[i]? = some x) (hv : Vis X.env.scope x) (hd : (x == ("__debug__" : Str)) = false := by decide) (hcd : (x == ("__classdict__" : Str)) = false := by decide) : EH X σ H (.Name x pos) n := fun Q q =>
  wE.of (pe_var hN hv hd hcd) ⟨_, h, q⟩
theorem eh_op {op : Operator} {r : R2} {k : Int} (ho : OpR X (binaryOp op) r) (ha : EH X σ H a m) (hb : EH X σ H b n) (hr : ∀ Q : VK, Q (.int k) H → r (.int m) (.int n) H Q) : EH X σ H (.BinOp a op b pos) k := fun Q q =>
  wE.of (pe_op ho pe_w pe_w) (ha _ (hb _ (hr Q q)))
theorem eh_add (ha : EH X σ H a m) (hb : EH X σ H b n) : EH X σ H (.BinOp a .Add b pos) (m + n) := eh_op op_add ha hb fun Q q => ⟨m, n, rfl, rfl, q⟩
theorem eh_mul (ha : EH X σ H a m) (hb : EH X σ H b n) (hc : CMul m n) : EH X σ H (.BinOp a .Mult b pos) (m * n) := eh_op op_mul ha hb fun Q q => ⟨m, n, rfl, rfl, hc, q⟩
theorem eh_mod (ha : EH X σ H a m) (hb : EH X σ H b n) (hc : 0 < n) : EH X σ H (.BinOp a .Mod b pos) (m % n) := eh_op op_mod ha hb fun Q q => ⟨m, n, rfl, rfl, hc, q⟩
theorem eh_fdiv (ha : EH X σ H a m) (hb : EH X σ H b n) (hc : CDiv m n) : EH X σ H (.BinOp a .FloorDiv b pos) (m / n) := eh_op op_fdiv ha hb fun Q q => ⟨m, n, rfl, rfl, hc, q⟩
theorem eh_toInt (ha : EH X σ H a n) (hg : L2.Gl X "int") (hm : X.mg "int" = none) (hs : starEach [a] X.env = (false, eval a X.env) :: starEach [] X.env) : EH X σ H (.Call (.Name "int" p) [a] [] pos) n := fun Q q => by
  refine wE.of (pe_callTy call_int1 hg hm (by decide +kernel : bootBuiltins ("int" : Str) = some (.type "int")) (pa_cons pe_w pa_nil hs) (by decide) (by decide) hs) ?_
  exact ha _ (.inl ⟨n, rfl, q⟩)
theorem eh_gt (ha : EH X σ H a m) (hb : EH X σ H b n) : ∀ Q : VK, Q (.bl (decide (n < m))) H → wC X .Gt a b σ H Q := fun Q q => by
  refine ⟨fun pins s I => ?_⟩
  refine bin (X := X) pe_w pe_w (R := fun x y H2 => rI0 (fun i j => .bl (decide (j < i))) x y H2 Q) (ta := wE X a) (tb := wE X b) I ?_ fun v u s2 x y H2 I2 rx ry h => op_gt pins s2 σ H2 x y v u Q I2 rx ry h
  exact ha _ (hb _ ⟨m, n, rfl, rfl, q⟩)
/-- an item of the pot -/
theorem eh_pot {x : Str} {pt : Addr} {xs : List V} {p2 p3 : Pos} {j : Nat} {k : Int} (i : Nat) (h : σ[i]? = some (some (.ref pt))) (hp : H pt = some (.lst xs)) (hx : atI xs k = some (.int n)) (hN : X.N[i]? = some x) (hv : Vis X.env.scope x) (hd : (x == ("__debug__" : Str)) = false := by decide) (hcd : (x == ("__classdict__" : Str)) = false := by decide) :
    EH X σ H (.Subscript (.Name x p) (.Constant (.int k) j p2) p3) n := fun Q q => by
  refine wE.of (pe_ix (r := rIxL X.K) ix_list (pe_var hN hv hd hcd) pe_int (fun _ _ => rfl)) ?_
  exact ⟨_, h, pt, xs, k, .int n, rfl, rfl, .inl (.inl hp), hx, q⟩
end
theorem sc_law_draw : FnScope ["_law_pot_here", "_law_many", "_law_digit"] ["_law_pot_here", "_law_many"] (defScope s_law_draw) := ⟨rfl, rfl, rfl, by decide +kernel, rfl, by decide +kernel, by decide +kernel⟩
def gDraw : List Dt → (Dt → Prop) → Prop := fun ds R => ∃ m : Int, ds = [.int m] ∧ 0 < m ∧ m ≤ 1000 ∧ R = fun d => ∃ i : Nat, (i : Int) < m ∧ d = .int i
theorem fn_law_draw (W : Wl g) : FnP g "_law_draw" 2 (spV gDraw) :=
  mkFnV (st := s_law_draw) W.d_law_draw W.g_law_draw sc_law_draw (fun _ _ _ _ _ _ us hl => match us, hl with | [_, _], _ => rfl) (fun ds R h => by obtain ⟨m, rfl, _⟩ := h; rfl) fun pt ds R h => by
    obtain ⟨m, rfl, hm, hm2, rfl⟩ := h
    intro X hX P σ H w er D nx rt
    obtain ⟨hP, a, b, ha, hb, hb2, hH⟩ := w.hid pt rfl
    obtain ⟨v0, g0, r0⟩ := er.get 0 _ rfl
    obtain ⟨v1, g1, r1⟩ := er.get 1 _ rfl
    have e0 : v0 = .ref pt := r0
    have e1 : v1 = .int m := r1
    subst e0 e1
    have hN : X.N = (["_law_pot_here", "_law_many", "_law_digit"] : List Str) := hX.N
    have hsc : X.env.scope = defScope s_law_draw := hX.sc
    have n0 : X.N[0]? = some ("_law_pot_here" : Str) := by rw [hN]; rfl
    have n1 : X.N[1]? = some ("_law_many" : Str) := by rw [hN]; rfl
    have n2 : X.N[2]? = some ("_law_digit" : Str) := by rw [hN]; rfl
    have q0 : Vis X.env.scope ("_law_pot_here" : Str) := by rw [hsc]; exact Or.inl rfl
    have q1 : Vis X.env.scope ("_law_many" : Str) := by rw [hsc]; exact Or.inl rfl
    have q2 : Vis X.env.scope ("_law_digit" : Str) := by rw [hsc]; exact Or.inl rfl
    have gi : L2.Gl X "int" := hX.gl rfl
    have mi : X.mg "int" = none := by rw [hX.mg]; exact W.f_int
    have pot0 : ∀ {p p2 p3 : Pos} {j : Nat}, EH X σ H (.Subscript (.Name "_law_pot_here" p) (.Constant (.int 0) j p2) p3) a := fun {_ _ _ _} => eh_pot 0 g0 hH rfl n0 q0
    refine wSs.of (pss_cons (ps_if (pt_cmp pc_w (nobehind _ (by decide) (by decide))) pss_w pss_w) pss_w) ?_
    refine eh_gt pot0 eh_int _ ⟨decide (0 < a), rfl, ?_⟩
    by_cases hc : 0 < a
    · rw [decide_eq_true hc]
      refine iteT ?_
      refine wSs.of (pss_cons (ps_asg (pe_callB call_divmod (hX.gl rfl) (by rw [hX.mg]; exact W.f_divmod) (by decide +kernel : bootBuiltins ("divmod" : Str) = some (.builtin "divmod")) (pa_cons pe_w (pa_cons pe_w pa_nil))) (pg_tup (n := 2) hX.calm (pgs_cons (pg_sub pe_w pe_w set_list) (pgs_cons (pg_name (i := 2) (by rw [hN]; decide) n2 (by rw [hsc]; exact Or.inl rfl) (.inr (by rw [hsc]; rfl))) pgs_nil))) (by cases hX; rfl) (by cases hX; rfl) rfl) pss_w) ?_
      refine pot0 _ ((eh_name 1 g1 n1 q1) _ ⟨a, m, rfl, ⟨hm, by omega⟩, fun t nt => ?_⟩)
      refine ⟨t, [.int (a / m), .int (a % m)], rfl, .inl (.inl upd_same), rfl, .int (a / m), [.int (a % m)], rfl, ?_⟩
      have hpt : t ≠ pt := fun z => by
        rw [z, hH] at nt
        cases nt
      refine wE.of (pe_var n0 q0) ⟨.ref pt, g0, wE.of pe_int ?_⟩
      refine ⟨pt, [.int a, .int b], 0, 0, rfl, rfl, by rw [upd_ne (Ne.symm hpt)]; exact hH, rfl, .int (a % m), [], rfl, rfl, ?_⟩
      have gl : σ.length = 3 := er.len
      refine wSs.of (pss_cons (ps_ret pe_w) pss_w) ((eh_name 2 (by rw [List.getElem?_set_self (by omega)]) n2 q2) _ ?_)
      have h1 := Int.emod_nonneg a (show m ≠ 0 by omega)
      have h2 := Int.emod_lt_of_pos a hm
      refine rt _ (.int (a % m)) _ ⟨fun c o hc2 e => ?_, fun p e _ => ?_⟩ rfl ⟨(a % m).toNat, by omega, by rw [Int.toNat_of_nonneg h1]⟩
      · rw [upd_ne (fun z => hc2 (by rw [z])), upd_ne (ne_of_none e nt)]
        exact e
      · cases e
        exact ⟨a / m, b, Int.ediv_nonneg ha (by omega), hb, hb2, upd_same⟩
    · rw [decide_eq_false hc]
      refine iteF ?_
      refine wSs.of pss_nil ?_
      have pot1 : ∀ {H1 : Hp} {c : Int} {p p2 p3 : Pos} {j : Nat}, H1 pt = some (.lst [.int a, .int c]) → EH X σ H1 (.Subscript (.Name "_law_pot_here" p) (.Constant (.int 1) j p2) p3) c := fun {_ _ _ _ _ _} h => eh_pot 0 g0 h rfl n0 q0
      refine wSs.of (pss_cons (ps_asg pe_w (pg_sub pe_w pe_w set_list) (by cases hX; rfl) (by cases hX; rfl) rfl) pss_w) ?_
      refine (eh_mod (eh_toInt (eh_add (eh_mul (pot1 hH) eh_int (.inr (by decide))) eh_int) gi mi rfl) eh_int (by decide)) _ ?_
      refine wE.of (pe_var n0 q0) ⟨.ref pt, g0, wE.of pe_int ?_⟩
      refine ⟨pt, [.int a, .int b], 1, 1, rfl, rfl, hH, rfl, ?_⟩
      have hc1 := Int.emod_nonneg (b * 39373 + 83) (show (2147483587 : Int) ≠ 0 by decide)
      have hc3 := Int.emod_lt_of_pos (b * 39373 + 83) (show (0 : Int) < 2147483587 by decide)
      generalize hcc : (b * 39373 + 83) % 2147483587 = c at hc1 hc3
      have hH1 : upd H pt (.lst ([V.int a, V.int b].set 1 (.int c))) pt = some (.lst [.int a, .int c]) := upd_same
      refine wSs.of (pss_cons (ps_ret pe_w) pss_w) ((eh_mod (eh_toInt (eh_fdiv (eh_mod (eh_toInt (eh_mul (pot1 hH1) (pot1 hH1) (.inl ⟨by omega, by omega⟩)) gi mi rfl) eh_int (by decide)) eh_int ⟨by decide, by decide⟩) gi mi rfl) (eh_name 1 g1 n1 q1) hm) _ ?_)
      generalize c * c % 2147483563 / 17 = d
      have h1 := Int.emod_nonneg d (show m ≠ 0 by omega)
      have h2 := Int.emod_lt_of_pos d hm
      refine rt _ (.int (d % m)) _ ⟨fun c o hc2 e => ?_, fun p e _ => ?_⟩ rfl ⟨(d % m).toNat, by omega, by rw [Int.toNat_of_nonneg h1]⟩
      · rw [upd_ne (fun z => hc2 (by rw [z]))]
        exact e
      · cases e
        exact ⟨a, c, ha, hc1, by omega, hH1⟩
end Gl

namespace Gl
open PySem PySem.Spec L2 PyProof.Rows
variable {g : Pg}

def drawR (m : Int) : Dt → Prop := fun d => ∃ i : Nat, (i : Int) < m ∧ d = .int i
theorem ev_draw (W : Wl g) {N : List Str} {sc : Scope} {k : Nat} {pt : Addr} {ρ : En} {x : Str} {e : Expr} {p p2 pos : Pos} {m : Int} {S : Sx} (hS : S.pg = g) (hp : ED S (.Name x p) ρ (.adr pt)) (he : ED S e ρ (.int m)) (h0 : 0 < m) (h1 : m ≤ 1000) (hk : 2 ≤ S.k := by exact Nat.le_of_ble_eq_true rfl) (hg : S.sc.names.lookup ("_law_draw" : Str) = some .globalImplicit := by rfl)
    (hs : ∀ env : Env, starEach [.Name x p, e] env = (false, eval (.Name x p) env) :: starEach [e] env := by intro _; rfl) (hs2 : ∀ env : Env, starEach [e] env = (false, eval e env) :: starEach [] env := by intro _; rfl) (hpl : ∀ env : Env, (backTo pos (starEach [e] env)).any (·.1) = false := by intro _; rfl) :
    EV S (some pt) (.Call (.Name "_law_draw" p2) [.Name x p, e] [] pos) ρ (drawR m) := by
  subst hS
  exact ev_callV (T := fun ds => ds = [.int m]) (fn_law_draw W) (va_pot hp (va_of (ea_cons he ea_nil hs2) rfl) hs) (fun ds h => ⟨m, h, h0, h1, rfl⟩) hk hg (by decide) hs hpl
theorem sc_law_pick : FnScope ["_law_pot_here", "_law_some"] ["_law_pot_here", "_law_some"] (defScope s_law_pick) := ⟨rfl, rfl, rfl, by decide +kernel, rfl, by decide +kernel, by decide +kernel⟩
theorem fn_law_pick (W : Wl g) : FnP g "_law_pick" 4 (spV fun ds R => ∃ xs : List Dt, ds = [.lst xs] ∧ 0 < xs.length ∧ xs.length ≤ 1000 ∧ R = (fun d => d ∈ xs)) :=
  mkFnV (st := s_law_pick) W.d_law_pick W.g_law_pick sc_law_pick (fun _ _ _ _ _ _ us hl => match us, hl with | [_, _], _ => rfl) (fun ds R h => by obtain ⟨xs, rfl, h0, h1, rfl⟩ := h <;> rfl) fun p ds R h => by
    obtain ⟨xs, rfl, h0, h1, rfl⟩ := h
    refine sv_retV (ev_ixL (T := drawR xs.length) (ed_name 1 rfl) (ev_draw W (N := []) (sc := defScope s_law_pick) (k := 0) rfl (ed_name 0 rfl) (ed_lenL (ed_name 1 rfl) W.f_len) (by omega) (by omega)) fun z hz => ?_)
    obtain ⟨i, hi, rfl⟩ := hz
    have hi2 : i < xs.length := by omega
    exact ⟨i, xs[i], rfl, atI_nat (List.getElem?_eq_getElem hi2), List.getElem_mem hi2⟩
/-- a list of lists of numbers -/
def rwD (r : List Int) : Dt := .lst (r.map .int)
mutual
def detF : Nat → List (List Int) → Int
  | 0, _ => 1
  | n + 1, rows => detL n (rows.headD []) rows.tail 0 1 0
def detL : Nat → List Int → List (List Int) → Nat → Int → Int → Int
  | _, [], _, _, _, f => f
  | n, x :: r, rest, at_, sg, f => detL n r rest (at_ + 1) (0 - sg) (if x = 0 then f else f + sg * x * detF n (rest.map fun row => row.take at_ ++ row.drop (at_ + 1)))
end
def encR (r : List Int) : PyData := .list (r.map .int)
theorem dp_rows {K : PySem.W.Frag} {P : Addr → Bool} {H : Hp} : ∀ {ls : List (List Int)} {vs : List V}, RepL (hid P H) (ls.map rwD) vs → DpAll K H vs (ls.map encR)
  | [], vs, r => by
    rw [show vs = [] from r]
    exact .nil
  | l :: ls, vs, r => by
    obtain ⟨v, t, e, r1, r2⟩ := r
    rw [e]
    exact .cons (dp_il r1) (dp_rows r2)
theorem shaped_rows (ls : List (List Int)) : SeqAt.shaped (.list (ls.map encR)) = true := by
  have h1 : ∀ ls : List (List Int), PyData.canLayAll0 (ls.map encR) = true := by
    intro ls
    induction ls with
    | nil => simp [PyData.canLayAll0]
    | cons l ls ih =>
      rw [List.map_cons, PyData.canLayAll0, ih]
      unfold encR
      rw [PyData.canLay0, canLay_ints]
      rfl
  have h2 : ∀ ls : List (List Int), PyData.depthAll (ls.map encR) ≤ 1 := by
    intro ls
    induction ls with
    | nil => simp [PyData.depthAll]
    | cons l ls ih =>
      (rw [List.map_cons, PyData.depthAll])
      unfold encR at ih ⊢
      rw [PyData.depth, PySem.W.depth_ints]
      omega
  unfold SeqAt.shaped
  have h3 : PyData.canLay0 (.list (ls.map encR)) = true := by
    rw [PyData.canLay0]
    exact h1 ls
  have h4 : PyData.depth (.list (ls.map encR)) ≤ 64 := by
    rw [PyData.depth]
    have := h2 ls
    omega
  rw [h3, decide_eq_true h4]
  rfl
theorem ec_eqRows {S : Sx} {ρ : En} {a b : Expr} {ls : List (List Int)} (ha : ED S a ρ (.lst (ls.map rwD))) (hb : ED S b ρ (.lst [])) : EC S .Eq a b ρ (.bl ls.isEmpty) :=
  ec_op (r := rEqD S.K) (fun X hX => by rw [← hX.K]; exact op_eqD hX.hu) ha hb fun P H x y pk rx ry Q z => by
    obtain ⟨l1, vs1, rfl, g1, q1⟩ := rep_lst rx
    obtain ⟨l2, vs2, rfl, g2, q2⟩ := rep_lst ry
    have e2 : vs2 = [] := q2
    subst e2
    refine ⟨.list (ls.map encR), .list [], .lst (.inl (.inl g1)) (dp_rows q1), .lst (.inl (.inl g2)) .nil, shaped_rows ls, shaped_rows [], ?_⟩
    have e : PyData.eqv (.list (ls.map encR)) (.list []) = ls.isEmpty := by
      rw [PyData.eqv]
      cases ls with
      | nil => simp [PyData.eqvAll]
      | cons l ls => simp [PyData.eqvAll]
    rw [e]
    exact z _ H (Same.refl H) rfl
theorem enumI_eq (r : List Int) : ((r.map Dt.int).mapIdx fun i d => Dt.tup [.int i, d]) = (r.mapIdx fun i x => ((i : Int), x)).map dII := by
  refine List.ext_getElem? fun i => ?_
  simp only [List.getElem?_mapIdx, List.getElem?_map]
  cases r[i]? <;> rfl
def gDet (n : Nat) : List Dt → Dt → Prop := fun ds d => ∃ rows : List (List Int), ds = [.lst (rows.map rwD)] ∧ rows.length = n ∧ (∀ r ∈ rows, r.length = n ∧ ∀ x ∈ r, -(2 ^ 63) ≤ x ∧ x ≤ 2 ^ 63) ∧ n ≤ 5 ∧ d = .int (detF n rows)
theorem sc_law_det : FnScope ["_law_rows", "_law_found", "_law_sign", "_law_at", "_law_number", "_law_row"] ["_law_rows"] (defScope s_law_det) := ⟨rfl, rfl, rfl, by decide +kernel, rfl, by decide +kernel, by decide +kernel⟩
theorem fn_law_det (W : Wl g) : ∀ n : Nat, FnP g "_law_det" (5 + n) (spP (gDet n)) := fun n => by
  induction n with
  | zero =>
    refine mkFn (k := 4) (st := s_law_det) W.d_law_det W.g_law_det sc_law_det (fun _ _ _ _ _ _ us hl => match us, hl with | [_], _ => rfl) (fun ds d h => by obtain ⟨_, rfl, _⟩ := h; rfl) fun ds d h => ?_
    obtain ⟨rows, rfl, hn, hr, h5, rfl⟩ := h
    have e : rows = [] := List.eq_nil_of_length_eq_zero hn
    subst e
    refine sv_if (k := true) (et_cmp (ec_eqRows (ls := []) (ed_name 0 rfl) (ed_lst ea_nil (by decide)))) (fun _ => ?_) fun h => by cases h
    exact sv_ret ed_int (by rw [detF])
  | succ n ih =>
    refine mkFn (k := 5 + n) (st := s_law_det) W.d_law_det W.g_law_det sc_law_det (fun _ _ _ _ _ _ us hl => match us, hl with | [_], _ => rfl) (fun ds d h => by obtain ⟨_, rfl, _⟩ := h; rfl) fun ds d h => ?_
    obtain ⟨rows, rfl, hn, hr, h5, rfl⟩ := h
    obtain ⟨r0, rest, rfl⟩ : ∃ r0 rest, rows = r0 :: rest := by
      cases rows with
      | nil => cases hn
      | cons r0 rest => exact ⟨r0, rest, rfl⟩
    have hrl : rest.length = n := by simpa using hn
    obtain ⟨h00, h01⟩ := hr r0 List.mem_cons_self
    refine sv_skip (ET.is (et_cmp (ec_eqRows (ls := r0 :: rest) (ed_name 0 rfl) (ed_lst ea_nil (by decide)))) rfl) ?_
    refine sv_asg (js := [1, 2]) (ed_tup (ea_cons ed_int (ea_cons ed_int ea_nil)) (by decide)) (gv_pair 1 2 sc_law_det.nd) ?_
    refine sv_for (as := r0.mapIdx fun i x => ((i : Int), x)) (g := dII) (fun i ρ => ∃ f s t u, ρ = [some (.lst ((r0 :: rest).map rwD)), some (.int f), some (.int s), t, u, none] ∧ detL n (r0.drop i) rest i s f = detF (n + 1) (r0 :: rest) ∧ (s = 1 ∨ s = -1)) (by rw [← enumI_eq]; exact iv_enum (ed_ixL (d := rwD r0) (ed_name 0 rfl) ed_int (atI_nat (i := 0) rfl)) W.f_enumerate) ⟨0, 1, _, _, rfl, by rw [detF]; rfl, .inl rfl⟩ (fun i z ρ' hz h => ?_) fun ρ' h => ?_
    · obtain ⟨f, s, t, u, rfl, hi, hs⟩ := h
      rw [List.getElem?_mapIdx] at hz
      cases hx : r0[i]? with
      | none =>
        rw [hx] at hz
        cases hz
      | some x =>
        rw [hx] at hz
        have hz2 := Option.some.inj hz
        subst hz2
        have hxm := h01 x (List.mem_of_getElem? hx)
        rw [drop_at hx, detL] at hi
        refine ⟨_, [3, 4], gv_pair 3 4 sc_law_det.nd, ?_⟩
        have hsx : -(2 ^ 63) ≤ s * x ∧ s * x ≤ 2 ^ 63 := by rcases hs with rfl | rfl <;> omega
        refine sv_if (et_cmp (ec_neI (ed_name 4 rfl) ed_int)) (fun hk => ?_) fun hk => ?_
        · have hx0 : x ≠ 0 := by simpa using hk
          rw [if_neg hx0] at hi
          refine sv_set 1 (ed_add (ed_name 1 rfl) (ed_mul (ed_mul (ed_name 2 rfl) (ed_name 4 rfl) (.inl (by rcases hs with rfl | rfl <;> decide))) (ed_call ih (ea_cons (ed_map [("_law_row", 5)] (as := rest) (g := rwD) (fun r => rwD (r.take i ++ r.drop (i + 1))) sc_law_det.nd (by kernel_rfl) (iv_list (ED.is (ed_fromL (n := 1) (ed_name 0 rfl) ed_int) rfl)) (by omega) (fun r hrm => ⟨_, [5], gv_name 5 sc_law_det.nd, by decide, ED.is (ed_catL (ed_toL (n := i) (ed_name (d := rwD r) 5 rfl) (ed_name 3 rfl)) (ed_fromL (n := i + 1) (ed_name (d := rwD r) 5 rfl) (nat_cast (ed_add (ed_name 3 rfl) ed_int) rfl)) ?_) ?_⟩)) ea_nil) ⟨rest.map fun r => r.take i ++ r.drop (i + 1), ?_, by rw [List.length_map]; exact hrl, ?_, by omega, rfl⟩ (Nat.le_refl _)) (.inl (show -(2 ^ 64) < s * x ∧ s * x < 2 ^ 64 from ⟨by omega, by omega⟩)))) (sv_nil ?_) sc_law_det.nd
          · have := (hr r (List.mem_cons_of_mem _ hrm)).1
            simp
            omega
          · unfold rwD
            rw [List.map_append, List.map_take, List.map_drop]
          · rw [List.map_map]
            rfl
          · intro r2 hr2
            obtain ⟨r, hrm, rfl⟩ := List.mem_map.mp hr2
            obtain ⟨q1, q2⟩ := hr r (List.mem_cons_of_mem _ hrm)
            have hil : i < r0.length := (List.getElem?_eq_some_iff.mp hx).1
            refine ⟨by simp; omega, fun y hy => q2 y ?_⟩
            (rcases List.mem_append.mp hy with hy | hy)
            · exact List.mem_of_mem_take hy
            · exact List.mem_of_mem_drop hy
          · exact sv_set 2 (ed_sub ed_int (ed_name 2 rfl)) (sv_nil ⟨_, _, _, _, rfl, hi, by rcases hs with rfl | rfl <;> decide⟩) sc_law_det.nd
        · have hx0 : x = 0 := by simpa using hk
          rw [if_pos hx0] at hi
          exact sv_nil (sv_set 2 (ed_sub ed_int (ed_name 2 rfl)) (sv_nil ⟨_, _, _, _, rfl, hi, by rcases hs with rfl | rfl <;> decide⟩) sc_law_det.nd)
    · obtain ⟨f, s, t, u, rfl, hi, hs⟩ := h
      have e : (r0.mapIdx fun i x => ((i : Int), x)).length = r0.length := List.length_mapIdx
      rw [e, List.drop_length, detL] at hi
      exact sv_ret (ed_name 1 rfl) (by rw [hi])

end Gl

namespace Gl
open PySem PySem.Spec L2 PyProof.Rows
variable {g : Pg}

def dotF (r m : List Int) : Int := ((r.zip m).map fun z => z.1 * z.2).sum
def gram (rows : List (List Int)) : List (List Int) := rows.map fun r => rows.map fun m => dotF r m
theorem sum_bd (B : Int) (hB : 0 ≤ B) : ∀ l : List Int, (∀ x ∈ l, -B ≤ x ∧ x ≤ B) → -(B * l.length) ≤ l.sum ∧ l.sum ≤ B * l.length
  | [], _ => by simp
  | x :: l, h => by
    obtain ⟨h1, h2⟩ := h x List.mem_cons_self
    obtain ⟨h3, h4⟩ := sum_bd B hB l fun y hy => h y (List.mem_cons_of_mem _ hy)
    (rw [List.sum_cons, List.length_cons])
    have e : B * ((l.length + 1 : Nat) : Int) = B * l.length + B := by
      rw [Int.natCast_add, Int.mul_add]
      simp
    rw [e]
    omega
theorem mul_bd {x y : Int} (hx : -2 ≤ x ∧ x ≤ 2) (hy : -2 ≤ y ∧ y ≤ 2) : -4 ≤ x * y ∧ x * y ≤ 4 := by
  have hx2 : x = -2 ∨ x = -1 ∨ x = 0 ∨ x = 1 ∨ x = 2 := by omega
  rcases hx2 with rfl | rfl | rfl | rfl | rfl <;> omega
theorem dot_bd {r m : List Int} (hr : r.length ≤ 5) (h1 : ∀ x ∈ r, -2 ≤ x ∧ x ≤ 2) (h2 : ∀ x ∈ m, -2 ≤ x ∧ x ≤ 2) : -(2 ^ 63) ≤ dotF r m ∧ dotF r m ≤ 2 ^ 63 := by
  have h := sum_bd 4 (by decide) ((r.zip m).map fun z => z.1 * z.2) fun x hx => by
    obtain ⟨z, hz, rfl⟩ := List.mem_map.mp hx
    exact mul_bd (h1 _ (List.of_mem_zip hz).1) (h2 _ (List.of_mem_zip hz).2)
  rw [List.length_map, List.length_zip] at h
  unfold dotF
  have hl : min r.length m.length ≤ 5 := by omega
  omega
theorem sc_law_are_free : FnScope ["_law_rows", "_law_row", "_law_more", "_law_one", "_law_other"] ["_law_rows"] (defScope s_law_are_free) := ⟨rfl, rfl, rfl, by decide +kernel, rfl, by decide +kernel, by decide +kernel⟩
theorem fn_law_are_free (W : Wl g) : FnP g "_law_are_free" 11 (spP fun ds d => ∃ (n w : Nat) (rows : List (List Int)), ds = [.lst (rows.map rwD)] ∧ rows.length = n ∧ n ≤ 5 ∧ w ≤ 5 ∧ (∀ r ∈ rows, r.length = w ∧ ∀ x ∈ r, -2 ≤ x ∧ x ≤ 2) ∧ d = .bl (!decide (detF n (gram rows) = 0))) :=
  mkFn (st := s_law_are_free) W.d_law_are_free W.g_law_are_free sc_law_are_free (fun _ _ _ _ _ _ us hl => match us, hl with | [_], _ => rfl) (fun ds d h => by obtain ⟨n, w, rows, rfl, hn, h5, hw, hr, rfl⟩ := h <;> rfl) fun ds d h => by
    obtain ⟨n, w, rows, rfl, hn, h5, hw, hr, rfl⟩ := h
    refine sv_ret (ed_cmp (ec_neI (ed_call ((fn_law_det W n).mono (k := 10) (by omega)) (ea_cons (ED.is (ed_map [("_law_row", 1)] (as := rows) (g := rwD) (fun r => rwD (rows.map fun m => dotF r m)) sc_law_are_free.nd (by kernel_rfl) (iv_list (ed_name 0 rfl)) (by omega) (fun r hrm => ⟨_, [1], gv_name 1 sc_law_are_free.nd, by decide, ED.is (ed_map [("_law_more", 2)] (as := rows) (g := rwD) (fun m => .int (dotF r m)) sc_law_are_free.nd (by kernel_rfl) (iv_list (ed_name 0 rfl)) (by omega) (fun m hmm => ⟨_, [2], gv_name 2 sc_law_are_free.nd, by decide, ed_sumM (ed_map [("_law_one", 3), ("_law_other", 4)] (as := r.zip m) (g := dII) (fun z => .int (z.1 * z.2)) sc_law_are_free.nd (by kernel_rfl) (by rw [← zip_dII]; exact iv_zip (ed_name (d := rwD r) 1 rfl) (ed_name (d := rwD m) 2 rfl) (by simp [(hr r hrm).1, (hr m hmm).1]) W.f_zip) (by have := (hr r hrm).1; simp; omega) (fun z hz => ⟨_, [3, 4], gv_pair 3 4 sc_law_are_free.nd, by decide, ed_mul (ed_name 3 rfl) (ed_name 4 rfl) (.inl ?_)⟩)) W.f_sum⟩)) (by unfold rwD; rw [List.map_map]; rfl)⟩)) ?_) ea_nil) ⟨gram rows, rfl, by unfold gram; rw [List.length_map]; exact hn, ?_, h5, rfl⟩ (Nat.le_refl _)) ed_int)) rfl
    · have := (hr r hrm).2 _ (List.of_mem_zip hz).1
      omega
    · unfold gram
      rw [List.map_map]
      rfl
    · intro r2 hr2
      obtain ⟨r, hrm, rfl⟩ := List.mem_map.mp hr2
      refine ⟨by rw [List.length_map]; exact hn, fun x hx => ?_⟩
      obtain ⟨m, hmm, rfl⟩ := List.mem_map.mp hx
      exact dot_bd (by rw [(hr r hrm).1]; exact hw) (hr r hrm).2 (hr m hmm).2
def ringF : List Int → List (Int × Int) → Bool
  | _, [] => true
  | marks, t :: r => if marks.getD t.1.toNat 0 = marks.getD t.2.toNat 0 then false else ringF (marks.map fun m => if m = marks.getD t.2.toNat 0 then marks.getD t.1.toNat 0 else m) r
theorem atI_toNat {α : Type} {xs : List α} {i : Int} {x : α} (h0 : 0 ≤ i) (h : xs[i.toNat]? = some x) : atI xs i = some x := by
  have e := atI_nat h
  (rw [Int.toNat_of_nonneg h0] at e)
  exact e
theorem sc_law_no_ring : FnScope ["_law_ties", "_law_places", "_law_marks", "_law_near", "_law_far", "_law_one", "_law_other", "_law_mark"] ["_law_ties", "_law_places"] (defScope s_law_no_ring) := ⟨rfl, rfl, rfl, by decide +kernel, rfl, by decide +kernel, by decide +kernel⟩
theorem fn_law_no_ring (W : Wl g) : FnP g "_law_no_ring" 2 (spP fun ds d => ∃ ts : List (Int × Int), ds = [.lst (ts.map dII), .int 4] ∧ ts.length ≤ 100 ∧ (∀ t ∈ ts, (0 ≤ t.1 ∧ t.1 < 4) ∧ 0 ≤ t.2 ∧ t.2 < 4) ∧ d = .bl (ringF [0, 1, 2, 3] ts)) :=
  mkFn (st := s_law_no_ring) W.d_law_no_ring W.g_law_no_ring sc_law_no_ring (fun _ _ _ _ _ _ us hl => match us, hl with | [_, _], _ => rfl) (fun ds d h => by obtain ⟨ts, rfl, hz, ht, rfl⟩ := h <;> rfl) fun ds d h => by
    obtain ⟨ts, rfl, hz, ht, rfl⟩ := h
    refine sv_set 2 (ed_listR (n := 4) (ed_name 1 rfl) (by decide) W.f_list W.f_range) ?_ sc_law_no_ring.nd
    refine sv_for (as := ts) (g := dII) (fun i ρ => ∃ (marks : List Int) (a b c e : Option Dt), ρ = [some (.lst (ts.map dII)), some (.int 4), some (.lst (marks.map .int)), a, b, c, e, none] ∧ marks.length = 4 ∧ ringF marks (ts.drop i) = ringF [0, 1, 2, 3] ts) (iv_list (ed_name 0 rfl)) ⟨[0, 1, 2, 3], _, _, _, _, rfl, rfl, rfl⟩ (fun i t ρ' hx h => ?_) fun ρ' h => ?_
    · obtain ⟨marks, a, b, c, e, rfl, hl, hi⟩ := h
      rw [drop_at hx, ringF] at hi
      obtain ⟨⟨h1, h2⟩, h3, h4⟩ := ht t (List.mem_of_getElem? hx)
      refine ⟨_, [3, 4], gv_pair 3 4 sc_law_no_ring.nd, ?_⟩
      have get : ∀ {j : Int}, 0 ≤ j → j < 4 → atI (marks.map Dt.int) j = some (.int (marks.getD j.toNat 0)) := fun {j} q1 q2 => atI_toNat q1 (by
        have hj : j.toNat < marks.length := by omega
        rw [List.getElem?_map, List.getElem?_eq_getElem hj, List.getD_eq_getElem?_getD, List.getElem?_eq_getElem hj]
        rfl)
      refine sv_asg (js := [5, 6]) (ed_tup (ea_cons (ed_ixL (ed_name 2 rfl) (ed_name 3 rfl) (get h1 h2)) (ea_cons (ed_ixL (ed_name 2 rfl) (ed_name 4 rfl) (get h3 h4)) ea_nil)) (Nat.le_of_ble_eq_true rfl)) (gv_pair 5 6 sc_law_no_ring.nd) ?_
      refine sv_if (et_cmp (ec_eqI (ed_name 5 rfl) (ed_name 6 rfl))) (fun hk => ?_) fun hk => sv_nil ?_
      · rw [if_pos (by simpa using hk)] at hi
        exact sv_ret ed_bl (by rw [← hi])
      · rw [if_neg (by simpa using hk)] at hi
        refine sv_setLc (as := marks) (g := Dt.int) 2 (fun m o => o = some (.int (if m = marks.getD t.2.toNat 0 then marks.getD t.1.toNat 0 else m))) [("_law_mark", 7)] sc_law_no_ring.nd (by kernel_rfl) (iv_list (ed_name 2 rfl)) (by omega) (fun m hm => ?_) fun ys ot => sv_nil ?_
        · refine ⟨_, [7], true, gv_name 7 sc_law_no_ring.nd, by decide, ei_nil, fun _ => ?_, fun z => by cases z⟩
          refine EV.of (d := .int (if m = marks.getD t.2.toNat 0 then marks.getD t.1.toNat 0 else m)) (ed_if (et_cmp (ec_eqI (ed_name 7 rfl) (ed_name 6 rfl))) (fun hk => ?_) fun hk => ?_) rfl
          · exact ED.is (ed_name 5 rfl) (by rw [if_pos (by simpa using hk)])
          · exact ED.is (ed_name 7 rfl) (by rw [if_neg (by simpa using hk)])
        · refine ⟨marks.map fun m => if m = marks.getD t.2.toNat 0 then marks.getD t.1.toNat 0 else m, some (.int t.1), some (.int t.2), some (.int (marks.getD t.1.toNat 0)), some (.int (marks.getD t.2.toNat 0)), ?_, by rw [List.length_map]; exact hl, hi⟩
          rw [ot.map, List.map_map]
          rfl
    · obtain ⟨marks, a, b, c, e, rfl, hl, hi⟩ := h
      rw [List.drop_length, ringF] at hi
      exact sv_ret ed_bl (by rw [← hi])
end Gl

namespace Gl
open PySem PySem.Spec L2 PyProof.Rows
variable {g : Pg}

theorem se_lst {xs : List Expr} {p : Pos} {es : List Expr} {env : Env} : starEach (.List xs p :: es) env = (false, eval (.List xs p) env) :: starEach es env := rfl
theorem se_tup {xs : List Expr} {j : Nat} {p : Pos} {es : List Expr} {env : Env} : starEach (.Tuple xs j p :: es) env = (false, eval (.Tuple xs j p) env) :: starEach es env := rfl
theorem ev_tup {S : Sx} {q : Option Addr} {ρ : En} {es : List Expr} {j : Nat} {pos : Pos} {T : List Dt → Prop} (h : VA S q es ρ T) (hl : ∀ ds, T ds → ds.length ≤ 1000) : EV S q (.Tuple es j pos) ρ (fun d => ∃ ds, T ds ∧ d = .tup ds) := fun X hX P σ H w er Q z => by
  refine wE.of (pe_tup pa_w) ?_
  refine h X hX P σ H w er _ fun vs ds H1 g1 t1 r1 => ⟨?_, fun p n => ?_⟩
  · rw [r1.length]
    exact Nat.le_of_lt (small1000 (hl ds t1))
  · exact z _ (.tup ds) _ (g1.trans (.of (same_new n))) ⟨ds, t1, rfl⟩ ⟨p, vs, rfl, hid_upd (w.go g1).ok n, r1.same (same_new n).hid⟩
theorem all2_of {α β : Type} {f : β → Dt} {G : β → Prop} {as : List α} {ys : List Dt} (h : All2 (fun _ y => ∃ b, y = f b ∧ G b) as ys) : ∃ bs : List β, ys = bs.map f ∧ bs.length = as.length ∧ ∀ b ∈ bs, G b := by
  induction h with
  | nil => exact ⟨[], rfl, rfl, fun b h => by cases h⟩
  | cons r _ ih =>
    obtain ⟨b, rfl, hb⟩ := r
    obtain ⟨bs, rfl, h2, h3⟩ := ih
    refine ⟨b :: bs, rfl, by rw [List.length_cons, List.length_cons, h2], fun c hc => ?_⟩
    (rcases List.mem_cons.mp hc with rfl | hc)
    · exact hb
    · exact h3 c hc
theorem allG_rng : ∀ n, ∀ l ∈ allG n, ∀ x ∈ l, 0 ≤ x ∧ x < (n : Int)
  | 0, l, h, x, hx => by
    rw [allG, List.mem_singleton] at h
    rw [h] at hx
    cases hx
  | n + 1, l, h, x, hx => by
    rw [allG, List.mem_append, List.mem_map] at h
    rcases h with h | ⟨m, h, rfl⟩
    · have := allG_rng n l h x hx
      omega
    · (rcases List.mem_append.mp hx with hx | hx)
      · have := allG_rng n m h x hx
        omega
      · rw [List.mem_singleton.mp hx]
        omega
theorem every_rng {n : Nat} {l : List Int} (h : l ∈ every n) : ∀ x ∈ l, 0 ≤ x ∧ x < (n : Int) := allG_rng n l (byLen_mem.mp h)
theorem every_lot {n : Nat} {l : List Int} (h : l ∈ every n) : l.length ≤ n := allG_lot n l (byLen_mem.mp h)
/-! the four kinds of houses -/
def hU (size : Int) (l : List Int) : Bool := decide ((l.length : Int) ≤ size)
def cntK (kinds : List Int) (l : List Int) (k : Int) : Nat := (l.filter fun t => decide (kinds.getD t.toNat 0 = k)).length
def badK (kinds caps : List Int) (l : List Int) : Bool := !decide (((List.range 3).filter fun k => decide (caps.getD k 0 < (cntK kinds l (k : Int) : Int))).map (fun (k : Nat) => (k : Int)) = [])
def hK (n : Nat) (kinds caps : List Int) (l : List Int) : Bool := !decide (l ∈ (every n).filter (badK kinds caps))
def hV (wide : Int) (rows : List (List Int)) (l : List Int) : Bool := decide ((l.length : Int) ≤ wide) && !decide (detF l.length (gram (l.map fun t => rows.getD t.toNat [])) = 0)
def hT (ts : List (Int × Int)) (l : List Int) : Bool := ringF [0, 1, 2, 3] (l.map fun t => ts.getD t.toNat (0, 0))
def ties5 : List (Int × Int) := [(0, 1), (0, 2), (1, 2), (1, 3), (2, 3)]
inductive Fam (n : Nat) : (List Int → Bool) → Prop
  | u (size : Int) : 0 ≤ size → Fam n (hU size)
  | k (kinds caps : List Int) : kinds.length = n → (∀ k ∈ kinds, 0 ≤ k ∧ k < 3) → caps.length = 3 → (∀ c ∈ caps, 0 ≤ c) → Fam n (hK n kinds caps)
  | v (wide : Nat) (rows : List (List Int)) : 1 ≤ wide → wide ≤ 3 → rows.length = n → (∀ r ∈ rows, r.length = wide ∧ ∀ x ∈ r, -2 ≤ x ∧ x ≤ 2) → Fam n (hV wide rows)
  | t (ts : List (Int × Int)) : ts.length = n → (∀ t ∈ ts, t ∈ ties5) → Fam n (hT ts)
theorem getD_at {α : Type} {xs : List α} {d : α} {t : Int} {n : Nat} (hl : xs.length = n) (h0 : 0 ≤ t) (h1 : t < (n : Int)) : xs[t.toNat]? = some (xs.getD t.toNat d) := by
  have hj : t.toNat < xs.length := by omega
  rw [List.getD_eq_getElem?_getD, List.getElem?_eq_getElem hj]
  rfl
theorem ed_atZ {α : Type} {S : Sx} {ρ : En} {a b : Expr} {pos : Pos} {ls : List α} {f : α → Dt} {t : Int} {dflt : α} {n : Nat} (ha : ED S a ρ (.lst (ls.map f))) (hb : ED S b ρ (.int t)) (hl : ls.length = n) (h0 : 0 ≤ t) (h1 : t < (n : Int)) (hs : PlainIx b := by exact fun _ _ => rfl) : ED S (.Subscript a b pos) ρ (f (ls.getD t.toNat dflt)) :=
  ed_ixL ha hb (atI_toNat h0 (by rw [List.getElem?_map, getD_at (d := dflt) hl h0 h1]; rfl)) hs
def intsR (n : Nat) : Dt → Prop := fun d => ∃ ks : List Int, d = .lst (ks.map .int) ∧ ks.length = n ∧ ∀ k ∈ ks, 0 ≤ k ∧ k < 3
theorem draw3 : ∀ d, drawR 3 d → ∃ k : Int, d = .int k ∧ 0 ≤ k ∧ k < 3 := fun d hd => by
  obtain ⟨i, hi, rfl⟩ := hd
  exact ⟨i, rfl, by omega, hi⟩
theorem sc_law_house : FnScope ["_law_pot_here", "_law_many", "_law_way", "_law_every", "_law_size", "_law_kinds", "_law_caps", "_law_over", "_law_wide", "_law_rows", "_law_pairs", "_law_lot", "_law_thing", "_law_kind", "_law_k", "_law_t", "_law_at"] ["_law_pot_here", "_law_many"] (defScope s_law_house) := ⟨rfl, rfl, rfl, by decide +kernel, rfl, by decide +kernel, by decide +kernel⟩
theorem fn_law_house (W : Wl g) : FnP g "_law_house" 13 (spV fun ds R => ∃ n : Nat, ds = [.int n] ∧ 1 ≤ n ∧ n ≤ 5 ∧ R = (fun d => ∃ p, Fam n p ∧ d = lI ((every n).filter p))) :=
  mkFnV (st := s_law_house) W.d_law_house W.g_law_house sc_law_house (fun _ _ _ _ _ _ us hl => match us, hl with | [_, _], _ => rfl) (fun ds R h => by obtain ⟨n, rfl, h1, h5, rfl⟩ := h <;> rfl) fun p ds R h => by
    obtain ⟨n, rfl, h1, h5, rfl⟩ := h
    have hev := every_len (show n ≤ 7 by omega)
    have hnd := sc_law_house.nd
    refine sv_par (Ra := drawR 4) (Rb := fun z => z = lI (every n)) 2 3 (ev_draw W (N := []) (sc := defScope s_law_house) (k := 0) rfl (ed_name 0 rfl) ed_int (by decide) (by decide)) (by exact EV.of (ed_call (fn_law_all W) (ea_cons (ed_name 1 rfl) ea_nil) ⟨n, rfl, by omega, rfl⟩) rfl) (by decide) hnd fun d1 d2 hw h2 => ?_
    subst h2
    obtain ⟨way, hway, rfl⟩ := hw
    refine sv_if (et_cmp (ec_eqI (ed_name 2 rfl) ed_int)) (fun hk => ?_) fun hk0 => sv_nil ?_
    · refine sv_setV (R := drawR ((n : Int) + 1)) 4 (ev_draw W (N := []) (sc := defScope s_law_house) (k := 0) rfl (ed_name 0 rfl) (ed_add (ed_name 1 rfl) ed_int) (by omega) (by omega)) (fun d hd => ?_) hnd
      obtain ⟨size, hs, rfl⟩ := hd
      exact sv_ret (ed_flt [("_law_lot", 11)] (hU size) tI (as := every n) (g := tI) hnd (by kernel_rfl) (iv_list (ed_name 3 rfl)) (by omega) (fun l hl => ⟨_, [11], gv_name 11 hnd, by decide, et_cmp (ec_le (ed_lenI (ed_name 11 rfl) W.f_len) (ed_name 4 rfl)), fun _ => ed_name 11 rfl⟩)) ⟨_, .u size (by omega), rfl⟩
    refine sv_if (et_cmp (ec_eqI (ed_name 2 rfl) ed_int)) (fun hk => ?_) fun hk1 => sv_nil ?_
    · refine sv_asgV (R := fun d => ∃ ds, (∃ a b, ds = a :: b ∧ intsR n a ∧ ∃ c e, b = c :: e ∧ intsR 3 c ∧ e = []) ∧ d = .tup ds) (J := fun d ρ' => ∃ ks cs : List Int, d = .tup [.lst (ks.map .int), .lst (cs.map .int)] ∧ (ks.length = n ∧ ∀ k ∈ ks, 0 ≤ k ∧ k < 3) ∧ (cs.length = 3 ∧ ∀ k ∈ cs, 0 ≤ k ∧ k < 3) ∧ ρ' = [some (.adr p), some (.int n), some (.int way), some (lI (every n)), none, some (.lst (ks.map .int)), some (.lst (cs.map .int)), none, none, none, none, none, none, none, none, none, none]) (ev_tup (va_cons (R := intsR n) ?h1 (va_cons (R := intsR 3) ?h2 (va_of ea_nil rfl))) ?h3) ?h4 ?h5
      case h1 =>
        refine EV.mono (ev_map (fun _ y => ∃ k : Int, y = .int k ∧ 0 ≤ k ∧ k < 3) [("_law_thing", 12)] (as := List.range n) (g := fun i => .int (i : Int)) hnd (by kernel_rfl) (iv_rangeZ (ed_name 1 rfl) (by omega) (by omega) W.f_range) (by simp; omega) (fun i hi => ⟨_, [12], gv_name 12 hnd, by decide, EV.mono (ev_draw W (N := []) (sc := defScope s_law_house) (k := 0) rfl (ed_name 0 rfl) ed_int (by decide) (by decide)) draw3⟩)) fun d hd => ?_
        obtain ⟨ys, rfl, h⟩ := hd
        obtain ⟨bs, rfl, h2, h3⟩ := all2_of h
        exact ⟨bs, rfl, by rw [h2, List.length_range], h3⟩
      case h2 =>
        refine EV.mono (ev_map (fun _ y => ∃ k : Int, y = .int k ∧ 0 ≤ k ∧ k < 3) [("_law_kind", 13)] (as := List.range 3) (g := fun i => .int (i : Int)) hnd (by kernel_rfl) (iv_rangeZ ed_int (by decide) (by decide) W.f_range) (by decide) (fun i hi => ⟨_, [13], gv_name 13 hnd, by decide, EV.mono (ev_draw W (N := []) (sc := defScope s_law_house) (k := 0) rfl (ed_name 0 rfl) ed_int (by decide) (by decide)) draw3⟩)) fun d hd => ?_
        obtain ⟨ys, rfl, h⟩ := hd
        obtain ⟨bs, rfl, h2, h3⟩ := all2_of h
        exact ⟨bs, rfl, h2, h3⟩
      case h3 =>
        rintro ds ⟨a, b, rfl, _, c, e, rfl, _, rfl⟩
        exact Nat.le_of_ble_eq_true rfl
      case h4 =>
        rintro d ⟨ds, ⟨a, b, rfl, ⟨ks, rfl, q1, q2⟩, c, e, rfl, ⟨cs, rfl, q3, q4⟩, rfl⟩, rfl⟩
        exact ⟨[5, 6], _, gv_pair 5 6 hnd, ks, cs, rfl, ⟨q1, q2⟩, ⟨q3, q4⟩, rfl⟩
      case h5 =>
        rintro d ρ' _ ⟨ks, cs, rfl, ⟨q1, q2⟩, ⟨q3, q4⟩, rfl⟩
        have hlot : ∀ l ∈ every n, l.length ≤ 5 := fun l hl => Nat.le_trans (every_lot hl) h5
        refine sv_set 7 (ed_flt [("_law_lot", 11)] (badK ks cs) tI (as := every n) (g := tI) hnd (by kernel_rfl) (iv_list (ed_name 3 rfl)) (by omega) (fun l hl => ⟨_, [11], gv_name 11 hnd, by decide, et_cmp (ec_neI' (ED.is (ed_flt [("_law_k", 14)] (fun k => decide (cs.getD k 0 < (cntK ks l (k : Int) : Int))) (fun (k : Nat) => .int (k : Int)) (as := List.range 3) (g := fun k => .int (k : Int)) hnd (by kernel_rfl) (iv_rangeZ ed_int (by decide) (by decide) W.f_range) (by decide) (fun k hk => ⟨_, [14], gv_name 14 hnd, by decide, et_cmp (ec_gt (ED.is (ed_lenM (ed_flt [("_law_t", 15)] (fun t => decide (ks.getD t.toNat 0 = (k : Int))) Dt.int (as := l) (g := Dt.int) hnd (by kernel_rfl) (iv_tup (ed_name 11 rfl)) (by have := hlot l hl; omega) (fun t ht => ⟨_, [15], gv_name 15 hnd, by decide, et_cmp (ec_eqI (ed_atZ (dflt := 0) (ed_name 5 rfl) (ed_name 15 rfl) q1 (every_rng hl t ht).1 (every_rng hl t ht).2) (ed_name 14 rfl)), fun _ => ed_name 15 rfl⟩)) W.f_len) rfl) (ED.is (ed_atL (ls := cs) (f := Dt.int) (i := k) (m := cs.getD k 0) (ed_name 6 rfl) (ed_name 14 rfl) ?_) rfl)), fun _ => ed_name 14 rfl⟩)) ?_) (ed_lst (ds := ([] : List Int).map .int) ea_nil (Nat.le_of_ble_eq_true rfl))), fun _ => ed_name 11 rfl⟩)) ?_ hnd
        · have hk3 := List.mem_range.mp hk
          rw [List.getD_eq_getElem?_getD, List.getElem?_eq_getElem (by omega)]
          rfl
        · rw [List.map_map]
          rfl
        refine sv_ret (ed_flt [("_law_lot", 11)] (hK n ks cs) tI (as := every n) (g := tI) hnd (by kernel_rfl) (iv_list (ed_name 3 rfl)) (by omega) (fun l hl => ⟨_, [11], gv_name 11 hnd, by decide, et_cmp (ec_niT (ed_name 11 rfl) (ed_name 7 rfl)), fun _ => ed_name 11 rfl⟩)) ⟨_, .k ks cs q1 q2 q3 (fun c hc => (q4 c hc).1), rfl⟩
    have hlot : ∀ l ∈ every n, l.length ≤ 5 := fun l hl => Nat.le_trans (every_lot hl) h5
    refine sv_if (et_cmp (ec_eqI (ed_name 2 rfl) ed_int)) (fun hk => ?_) fun hk2 => sv_nil ?_
    · refine sv_setV (R := fun d => ∃ w : Nat, d = .int w ∧ 1 ≤ w ∧ w ≤ 3) 8 (ev_op (Ra := fun d => d = .int 1) (Rb := drawR 3) (fun X _ => op_add) (EV.of ed_int rfl) (ev_draw W (N := []) (sc := defScope s_law_house) (k := 0) rfl (ed_name 0 rfl) ed_int (by decide) (by decide)) fun da db ha hb => ?_) (fun d hd => ?_) hnd
      · obtain ⟨i, hi, rfl⟩ := hb
        subst ha
        exact ⟨.int (1 + i), ⟨1 + i, by rw [Int.natCast_add]; rfl, by omega, by omega⟩, rd_I0 (f := fun i j => .int (i + j)) fun _ _ _ => rfl⟩
      obtain ⟨wide, rfl, hw1, hw3⟩ := hd
      refine sv_setV (R := fun d => ∃ rows : List (List Int), d = .lst (rows.map rwD) ∧ rows.length = n ∧ ∀ r ∈ rows, r.length = wide ∧ ∀ x ∈ r, -2 ≤ x ∧ x ≤ 2) 9 ?h6 (fun d hd => ?_) hnd
      case h6 =>
        refine EV.mono (ev_map (fun _ y => ∃ r : List Int, y = rwD r ∧ r.length = wide ∧ ∀ x ∈ r, -2 ≤ x ∧ x ≤ 2) [("_law_thing", 12)] (as := List.range n) (g := fun i => .int (i : Int)) hnd (by kernel_rfl) (iv_rangeZ (ed_name 1 rfl) (by omega) (by omega) W.f_range) (by simp; omega) (fun i hi => ⟨_, [12], gv_name 12 hnd, by decide, EV.mono (ev_map (fun _ y => ∃ x : Int, y = .int x ∧ -2 ≤ x ∧ x ≤ 2) [("_law_at", 16)] (as := List.range wide) (g := fun i => .int (i : Int)) hnd (by kernel_rfl) (iv_rangeZ (ed_name 8 rfl) (by omega) (by omega) W.f_range) (by simp; omega) (fun j hj => ⟨_, [16], gv_name 16 hnd, by decide, EV.mono (ev_callV (R := fun d => d ∈ ([0, 0, 1, 1, -1, 2] : List Int).map Dt.int) (T := fun ds => ds = [.lst (([0, 0, 1, 1, -1, 2] : List Int).map .int)]) (fn_law_pick W) (va_pot (ed_name 0 rfl) (va_of (ea_cons (ED.is (ed_lst (ea_cons ed_int (ea_cons ed_int (ea_cons ed_int (ea_cons ed_int (ea_cons (ed_neg ed_int) (ea_cons ed_int ea_nil)))))) (Nat.le_of_ble_eq_true rfl)) (by kernel_rfl)) ea_nil) rfl)) fun ds hds => ⟨_, hds, by decide, by decide, rfl⟩) fun d hd => ?_⟩)) fun d hd => ?_⟩)) fun d hd => ?_
        · obtain ⟨x, hx, rfl⟩ := List.mem_map.mp hd
          refine ⟨x, rfl, ?_⟩
          (simp only [List.mem_cons, List.not_mem_nil, or_false] at hx)
          omega
        · obtain ⟨ys, rfl, h⟩ := hd
          obtain ⟨bs, rfl, h2, h3⟩ := all2_of h
          exact ⟨bs, rfl, by rw [h2, List.length_range], h3⟩
        · obtain ⟨ys, rfl, h⟩ := hd
          obtain ⟨bs, rfl, h2, h3⟩ := all2_of h
          exact ⟨bs, rfl, by rw [h2, List.length_range], h3⟩
      obtain ⟨rows, rfl, hr1, hr2⟩ := hd
      refine sv_ret (ed_flt [("_law_lot", 11)] (hV wide rows) tI (as := every n) (g := tI) hnd (by kernel_rfl) (iv_list (ed_name 3 rfl)) (by omega) (fun l hl => ⟨_, [11], gv_name 11 hnd, by decide, et_w (ew_and (et_cmp (ec_le (ed_lenI (ed_name 11 rfl) W.f_len) (ed_name 8 rfl))) fun hle => ew_and1 (et_val (ed_call (fn_law_are_free W) (ea_cons (ED.is (ed_map [("_law_thing", 12)] (as := l) (g := Dt.int) (fun t => rwD (rows.getD t.toNat [])) hnd (by kernel_rfl) (iv_tup (ed_name 11 rfl)) (by have := hlot l hl; omega) (fun t ht => ⟨_, [12], gv_name 12 hnd, by decide, ed_atZ (dflt := []) (ed_name 9 rfl) (ed_name 12 rfl) hr1 (every_rng hl t ht).1 (every_rng hl t ht).2⟩)) ?_) ea_nil) ⟨l.length, wide, l.map fun t => rows.getD t.toNat [], rfl, by rw [List.length_map], hlot l hl, by omega, ?_, rfl⟩))), fun _ => ed_name 11 rfl⟩)) ⟨_, .v wide rows hw1 hw3 hr1 hr2, rfl⟩
      · rw [List.map_map]
        rfl
      · intro r hr
        obtain ⟨t, ht, rfl⟩ := List.mem_map.mp hr
        exact hr2 _ (List.mem_of_getElem? (getD_at (d := []) hr1 (every_rng hl t ht).1 (every_rng hl t ht).2))
    refine sv_setV (R := fun d => ∃ ts : List (Int × Int), d = .lst (ts.map dII) ∧ ts.length = n ∧ ∀ t ∈ ts, t ∈ ties5) 10 ?h7 (fun d hd => ?_) hnd
    case h7 =>
      refine EV.mono (ev_map (fun _ y => ∃ t : Int × Int, y = dII t ∧ t ∈ ties5) [("_law_thing", 12)] (as := List.range n) (g := fun i => .int (i : Int)) hnd (by kernel_rfl) (iv_rangeZ (ed_name 1 rfl) (by omega) (by omega) W.f_range) (by simp; omega) (fun i hi => ⟨_, [12], gv_name 12 hnd, by decide, EV.mono (ev_callV (R := fun d => d ∈ ties5.map dII) (T := fun ds => ds = [.lst (ties5.map dII)]) (fn_law_pick W) (va_pot (ed_name 0 rfl) (va_of (ea_cons (hs := fun _ => se_lst) (ED.is (ed_lst (ea_cons (hs := fun _ => se_tup) (ed_tup (ea_cons ed_int (ea_cons ed_int ea_nil)) (Nat.le_of_ble_eq_true rfl)) (ea_cons (hs := fun _ => se_tup) (ed_tup (ea_cons ed_int (ea_cons ed_int ea_nil)) (Nat.le_of_ble_eq_true rfl)) (ea_cons (hs := fun _ => se_tup) (ed_tup (ea_cons ed_int (ea_cons ed_int ea_nil)) (Nat.le_of_ble_eq_true rfl)) (ea_cons (hs := fun _ => se_tup) (ed_tup (ea_cons ed_int (ea_cons ed_int ea_nil)) (Nat.le_of_ble_eq_true rfl)) (ea_cons (hs := fun _ => se_tup) (ed_tup (ea_cons ed_int (ea_cons ed_int ea_nil)) (Nat.le_of_ble_eq_true rfl)) ea_nil))))) (Nat.le_of_ble_eq_true rfl)) (by kernel_rfl)) ea_nil) rfl)) fun ds hds => ⟨_, hds, by decide, by decide, rfl⟩) fun d hd => ?_⟩)) fun d hd => ?_
      · obtain ⟨x, hx, rfl⟩ := List.mem_map.mp hd
        exact ⟨x, rfl, hx⟩
      · obtain ⟨ys, rfl, h⟩ := hd
        obtain ⟨bs, rfl, h2, h3⟩ := all2_of h
        exact ⟨bs, rfl, by rw [h2, List.length_range], h3⟩
    obtain ⟨ts, rfl, ht1, ht2⟩ := hd
    refine sv_ret (ed_flt [("_law_lot", 11)] (hT ts) tI (as := every n) (g := tI) hnd (by kernel_rfl) (iv_list (ed_name 3 rfl)) (by omega) (fun l hl => ⟨_, [11], gv_name 11 hnd, by decide, et_val (ed_call (fn_law_no_ring W) (ea_cons (ED.is (ed_map [("_law_thing", 12)] (as := l) (g := Dt.int) (fun t => dII (ts.getD t.toNat (0, 0))) hnd (by kernel_rfl) (iv_tup (ed_name 11 rfl)) (by have := hlot l hl; omega) (fun t ht => ⟨_, [12], gv_name 12 hnd, by decide, ed_atZ (dflt := (0, 0)) (ed_name 10 rfl) (ed_name 12 rfl) ht1 (every_rng hl t ht).1 (every_rng hl t ht).2⟩)) ?_) (ea_cons ed_int ea_nil)) ⟨l.map fun t => ts.getD t.toNat (0, 0), rfl, by have := hlot l hl; rw [List.length_map]; omega, ?_, rfl⟩), fun _ => ed_name 11 rfl⟩)) ⟨_, .t ts ht1 ht2, rfl⟩
    · rw [List.map_map]
      rfl
    · intro r hr
      obtain ⟨t, ht, rfl⟩ := List.mem_map.mp hr
      have h := ht2 _ (List.mem_of_getElem? (getD_at (d := (0, 0)) ht1 (every_rng hl t ht).1 (every_rng hl t ht).2))
      revert h
      generalize ts.getD t.toNat (0, 0) = z
      intro h
      have h9 : ∀ z ∈ ties5, (0 ≤ z.1 ∧ z.1 < 4) ∧ 0 ≤ z.2 ∧ z.2 < 4 := by decide
      exact h9 z h
end Gl

namespace Gl
open PySem PySem.Spec L2 PyProof.Rows
variable {g : Pg}
theorem sc_law_mixed : FnScope ["_law_pot_here", "_law_some", "_law_left", "_law_found", "_law_turn"] ["_law_pot_here", "_law_some"] (defScope s_law_mixed) := ⟨rfl, rfl, rfl, by decide +kernel, rfl, by decide +kernel, by decide +kernel⟩
def gMixed : List Dt → (Dt → Prop) → Prop := fun ds R => ∃ xs : List Dt, ds = [.lst xs] ∧ xs.length ≤ 1000 ∧ R = fun d => ∃ ys : List Dt, ys.Perm xs ∧ d = .lst ys
theorem RepL.erase {H : Hp} : ∀ {ds : List Dt} {vs : List V} (i : Nat), RepL H ds vs → RepL H (ds.eraseIdx i) (vs.eraseIdx i)
  | [], _, i, h => by
    rw [show _ = [] from h]
    exact rfl
  | d :: ds, _, 0, h => by
    obtain ⟨w, r, e1, a, t⟩ := h
    subst e1
    exact t
  | d :: ds, _, i + 1, h => by
    obtain ⟨w, r, e1, a, t⟩ := h
    subst e1
    exact ⟨w, r.eraseIdx i, rfl, a, RepL.erase i t⟩
theorem perm_pick {α : Type} {l : List α} {i : Nat} {x : α} (h : l[i]? = some x) : (x :: l.eraseIdx i).Perm l := by
  revert i
  induction l with
  | nil => intro i h; simp at h
  | cons y l ih =>
    intro i h
    cases i with
    | zero =>
      have e := Option.some.inj h
      subst e
      exact List.Perm.refl _
    | succ i =>
      rw [List.eraseIdx_cons_succ]
      exact (List.Perm.swap y x _).trans ((ih h).cons y)
theorem fn_law_mixed (W : Wl g) : FnP g "_law_mixed" 4 (spV gMixed) :=
  mkFnV (st := s_law_mixed) W.d_law_mixed W.g_law_mixed sc_law_mixed (fun _ _ _ _ _ _ us hl => match us, hl with | [_, _], _ => rfl) (fun ds R h => by obtain ⟨m, rfl, _⟩ := h; rfl) fun pt ds R h => by
    obtain ⟨xs, rfl, hx, rfl⟩ := h
    intro X hX P σ H w er D nx rt
    have hN : X.N = (["_law_pot_here", "_law_some", "_law_left", "_law_found", "_law_turn"] : List Str) := hX.N
    have hsc : X.env.scope = defScope s_law_mixed := hX.sc
    refine wSs.of (pss_cons (ps_par (i := 2) (j := 3) hX.calm (by rw [hN]; decide) (by rw [hN]; rfl) (by rw [hN]; rfl) (by decide) (by rw [hsc]; rfl) (by rw [hsc]; rfl) (pa_cons (pe_callTy call_list_of (hX.gl rfl) (by rw [hX.mg]; exact W.f_list) (by decide +kernel : bootBuiltins ("list" : Str) = some (.type "list")) (pa_cons pe_w pa_nil)) (pa_cons (pe_lst pa_nil) pa_nil)) (by have hh := hsc; revert hh; generalize X.env = env; intro he; cases env; subst he; rfl) rfl) pss_w) ?_
    refine (ed_name 1 rfl) X hX P σ H w.ok er _ fun v H1 s1 r1 => ?_
    obtain ⟨l0, ws, rfl, g0, rw0⟩ := rep_lst r1
    refine ⟨l0, ws, rfl, .inl (.inl (.inl g0)), fun A nA => ?_⟩
    refine ⟨Nat.zero_le _, fun B nB => ⟨.ref A, .ref B, rfl, ?_⟩⟩
    have hAB : B ≠ A := fun z => by
      rw [z, upd_same] at nB
      cases nB
    have sA : Same H1 (upd H1 A (.lst ws)) := same_new nA
    have sB : Same (upd H1 A (.lst ws)) (upd (upd H1 A (.lst ws)) B (.lst [])) := same_new nB
    generalize hHb : upd (upd H1 A (.lst ws)) B (.lst []) = Hb at sB
    have sall : Same H Hb := (s1.trans sA).trans sB
    have w1 : Wd P (some pt) H1 := w.go (.of s1)
    have wb : Wd P (some pt) Hb := w.go (.of sall)
    have hA : Hb A = some (.lst ws) := sB _ _ upd_same
    have hB : Hb B = some (.lst []) := by rw [← hHb, upd_same]
    have pA : P A = false := w1.ok.no nA
    have pB : P B = false := (w1.ok.same sA).no nB
    have hpt : P pt = true := (w.hid pt rfl).1
    have nApt : A ≠ pt := fun z => by rw [z, hpt] at pA; cases pA
    have nBpt : B ≠ pt := fun z => by rw [z, hpt] at pB; cases pB
    let P3 : Addr → Bool := also P B
    let P2 : Addr → Bool := also P3 A
    have e3 : hid P2 H1 = hid P H1 := by
      have h1 : H1 B = none := by
        rw [upd_ne hAB] at nB
        exact nB
      rw [show hid P2 H1 = hid P3 H1 from (also_wx nA).eq, show hid P3 H1 = hid P H1 from (also_wx h1).eq]
    have sh : Same (hid P2 H1) (hid P2 Hb) := (sA.trans sB).hid
    have rx0 : RepL (hid P2 Hb) xs ws := by
      rw [← e3] at rw0
      exact rw0.same sh
    have erb : ERep (hid P2 Hb) ((σ.set 2 (some (.ref A))).set 3 (some (.ref B))) [some (.adr pt), some (.lst xs), some (.adr A), some (.adr B), none] := by
      have e0 := er.same s1.hid
      rw [← e3] at e0
      exact ((e0.same sh).set 2 (d := .adr A) rfl).set 3 (d := .adr B) rfl
    have P3A : P3 A = false := also_no pA (Ne.symm hAB)
    have P2no : ∀ a, P2 a = false → a ≠ A ∧ a ≠ B ∧ a ≠ pt := fun a ha => by
      refine ⟨fun z => ?_, fun z => ?_, fun z => ?_⟩
      · rw [z, show P2 A = true from also_yes] at ha
        cases ha
      · rw [z] at ha
        have h1 : P3 B = true := also_yes
        have h2 : P2 B = true := by
          show (P3 B || B == A) = true
          rw [h1]
          rfl
        rw [h2] at ha
        cases ha
      · rw [z] at ha
        have h2 : P2 pt = true := by
          show ((P pt || pt == B) || pt == A) = true
          rw [hpt]
          rfl
        rw [h2] at ha
        cases ha
    let S0 : Sx := g.S ["_law_pot_here", "_law_some", "_law_left", "_law_found", "_law_turn"] (defScope s_law_mixed) 3
    have hX0 : S0.Has X.nox := hX.nox
    have hlen : ∀ {left : List Dt} {t : Option Dt} {p p2 pos : Pos}, ED S0 (.Call (.Name "len" p) [.Name "_law_left" p2] [] pos) [some (.adr pt), some (.lst xs), some (.lst left), some (.adr B), t] (.int left.length) := fun {_ _ _ _ _} => ed_lenL (ed_name 2 rfl) W.f_len
    refine wSs.of (pss_cons ps_w pss_w) ?_
    refine for_at hX (P := P2) (as := List.range xs.length) (g := fun i => .int (i : Int)) (fun H2 i σ' H' => (∀ a o, a ≠ A → a ≠ B → a ≠ pt → H2 a = some o → H' a = some o) ∧ Pot H' pt ∧ ∃ (left found : List Dt) (ls fs : List V) (t : Option Dt), H' A = some (.lst ls) ∧ H' B = some (.lst fs) ∧ RepL (hid P2 H') left ls ∧ RepL (hid P2 H') found fs ∧ (found ++ left).Perm xs ∧ left.length = xs.length - i ∧ ERep (hid P2 H') σ' [some (.adr pt), some (.lst xs), some (.adr A), some (.adr B), t]) ?hi ?h0 ?hk ?turn ?stop
    case hi =>
      intro R k
      have di : Di P3 A (.lst xs) Hb := ⟨_, hA, ws, rfl, rx0⟩
      refine wI.of (pi_range1 (hX0.gl rfl) (by rw [hX0.mg]; exact W.f_range) (pa_cons pe_w pa_nil)) ?_
      have pok3 : Pok P3 Hb := fun a e => by
        rcases Bool.or_eq_true_iff.mp e with e | e
        · exact wb.ok a e
        · exact ⟨_, by rw [beq_iff_eq.mp e]; exact hB, fun xs z => by cases z⟩
      refine hlen (left := xs) (t := none) X.nox hX0 P3 _ Hb pok3 (vis_erep (i := 2) P3A erb di rfl) _ fun u H2 s2 r2 => ?_
      have e2 : u = .int xs.length := r2
      subst e2
      have hl : ((List.range xs.length).map fun (i : Nat) => Dt.int (i : Int)).length = xs.length := by simp
      refine ⟨xs.length, rfl, by omega, by omega, k _ H2 s2 ⟨fun i H s hi => ?_, fun i H s hi => ?_, fun P' wx i H x H' s pk hi y => ?_⟩⟩
      · rw [hl] at hi
        exact hi
      · rw [hl] at hi
        exact hi
      · obtain ⟨rfl, rfl⟩ := y
        rw [hl] at hi
        exact ⟨Same.refl _, .int (i : Int), by simp [hi], by rw [Int.zero_add] <;> rfl⟩
    case h0 =>
      intro H2 s2
      exact ⟨fun a o _ _ _ e => e, (wb.go (.of s2)).hid pt rfl |>.2, xs, [], ws, [], none, s2 _ _ hA, s2 _ _ hB, rx0.same s2.hid, rfl, by simp, by omega, erb.same s2.hid⟩
    case hk =>
      intro H2 i σ' H' s2 iv
      obtain ⟨kp, pot, left, found, ls, fs, t, qA, qB, _, _, _, _, _⟩ := iv
      refine ⟨fun a o e => ?_, fun a e => ?_⟩
      · obtain ⟨h1, h2⟩ := hid_some e
        obtain ⟨n1, n2, n3⟩ := P2no a h1
        rw [hid_no h1]
        exact kp a o n1 n2 n3 h2
      · by_cases z1 : a = A
        · exact ⟨_, by rw [z1]; exact qA, fun xs z => by cases z⟩
        · by_cases z2 : a = B
          · exact ⟨_, by rw [z2]; exact qB, fun xs z => by cases z⟩
          · by_cases z3 : a = pt
            · obtain ⟨x, y, _, _, _, h4⟩ := pot
              exact ⟨_, by rw [z3]; exact h4, fun xs z => by cases z⟩
            · have h1 : P a = true := by
                have e2 : ((P a || a == B) || a == A) = true := e
                simpa [z1, z2] using e2
              obtain ⟨o, h2, h3⟩ := (wb.go (.of s2)).ok a h1
              exact ⟨o, kp a o z1 z2 z3 h2, h3⟩
    case turn =>
      intro H2 i a σ' H' x H3 s2 hai iv s3 rxx
      obtain ⟨kp, pot, left, found, ls, fs, t, qA, qB, rl, rf, pm, hlf, er'⟩ := iv
      have hi : i < xs.length ∧ a = i := by
        rw [List.getElem?_eq_some_iff] at hai
        obtain ⟨h1, h2⟩ := hai
        simp at h1 h2
        exact ⟨h1, h2.symm⟩
      obtain ⟨hi, rfl⟩ := hi
      have ok2 : ∀ {H4 : Hp}, Same H' H4 → Pok P2 H4 ∧ Pok P3 H4 := fun {H4} s4 => by
        have h2 : Pok P2 H4 := fun b e => by
          by_cases z1 : b = A
          · exact ⟨_, by rw [z1]; exact s4 _ _ qA, fun xs z => by cases z⟩
          · by_cases z2 : b = B
            · exact ⟨_, by rw [z2]; exact s4 _ _ qB, fun xs z => by cases z⟩
            · by_cases z3 : b = pt
              · obtain ⟨x, y, _, _, _, h4⟩ := pot
                exact ⟨_, by rw [z3]; exact s4 _ _ h4, fun xs z => by cases z⟩
              · have h1 : P b = true := by
                  have e2 : ((P b || b == B) || b == A) = true := e
                  simpa [z1, z2] using e2
                obtain ⟨o, h2, h3⟩ := (wb.go (.of s2)).ok b h1
                exact ⟨o, s4 _ _ (kp b o z1 z2 z3 h2), h3⟩
        refine ⟨h2, fun b e => h2 b ?_⟩
        show (P3 b || b == A) = true
        rw [e]
        rfl
      refine (gv_name (S := S0) (x := "_law_turn") 4 sc_law_mixed.nd) X.nox hX0 P2 σ' H3 x (ok2 s3).1 (er'.same s3.hid) rxx _ fun σ2 _ _ er2 => ?_
      have nmB : ∀ {t : Option Dt} {p : Pos}, ED S0 (.Name "_law_found" p) [some (.adr pt), some (.lst xs), some (.adr A), some (.adr B), t] (.adr B) := fun {_ _} => ed_name 3 rfl
      have nmA : ∀ {t : Option Dt} {p : Pos}, ED S0 (.Name "_law_left" p) [some (.adr pt), some (.lst xs), some (.adr A), some (.adr B), t] (.adr A) := fun {_ _} => ed_name 2 rfl
      refine wSs.of (pss_one (ps_expr (pe_bm PySem.F.plainAttrs_list PySem.F.slot_list_append PySem.F.type_list_append mt_append pe_w (pa_cons (pe_bm PySem.F.plainAttrs_list PySem.F.slot_list_pop PySem.F.type_list_pop mt_popAt pe_w (pa_cons pe_w pa_nil)) pa_nil)) rfl)) ?_
      refine nmB X.nox hX0 P2 σ2 H3 (ok2 s3).1 er2 _ fun u H4 s4 r4 => ?_
      have e4 : u = .ref B := r4
      subst e4
      have s34 := s3.trans s4
      refine ⟨.inl ⟨rfl, fs, .inl (.inl (s34 _ _ qB))⟩, ?_⟩
      refine nmA X.nox hX0 P2 σ2 H4 (ok2 s34).1 (er2.same s4.hid) _ fun u H5 s5 r5 => ?_
      have e5 : u = .ref A := r5
      subst e5
      have s35 := s34.trans s5
      refine ⟨.inl ⟨rfl, ls, .inl (.inl (s35 _ _ qA))⟩, ?_⟩
      have di : Di P3 A (.lst left) H5 := ⟨_, s35 _ _ qA, ls, rfl, rl.same s35.hid⟩
      have er5 := (er2.same s4.hid).same s5.hid
      have wd5 : Wd P3 (some pt) H5 := ⟨(ok2 s35).2, fun p e => by
        cases e
        obtain ⟨x, y, h1, h2, h3, h4⟩ := pot
        refine ⟨?_, x, y, h1, h2, h3, s35 _ _ h4⟩
        show (P pt || pt == B) = true
        rw [hpt]
        rfl⟩
      have hd : ∀ {p p2 p3 p4 p5 p6 : Pos} {t : Option Dt}, EV S0 (some pt) (.Call (.Name "_law_draw" p2) [.Name "_law_pot_here" p, .Call (.Name "len" p3) [.Name "_law_left" p4] [] p5] [] p6) [some (.adr pt), some (.lst xs), some (.lst left), some (.adr B), t] (drawR left.length) := fun {_ _ _ _ _ _ _} => ev_draw W (N := []) (sc := defScope s_law_mixed) (k := 0) rfl (ed_name 0 rfl) hlen (by omega) (by omega)
      refine hd (t := some (.int (a : Int))) X.nox hX0 P3 σ2 H5 wd5 (vis_erep (i := 2) P3A er5 di rfl) _ fun v d H6 g6 hdr r6 => ?_
      obtain ⟨j, hj, rfl⟩ := hdr
      have e6 : v = .int (j : Int) := r6
      subst e6
      have hjl : j < left.length := by omega
      have hjs : j < ls.length := by rw [rl.length]; exact hjl
      have A6 : H6 A = some (.lst ls) := g6.keep _ _ (fun z => nApt (Option.some.inj z)) (s35 _ _ qA)
      have B6 : H6 B = some (.lst fs) := g6.keep _ _ (fun z => nBpt (Option.some.inj z)) (s35 _ _ qB)
      have hix : seqIndex? (j : Int) ls.length = some j := by
        have h1 : ixN ls.length (j : Int) = some j := by
          unfold ixN
          rw [if_pos (by omega), if_pos (by omega), Int.toNat_natCast]
        exact (ixN_seq h1).1
      have hlz : left.length ≤ 1000 := by omega
      refine ⟨A, ls, (j : Int), j, ls[j], rfl, rfl, A6, by omega, by omega, hix, List.getElem?_eq_getElem hjs, ?_⟩
      have hfl : found.length + left.length = xs.length := by
        have := pm.length_eq
        rw [List.length_append] at this
        exact this
      refine ⟨B, fs, ls[j], rfl, rfl, by rw [upd_ne hAB]; exact B6, by rw [rf.length]; exact Nat.lt_of_le_of_lt (show found.length ≤ 1000 by omega) (by rw [sizeLine_eq]; omega), ?_⟩
      have s56 : Same (hid P2 H5) (hid P2 H6) := fun b o e => by
        obtain ⟨h1, h2⟩ := hid_some e
        rw [hid_no h1]
        exact g6.keep b o (fun z => (P2no b h1).2.2 (Option.some.inj z)) h2
      have s6 : Same (hid P2 H6) (hid P2 (upd (upd H6 A (.lst (ls.eraseIdx j))) B (.lst (fs ++ [ls[j]])))) := fun b o e => by
        obtain ⟨h1, h2⟩ := hid_some e
        obtain ⟨n1, n2, n3⟩ := P2no b h1
        rw [hid_no h1, upd_ne n2, upd_ne n1]
        exact h2
      have sAll : Same (hid P2 H') (hid P2 (upd (upd H6 A (.lst (ls.eraseIdx j))) B (.lst (fs ++ [ls[j]])))) := (s35.hid.trans s56).trans s6
      obtain ⟨dj, hdj, rdj⟩ := rl.get (List.getElem?_eq_getElem hjs)
      refine ⟨fun b o n1 n2 n3 e => ?_, ?_, left.eraseIdx j, found ++ [dj], _, _, some (.int (a : Int)), by rw [upd_ne (Ne.symm hAB), upd_same], upd_same, (rl.erase j).same sAll, (rf.append (.one rdj)).same sAll, ?_, ?_, ((er5.same s56).same s6)⟩
      · rw [upd_ne n2, upd_ne n1]
        exact g6.keep b o (fun z => n3 (Option.some.inj z)) (s35 _ _ (kp b o n1 n2 n3 e))
      · obtain ⟨x, y, h1, h2, h3, h4⟩ := g6.pot pt rfl (wd5.hid pt rfl).2
        exact ⟨x, y, h1, h2, h3, by rw [upd_ne (Ne.symm nBpt), upd_ne (Ne.symm nApt)]; exact h4⟩
      · rw [List.append_assoc]
        exact (List.Perm.append_left found (perm_pick hdj)).trans pm
      · rw [List.length_eraseIdx_of_lt hjl]
        omega
    case stop =>
      intro H2 σ' H' s2 iv
      rw [List.length_range] at iv
      obtain ⟨kp, pot, left, found, ls, fs, t, qA, qB, rl, rf, pm, hlf, er'⟩ := iv
      have e0 : left = [] := List.eq_nil_of_length_eq_zero (by omega)
      subst e0
      rw [List.append_nil] at pm
      have pok2 : Pok P2 H' := fun b e => by
        by_cases z1 : b = A
        · exact ⟨_, by rw [z1]; exact qA, fun xs z => by cases z⟩
        · by_cases z2 : b = B
          · exact ⟨_, by rw [z2]; exact qB, fun xs z => by cases z⟩
          · by_cases z3 : b = pt
            · obtain ⟨x, y, _, _, _, h4⟩ := pot
              exact ⟨_, by rw [z3]; exact h4, fun xs z => by cases z⟩
            · have h1 : P b = true := by
                have e2 : ((P b || b == B) || b == A) = true := e
                simpa [z1, z2] using e2
              obtain ⟨o, h2, h3⟩ := (wb.go (.of s2)).ok b h1
              exact ⟨o, kp b o z1 z2 z3 h2, h3⟩
      have nmB : ∀ {t : Option Dt} {p : Pos}, ED S0 (.Name "_law_found" p) [some (.adr pt), some (.lst xs), some (.adr A), some (.adr B), t] (.adr B) := fun {_ _} => ed_name 3 rfl
      refine wSs.of (pss_one (ps_ret pe_w)) ?_
      refine nmB X hX P2 σ' H' pok2 er' _ fun u H3 s3 r3 => ?_
      have e3 : u = .ref B := r3
      subst e3
      refine rt (.ref B) (.lst found) H3 ⟨fun b o hb e => ?_, fun p e _ => ?_⟩ ⟨B, fs, rfl, by rw [hid_no pB]; exact s3 _ _ qB, ?_⟩ ⟨found, pm, rfl⟩
      · have h1 := s2 _ _ (sall _ _ e)
        by_cases z1 : b = A
        · exfalso
          rw [z1] at e
          rw [s1 _ _ e] at nA
          cases nA
        · by_cases z2 : b = B
          · exfalso
            rw [z2] at e
            have h2 := sA _ _ (s1 _ _ e)
            rw [h2] at nB
            cases nB
          · exact s3 _ _ (kp b o z1 z2 (fun z => hb (by rw [z])) h1)
      · cases e
        obtain ⟨x, y, h1, h2, h3, h4⟩ := pot
        exact ⟨x, y, h1, h2, h3, s3 _ _ h4⟩
      · have le : Same (hid P2 H') (hid P H') := fun b o e => by
          obtain ⟨h1, h2⟩ := hid_some e
          have h3 : P b = false := by
            cases h4 : P b with
            | false => rfl
            | true =>
              have h5 : ((P b || b == B) || b == A) = false := h1
              rw [h4] at h5
              cases h5
          rw [hid_no h3]
          exact h2
        exact (rf.same le).same s3.hid
end Gl

namespace Gl
open PySem PySem.Spec L2 PyProof.Rows
variable {g : Pg}

theorem ite_y {α : Type} {b : Bool} {x : α} (h : b = true) : some x = if b = true then some x else none := by rw [if_pos h]
theorem ite_n {α : Type} {b : Bool} {x : α} (h : b = false) : none = if b = true then some x else none := by rw [if_neg (by rw [h]; exact Bool.false_ne_true)]
/-- exchange both ways -/
def XR (tops : List (List Int)) : Prop := ∀ near ∈ tops, ∀ far ∈ tops, ∀ one ∈ near, one ∉ far → ∃ other ∈ far, other ∉ near ∧ exF near one other ∈ tops ∧ exF far other one ∈ tops
theorem sc_law_exchange_right : FnScope ["_law_tops", "_law_near", "_law_far", "_law_one", "_law_some", "_law_thing", "_law_other"] ["_law_tops"] (defScope s_law_exchange_right) := ⟨rfl, rfl, rfl, by decide +kernel, rfl, by decide +kernel, by decide +kernel⟩
theorem fn_law_exchange_right (W : Wl g) : FnP g "_law_exchange_right" 4 (spP fun ds d => ∃ tops : List (List Int), ds = [lI tops] ∧ tops.length ≤ 1000 ∧ (∀ l ∈ tops, l.length ≤ 50) ∧ XR tops ∧ d = .bl true) :=
  mkFn (st := s_law_exchange_right) W.d_law_exchange_right W.g_law_exchange_right sc_law_exchange_right (fun _ _ _ _ _ _ us hl => match us, hl with | [_], _ => rfl) (fun ds d h => by obtain ⟨tops, rfl, hz, hl, xr, rfl⟩ := h <;> rfl) fun ds d h => by
    obtain ⟨tops, rfl, hz, hl, xr, rfl⟩ := h
    have hnd := sc_law_exchange_right.nd
    refine sv_for (as := tops) (g := tI) (fun i ρ => ∃ a b c e, ρ = [some (lI tops), a, b, c, e, none, none]) (iv_list (ed_name 0 rfl)) ⟨_, _, _, _, rfl⟩ (fun i near ρ' hx h => ?_) fun ρ' h => ?_
    · obtain ⟨a, b, c, e, rfl⟩ := h
      have hnear := List.mem_of_getElem? hx
      have hln := hl near hnear
      refine ⟨_, [1], gv_name 1 hnd, ?_⟩
      refine sv_for (as := tops) (g := tI) (fun i ρ => ∃ b c e, ρ = [some (lI tops), some (tI near), b, c, e, none, none]) (iv_list (ed_name 0 rfl)) ⟨_, _, _, rfl⟩ (fun i far ρ' hx h => ?_) fun ρ' h => ?_
      · obtain ⟨b, c, e, rfl⟩ := h
        have hfar := List.mem_of_getElem? hx
        have hlf := hl far hfar
        refine ⟨_, [2], gv_name 2 hnd, ?_⟩
        refine sv_for (as := near.filter fun t => !decide (t ∈ far)) (g := Dt.int) (fun i ρ => ∃ c e, ρ = [some (lI tops), some (tI near), some (tI far), c, e, none, none]) (iv_list (ed_flt [("_law_thing", 5)] (fun t => !decide (t ∈ far)) Dt.int (as := near) (g := Dt.int) hnd (by kernel_rfl) (iv_tup (ed_name 1 rfl)) (by omega) (fun t ht => ⟨_, [5], gv_name 5 hnd, by decide, et_cmp (ec_niI (ed_name 5 rfl) (ed_name 2 rfl) (.inl rfl)), fun _ => ed_name 5 rfl⟩))) ⟨_, _, rfl⟩ (fun i one ρ' hx h => ?_) fun ρ' h => ?_
        · obtain ⟨c, e, rfl⟩ := h
          obtain ⟨h1, h2⟩ := List.mem_filter.mp (List.mem_of_getElem? hx)
          have hone : one ∉ far := by simpa using h2
          obtain ⟨oth, q1, q2, q3, q4⟩ := xr near hnear far hfar one h1 hone
          refine ⟨_, [3], gv_name 3 hnd, ?_⟩
          refine sv_setLc (as := far) (g := Dt.int) 4 (fun o y => y = if (!decide (o ∈ near) && decide (exF near one o ∈ tops)) then some (.int o) else none) [("_law_other", 6)] hnd (by kernel_rfl) (iv_tup (ed_name 2 rfl)) (by omega) (fun o ho => ?_) fun ys ot => ?_
          · refine ⟨_, [6], (!decide (o ∈ near) && decide (exF near one o ∈ tops)), gv_name 6 hnd, by decide, ei_one (et_w (ew_and (et_cmp (ec_niI (ed_name 6 rfl) (ed_name 1 rfl) (.inl rfl))) fun _ => ew_and1 (et_cmp (ec_inT (ed_call (fn_law_exchanged W) (ea_cons (ed_name 1 rfl) (ea_cons (ed_name 3 rfl) (ea_cons (ed_name 6 rfl) ea_nil))) ⟨near, one, o, rfl, hln, rfl⟩) (ed_name 0 rfl))))), fun hk => EV.of (d := .int o) (ed_name 6 rfl) (ite_y hk), fun hk => ite_n hk⟩
          · rw [ot.flt]
            refine sv_if (k := false) (ET.is (et_cmp (ec_eqI' (ms := []) (ed_flt [("_law_other", 6)] (fun o => decide (exF far o one ∈ tops)) Dt.int (as := far.filter fun o => (!decide (o ∈ near) && decide (exF near one o ∈ tops))) (g := Dt.int) hnd (by kernel_rfl) (iv_list (ed_name 4 rfl)) (by have := List.length_filter_le (fun o => (!decide (o ∈ near) && decide (exF near one o ∈ tops))) far; omega) (fun o ho => ⟨_, [6], gv_name 6 hnd, by decide, et_cmp (ec_inT (ed_call (fn_law_exchanged W) (ea_cons (ed_name 2 rfl) (ea_cons (ed_name 6 rfl) (ea_cons (ed_name 3 rfl) ea_nil))) ⟨far, o, one, rfl, hlf, rfl⟩) (ed_name 0 rfl)), fun _ => ed_name 6 rfl⟩)) (ed_lst (ds := ([] : List Int).map .int) ea_nil (Nat.le_of_ble_eq_true rfl)))) ?_) (fun hk => by cases hk) fun _ => sv_nil (sv_nil ⟨_, _, rfl⟩)
            refine decide_eq_false fun z => ?_
            have h3 : oth ∈ (far.filter fun o => (!decide (o ∈ near) && decide (exF near one o ∈ tops))).filter fun o => decide (exF far o one ∈ tops) := List.mem_filter.mpr ⟨List.mem_filter.mpr ⟨q1, by simp [q2, q3]⟩, by simp [q4]⟩
            rw [z] at h3
            cases h3
        · obtain ⟨c, e, rfl⟩ := h
          exact sv_nil ⟨_, _, _, rfl⟩
      · obtain ⟨b, c, e, rfl⟩ := h
        exact sv_nil ⟨_, _, _, _, rfl⟩
    · obtain ⟨a, b, c, e, rfl⟩ := h
      exact sv_ret ed_bl rfl
end Gl

namespace Gl
open PySem PySem.Spec L2 PyProof.Rows
variable {g : Pg}

def iiLe (p q : Int × Int) : Bool := decide (p.1 < q.1 ∨ (p.1 = q.1 ∧ p.2 ≤ q.2))
def encII (z : Int × Int) : PyData := .tuple [.int z.1, .int z.2]
theorem le_encII : PySem.W.dataLe false encII = iiLe := PySem.W.dataLe_ii (fun z : Int × Int => z.1) fun z => z.2
theorem ed_sortII {S : Sx} {ρ : En} {a : Expr} {pos p : Pos} {bs : List (Int × Int)} (ha : ED S a ρ (.lst (bs.map dII))) (hl : bs.length ≤ 1000) (hm : S.mg "sorted" = none) (hg : S.sc.names.lookup ("sorted" : Str) = some .globalImplicit := by rfl) (hs : ∀ env : Env, starEach [a] env = (false, eval a env) :: starEach [] env := by intro _; rfl) :
    ED S (.Call (.Name "sorted" p) [a] [] pos) ρ (.lst ((bs.mergeSort iiLe).map dII)) := by
  rw [← le_encII]
  refine ed_sortG encII dII (fun K P H b v r => ?_) (fun a b => by unfold encII; simp [PySem.W.alike, PySem.W.alikeAll]) (.inl fun b _ => ⟨_, _, rfl⟩) (fun b => by unfold encII; simp [PyData.depth, PyData.depthAll]) ha hl hm hg hs
  obtain ⟨l, ws, rfl, g, r⟩ := rep_tup r
  obtain ⟨v1, v2, rfl, r1, r2⟩ := r.at2
  rw [show v1 = .int b.1 from r1, show v2 = .int b.2 from r2] at g
  exact .tup (.inl (.inl g)) (.cons (.int b.1) (.cons (.int b.2) .nil))
def wsum (ws : List Int) (l : List Int) : Int := (l.map fun t => ws.getD t.toNat 0).sum
def ordF (ws : List Int) (n : Nat) : List Int := (((List.range n).map fun (i : Nat) => (0 - ws.getD i 0, (i : Int))).mergeSort iiLe).map (·.2)
def grdF (lots : List (List Int)) : List Int → List Int → List Int
  | lot, [] => lot
  | lot, t :: r => grdF lots (if decide (srtI (lot ++ [t]) ∈ lots) then srtI (lot ++ [t]) else lot) r
/-- the greedy lot is a greatest one -/
def GR (n : Nat) (lots tops : List (List Int)) : Prop := ∀ ws : List Int, ws.length = n → (∀ w ∈ ws, -9 ≤ w ∧ w ≤ 9) → grdF lots [] (ordF ws n) ∈ tops ∧ ∀ top ∈ tops, wsum ws top ≤ wsum ws (grdF lots [] (ordF ws n))
theorem srtI_len (l : List Int) : (srtI l).length = l.length := (List.mergeSort_perm l _).length_eq
theorem ordF_mem {ws : List Int} {n : Nat} {t : Int} (h : t ∈ ordF ws n) : 0 ≤ t ∧ t < (n : Int) := by
  unfold ordF at h
  (obtain ⟨z, hz, rfl⟩ := List.mem_map.mp h)
  obtain ⟨i, hi, rfl⟩ := List.mem_map.mp (List.mem_mergeSort.mp hz)
  have := List.mem_range.mp hi
  exact ⟨by show (0 : Int) ≤ (i : Int); omega, by show (i : Int) < n; omega⟩
theorem sc_law_heavy_right : FnScope ["_law_pot_here", "_law_many", "_law_lots", "_law_tops", "_law_weights", "_law_lot", "_law_order", "_law_longer", "_law_most", "_law_thing", "_law_weight", "_law_top"] ["_law_pot_here", "_law_many", "_law_lots", "_law_tops"] (defScope s_law_heavy_right) := ⟨rfl, rfl, rfl, by decide +kernel, rfl, by decide +kernel, by decide +kernel⟩
theorem fn_law_heavy_right (W : Wl g) : FnP g "_law_heavy_right" 4 (spV fun ds R => ∃ (n : Nat) (lots tops : List (List Int)), ds = [.int n, lI lots, lI tops] ∧ n ≤ 7 ∧ lots.length ≤ 1000 ∧ tops.length ≤ 1000 ∧ (∀ l ∈ lots, l.length ≤ n) ∧ (∀ l ∈ tops, ∀ x ∈ l, 0 ≤ x ∧ x < (n : Int)) ∧ (∀ l ∈ tops, l.length ≤ n) ∧ GR n lots tops ∧ R = (fun d => d = .bl true)) :=
  mkFnV (st := s_law_heavy_right) W.d_law_heavy_right W.g_law_heavy_right sc_law_heavy_right (fun _ _ _ _ _ _ us hl => match us, hl with | [_, _, _, _], _ => rfl) (fun ds R h => by obtain ⟨n, lots, tops, rfl, hn, hz1, hz2, hll, htr, htl, gr, rfl⟩ := h <;> rfl) fun p ds R h => by
    obtain ⟨n, lots, tops, rfl, hn, hz1, hz2, hll, htr, htl, gr, rfl⟩ := h
    have hnd := sc_law_heavy_right.nd
    refine sv_setV (R := fun d => ∃ ws : List Int, d = .lst (ws.map .int) ∧ ws.length = n ∧ ∀ w ∈ ws, -9 ≤ w ∧ w ≤ 9) 4 ?h1 (fun d hd => ?_) hnd
    case h1 =>
      refine EV.mono (ev_map (fun _ y => ∃ w : Int, y = .int w ∧ -9 ≤ w ∧ w ≤ 9) [("_law_thing", 9)] (as := List.range n) (g := fun i => .int (i : Int)) hnd (by kernel_rfl) (iv_rangeZ (ed_name 1 rfl) (by omega) (by omega) W.f_range) (by simp; omega) (fun i hi => ⟨_, [9], gv_name 9 hnd, by decide, ev_op (Ra := drawR 19) (Rb := fun d => d = .int 9) (fun X _ => op_sub) (ev_draw W (N := []) (sc := defScope s_law_heavy_right) (k := 0) rfl (ed_name 0 rfl) ed_int (by decide) (by decide)) (EV.of ed_int rfl) fun da db ha hb => ?_⟩)) fun d hd => ?_
      · obtain ⟨j, hj, rfl⟩ := ha
        subst hb
        exact ⟨.int (j - 9), ⟨_, rfl, by omega, by omega⟩, rd_I0 (f := fun i j => .int (i - j)) fun _ _ _ => rfl⟩
      · obtain ⟨ys, rfl, h⟩ := hd
        obtain ⟨bs, rfl, h2, h3⟩ := all2_of h
        exact ⟨bs, rfl, by rw [h2, List.length_range], h3⟩
    obtain ⟨ws, rfl, hw1, hw2⟩ := hd
    obtain ⟨gr1, gr2⟩ := gr ws hw1 hw2
    refine sv_par (Ra := fun z => z = tI []) (Rb := fun z => z = .lst ((ordF ws n).map .int)) 5 6 (EV.of (ed_tup ea_nil (Nat.le_of_ble_eq_true rfl)) rfl) (EV.of (d := .lst ((ordF ws n).map .int)) (ED.is (ed_map [("_law_weight", 10), ("_law_thing", 9)] (as := ((List.range n).map fun (i : Nat) => (0 - ws.getD i 0, (i : Int))).mergeSort iiLe) (g := dII) (fun z => .int z.2) hnd (by kernel_rfl) (iv_list (ed_sortII (ED.is (ed_map [("_law_thing", 9)] (as := List.range n) (g := fun i => .int (i : Int)) (fun (i : Nat) => dII (0 - ws.getD i 0, (i : Int))) hnd (by kernel_rfl) (iv_rangeZ (ed_name 1 rfl) (by omega) (by omega) W.f_range) (by simp; omega) (fun i hi => ⟨_, [9], gv_name 9 hnd, by decide, ed_tup (ea_cons (ed_sub ed_int (ed_atL (ls := ws) (f := Dt.int) (i := i) (m := ws.getD i 0) (ed_name 4 rfl) (ed_name 9 rfl) ?_)) (ea_cons (ed_name 9 rfl) ea_nil)) (Nat.le_of_ble_eq_true rfl)⟩)) ?_) (by simp; omega) W.f_sorted)) (by simp; omega) (fun z hz => ⟨_, [10, 9], gv_pair 10 9 hnd, by decide, ed_name 9 rfl⟩)) ?_) rfl) (by decide) hnd fun d1 d2 e1 e2 => ?_
    · have := List.mem_range.mp hi
      rw [List.getD_eq_getElem?_getD, List.getElem?_eq_getElem (by omega)]
      rfl
    · rw [List.map_map]
      rfl
    · unfold ordF
      rw [List.map_map]
      rfl
    subst e1 e2
    have hol : (ordF ws n).length = n := by simp [ordF]
    refine sv_for (as := ordF ws n) (g := Dt.int) (fun i ρ => ∃ lot a b, ρ = [some (.adr p), some (.int n), some (lI lots), some (lI tops), some (.lst (ws.map .int)), some (tI lot), some (.lst ((ordF ws n).map .int)), a, none, b, none, none] ∧ lot.length ≤ i ∧ grdF lots lot ((ordF ws n).drop i) = grdF lots [] (ordF ws n)) (iv_list (ed_name 6 rfl)) ⟨[], _, _, rfl, Nat.le_refl _, rfl⟩ (fun i t ρ' hx h => ?_) fun ρ' h => ?_
    · obtain ⟨lot, a, b, rfl, hll2, hi⟩ := h
      rw [drop_at hx, grdF] at hi
      have hin : i < (ordF ws n).length := (List.getElem?_eq_some_iff.mp hx).1
      refine ⟨_, [9], gv_name 9 hnd, ?_⟩
      refine sv_set 7 (ed_tupleL (ed_srtT (ns := lot ++ [t]) (ED.is (ed_catT (ed_name (d := tI lot) 5 rfl) (ed_tup (ea_cons (ed_name 9 rfl) ea_nil) (Nat.le_of_ble_eq_true rfl)) (by simp; omega)) (by unfold tI; rw [List.map_append]; rfl)) (by simp; omega) W.f_sorted) W.f_tuple) ?_ hnd
      refine sv_set (d := tI (if decide (srtI (lot ++ [t]) ∈ lots) then srtI (lot ++ [t]) else lot)) 5 (ed_if (et_cmp (ec_inT (ns := srtI (lot ++ [t])) (ed_name 7 rfl) (ed_name 2 rfl))) (fun hk => ED.is (ed_name 7 rfl) ?_) fun hk => ED.is (ed_name 5 rfl) ?_) (sv_nil ⟨_, _, _, rfl, ?_, hi⟩) hnd
      · rw [if_pos hk]
        rfl
      · rw [if_neg (by rw [hk]; exact Bool.false_ne_true)]
      · split
        · rw [srtI_len, List.length_append]
          exact Nat.succ_le_succ hll2
        · exact Nat.le_succ_of_le hll2
    · obtain ⟨lot, a, b, rfl, hll2, hi⟩ := h
      rw [List.drop_length, grdF] at hi
      subst hi
      generalize grdF lots [] (ordF ws n) = lot at *
      have sm : ∀ {l : List Int} {x : Str} {ρ : En} {i j : Nat}, True := fun {_ _ _ _ _} => trivial
      have hll3 : ∀ x ∈ lot, 0 ≤ x ∧ x < (n : Int) := htr lot gr1
      refine sv_set (d := .int (wsum ws lot)) 8 (ed_maxL (ns := tops.map fun top => wsum ws top) (m := wsum ws lot) (ED.is (ed_map [("_law_top", 11)] (as := tops) (g := tI) (fun top => .int (wsum ws top)) hnd (by kernel_rfl) (iv_list (ed_name 3 rfl)) (by omega) (fun top htop => ⟨_, [11], gv_name 11 hnd, by decide, ed_sumM (ed_map [("_law_thing", 9)] (as := top) (g := Dt.int) (fun t => .int (ws.getD t.toNat 0)) hnd (by kernel_rfl) (iv_tup (ed_name 11 rfl)) (by have := htl top htop; omega) (fun t ht => ⟨_, [9], gv_name 9 hnd, by decide, ed_atZ (dflt := 0) (ed_name 4 rfl) (ed_name 9 rfl) hw1 (htr top htop t ht).1 (htr top htop t ht).2⟩)) W.f_sum⟩)) ?_) ?_ (fun k hk hmax => ?_) W.f_max) ?_ hnd
      · rw [List.map_map]
        rfl
      · rw [List.length_map]
        exact List.length_pos_of_mem gr1
      · obtain ⟨top, htop, rfl⟩ := List.mem_map.mp hk
        have h1 := gr2 top htop
        have h2 := hmax _ (List.mem_map.mpr ⟨lot, gr1, rfl⟩)
        omega
      · refine sv_ret (ed_and (ed_cmp (ec_inT (ns := lot) (ed_name 5 rfl) (ed_name 3 rfl))) fun _ => ed_one (ed_cmp (ec_eqI (ed_sumM (ed_map [("_law_thing", 9)] (as := lot) (g := Dt.int) (fun t => .int (ws.getD t.toNat 0)) hnd (by kernel_rfl) (iv_tup (ed_name 5 rfl)) (by have := htl lot gr1; omega) (fun t ht => ⟨_, [9], gv_name 9 hnd, by decide, ed_atZ (dflt := 0) (ed_name 4 rfl) (ed_name 9 rfl) hw1 (hll3 t ht).1 (hll3 t ht).2⟩)) W.f_sum) (ed_name 8 rfl)))) ?_
        show Dt.bl (decide (lot ∈ tops) && decide (wsum ws lot = wsum ws lot)) = .bl true
        rw [decide_eq_true gr1]
        simp
end Gl

namespace Gl
open PySem PySem.Spec L2 PyProof.Rows
variable {g : Pg}

structure FnKP (g : Pg) (x : Str) (k : Nat) (ks : List Str) (gV : List V → List V → List V) (sp : Sp) : Prop where
  ex : ∃ (f : Addr) (fd : FuncData) (ps : List Str) (gg : List Value → List Value → List Value), g.mg x = some (.ref f) ∧ PySem.W.keepIn g.K (.ref f) = true ∧ FnOk g.prog g.w g.K g.mg g.base CX0 k f fd ps sp ∧ KBinds g.K fd ps ks gg gV
theorem mkFnK {g : Pg} {x : Str} {st : Stmt} {N ps ks : List Str} {k : Nat} {G : List Dt → Dt → Prop} {gg : List Value → List Value → List Value} {gV : List V → List V → List V} (hf : ∃ fd, FunD g.K x x (defArgs st) (defBody st) (defScope st) [] [] (He.ga g.K x) fd) (hm : g.mg x = some (.ref (He.ga g.K x))) (sc : FnScope N ps (defScope st))
    (hb : ∀ (kV doc pm : Value) (an : Option Addr) (cdv ct : Value) (ws : List Value), (gg [] ws).length = ps.length → bindArgs (PySem.W.fnOf x x (defArgs st) (defBody st) (defScope st) .none kV doc pm an cdv ct) ⟨[], ks.zip ws⟩ = pure (ps.zip (gg [] ws)))
    (hg : ∀ us ws, us ≠ [] → (gg us ws).length ≠ ps.length) (hrel : ∀ {vs : List V} {us : List Value} {zs : List V} {ws : List Value}, Vals vs us → Vals zs ws → Vals (gV vs zs) (gg us ws))
    (len : ∀ ds d, G ds d → ds.length = ps.length) (body : ∀ ds d, G ds d → SV (g.S N (defScope st) k) none (defBody st) (startD N ds) (fun _ => d = .non) (fun z => z = d)) : FnKP g x (k + 1) ks gV (spP G) := by
  obtain ⟨fd, F⟩ := hf
  refine ⟨_, fd, ps, gg, hm, F.kp, F.ok sc (fun vs H Q E h => ?_) (fun cdv A outer s H vs Q E hr h => ?_), ⟨fun s us ws _ hl => ?_, hrel⟩⟩
  · obtain ⟨P, ds, d, _, r, hG, _⟩ := h
    rw [r.length, len ds d hG]
  · obtain ⟨P, ds, d, pk, r, hG, kq⟩ := h
    refine ⟨wSs _ (defBody st), pss_w, ?_⟩
    refine body ds d hG _ ?has P _ H ⟨pk, fun p z => by cases z⟩ r.start _ (fun σ' ρ' H' go _ e => ?_) fun v z H' go rp e => ?_
    case has => exact ⟨rfl, rfl, rfl, rfl, rfl, rfl, rfl, fun _ _ => rfl, hr, rfl⟩
    · rw [e] at kq
      exact kq .non H' go.none rfl
    · rw [show z = d from e] at rp
      exact kq v H' go.none rp
  · have hus : us = [] := Classical.byContradiction fun z => hg us ws z hl
    subst hus
    (obtain ⟨oc, od, dV, kV, doc, pm, an, cdv, ct, osl, rfl, lk, hcd, hD, hK⟩ := F.ex)
    (rcases hD with ⟨_, rfl⟩ | ⟨e, _⟩)
    · exact .of_eq (hb kV doc pm an cdv ct ws hl)
    · exact absurd rfl e
def swp {α : Type} (us zs : List α) : List α := match us, zs with
  | [], [a, b] => [b, a]
  | _, _ => []
theorem vals_swp {vs : List V} {us : List Value} {zs : List V} {ws : List Value} (h1 : Vals vs us) (h2 : Vals zs ws) : Vals (swp vs zs) (swp us ws) := by
  cases h1 with
  | cons r h1 => exact .nil
  | nil =>
    cases h2 with
    | nil => exact .nil
    | cons r1 h2 =>
      cases h2 with
      | nil => exact .nil
      | cons r2 h2 =>
        cases h2 with
        | nil => exact .cons r2 (.cons r1 .nil)
        | cons r3 h2 => exact .nil
def gGre : List Dt → Dt → Prop := fun ds d => ∃ (m : Int) (ls : List (List Int)), ds = [.int m, lI ls] ∧ Hs m ls ∧ d = lI (greF ls)
theorem fnK_greatest (W : Wl g) : FnKP g "greatest" 9 ["lots", "many"] swp (spP gGre) :=
  mkFnK (st := s_greatest) (gg := swp) W.d_greatest W.g_greatest sc_greatest (fun _ _ _ _ _ _ ws hl => by
    match ws, hl with
    | [a, b], _ => rfl
    | [], h => cases h
    | [a], h => cases h
    | a :: b :: c :: r, h => cases h) (fun us ws hu hl => by
    cases us with
    | nil => exact hu rfl
    | cons u us => cases hl) vals_swp (fun ds d h => by obtain ⟨m, ls, rfl, _⟩ := h; rfl) fun ds d h => by
    obtain ⟨m, ls, rfl, hs, rfl⟩ := h
    exact sv_ret (ed_call (fn_longest_of W) (ea_cons (ed_call (fn_told_house W) (ea_cons (ed_name 0 rfl) (ea_cons (ed_name 1 rfl) ea_nil)) ⟨m, ls, rfl, hs, rfl⟩) ea_nil) ⟨_, rfl, hs.here.len, rfl⟩) rfl
section
variable {S : Sx} {ρ : En} {d da db : Dt} {a b : Expr} {pos p p1 p2 : Pos} {x k1 k2 : Str} {k : Nat}
/-- f(k1=a, k2=b) for f(k2, k1) -/
theorem ed_callKw {G : List Dt → Dt → Prop} (F : FnKP S.pg x k [k1, k2] swp (spP G)) (ha : ED S a ρ da) (hb : ED S b ρ db) (hG : G [db, da] d) (hk : k ≤ S.k := by exact Nat.le_of_ble_eq_true rfl) (hg : S.sc.names.lookup x = some .globalImplicit := by rfl) (hd : (x == ("__debug__" : Str)) = false := by decide)
    (hall : ∀ env : Env, (backToKw pos (keywordEach [⟨some k1, a, p1⟩, ⟨some k2, b, p2⟩] env)).all (·.1.isSome) = true := by intro _; rfl) (hks : ∀ env : Env, (backToKw pos (keywordEach [⟨some k1, a, p1⟩, ⟨some k2, b, p2⟩] env)).filterMap (·.1) = [k1, k2] := by intro _; rfl)
    (hpl : ∀ env : Env, ((backTo pos (starEach [] env)).any (·.1) || (backToKw pos (keywordEach [⟨some k1, a, p1⟩, ⟨some k2, b, p2⟩] env)).any (·.1.isNone)) = false := by intro _; rfl) : ED S (.Call (.Name x p) [] [⟨some k1, a, p1⟩, ⟨some k2, b, p2⟩] pos) ρ d := fun X hX P σ H w er Q z => by
  obtain ⟨fa, fd, ps, gg, h1, h2, h3, h4⟩ := F.ex
  have h4' : KBinds X.K fd ps [k1, k2] gg swp := by rw [hX.K]; exact h4
  have pe : PE X (.Call (.Name x p) [] [⟨some k1, a, p1⟩, ⟨some k2, b, p2⟩] pos) (fun σ H Q => tCons (wE X a) (tCons (wE X b) tNil) σ H fun zs H2 => spP G (swp [] zs) H2 Q fun _ _ _ => False) := by
    (refine ⟨fun pins s σ H Q I h => ?_⟩)
    refine wpAny_Call_Name_kw (ld_glob I (hX.gl hg) (by rw [hX.mg]; exact h1) ?_ hd)
    refine PySem.W.callWith_KW0 (h₀ := X.base) I.ok.mod.kin (by rw [hX.K]; exact h2) (hall X.env) (thn ((pk_cons pe_w (pk_cons pe_w pk_nil)).run pos pins s σ H _ I h) fun ws s2 ⟨zs, H2, I2, rz, q2⟩ => ⟨I2.kIn, ?_⟩) (hpl X.env)
    rw [hks X.env]
    exact run_fnk (us := []) (vs := []) (hX.fnok h3) (hX.room.mono hk) h4' pass0 I2 .nil rz q2
  refine wE.of pe ?_
  refine ha X hX P σ H w er _ fun v H1 s1 r1 => ?_
  refine hb X hX P σ H1 (w.same s1) (er.same s1.hid) _ fun u H2 s2 r2 => ?_
  exact ⟨P, [db, da], d, (w.same s1).same s2, .cons r2 (.one (r1.same s2.hid)), hG, fun v H' s r => z v H' ((s1.trans s2).trans s) r⟩
end

end Gl

namespace Gl
open PySem PySem.Spec L2 PyProof.Rows
variable {g : Pg}

def onesF (t : Int) (tops : List (List Int)) : List (List Int) := tops.filter fun l => decide (t ∈ l)
def othF (t : Int) (tops : List (List Int)) : List (List Int) := tops.filter fun l => !decide (t ∈ l)
def lesF (t : Int) (l : List Int) : List Int := l.filter fun x => !decide (x = t)
def dueF (t : Int) (tops : List (List Int)) : List (List Int) := sortR ((onesF t tops).map (lesF t))
def aloF (n : Nat) (t : Int) : List Int := (List.range n).map fun (i : Nat) => if decide ((i : Int) = t) then 1 else 0
def kyF (n : Nat) (ls : List (List Int)) : List (List Int) := sortR (ls.map (cntF n))
structure Both (n : Nat) (t : Int) (hav oth tops : List (List Int)) : Prop where
  alo : Ents n [aloF n t] 1
  mne : kyF n hav ≠ []
  mlen : ∀ m ∈ kyF n hav, m.length = n
  mnd : ((kyF n hav).map (addF (aloF n t))).Nodup
  mz : (kyF n hav).length ≤ 300
  mdeg : (aloF n t).sum + ((kyF n hav).headD []).sum ≤ 8
  pne : sortR ((kyF n hav).map (addF (aloF n t))) ≠ []
  pnd : (sortR ((kyF n hav).map (addF (aloF n t))) ++ kyF n oth).Nodup
  pk : ∀ k ∈ sortR ((kyF n hav).map (addF (aloF n t))) ++ kyF n oth, k ≠ []
  pz : (sortR ((kyF n hav).map (addF (aloF n t))) ++ kyF n oth).length ≤ 300
  ph : ((sortR ((kyF n hav).map (addF (aloF n t)))).map hashK).Nodup
  pdeg : ((sortR ((kyF n hav).map (addF (aloF n t)))).headD []).sum = ((kyF n oth).headD []).sum
  elen : (sortR (sortR ((kyF n hav).map (addF (aloF n t))) ++ kyF n oth)).length = (kyF n tops).length
  emem : ∀ k ∈ sortR (sortR ((kyF n hav).map (addF (aloF n t))) ++ kyF n oth), k ∈ kyF n tops
structure TR (n : Nat) (lots tops : List (List Int)) (t : Int) : Prop where
  hs : Hs n lots
  gre : greF lots = tops
  ne : tops ≠ []
  small : ∀ l ∈ tops, l.length ≤ 50
  z : tops.length ≤ 1000
  ent : ∃ deg, Ents n (tops.map (cntF n)) deg
  one : onesF t tops ≠ [] → [t] ∈ byLen lots ∧ Hs n (havF t lots) ∧ greF (havF t lots) = dueF t tops ∧ ((∀ l ∈ (onesF t tops).map (lesF t), l ≠ []) ∨ ((onesF t tops).map (lesF t)).length ≤ 1) ∧ (∃ deg, Ents n ((greF (havF t lots)).map (cntF n)) deg) ∧ greF (havF t lots) ≠ []
  oth : othF t tops ≠ [] → Hs n (witF t lots) ∧ greF (witF t lots) = othF t tops ∧ ∃ deg, Ents n ((othF t tops).map (cntF n)) deg
  all : onesF t tops = [] → othF t tops = tops
  both : onesF t tops ≠ [] → othF t tops ≠ [] → Both n t (greF (havF t lots)) (othF t tops) tops
theorem ec_neL' {S : Sx} {ρ : En} {a b : Expr} {ls : List (List Int)} (ha : ED S a ρ (lI ls)) (hb : ED S b ρ (lI [])) : EC S .NotEq a b ρ (.bl (!decide (ls = []))) := ec_neL ha hb
theorem sc_law_thing_right : FnScope ["_law_pot_here", "_law_many", "_law_lots", "_law_tops", "_law_thing", "_law_ones", "_law_others", "_law_due", "_law_letters", "_law_whole", "_law_alone", "_law_lot", "_law_other"] ["_law_pot_here", "_law_many", "_law_lots", "_law_tops"] (defScope s_law_thing_right) := ⟨rfl, rfl, rfl, by decide +kernel, rfl, by decide +kernel, by decide +kernel⟩
theorem fn_law_thing_right (W : Wl g) : FnP g "_law_thing_right" 15 (spV fun ds R => ∃ (n : Nat) (lots tops : List (List Int)), ds = [.int n, lI lots, lI tops] ∧ 1 ≤ n ∧ n ≤ 7 ∧ (∀ t : Int, 0 ≤ t → t < n → TR n lots tops t) ∧ R = (fun d => d = .bl true)) :=
  mkFnV (st := s_law_thing_right) W.d_law_thing_right W.g_law_thing_right sc_law_thing_right (fun _ _ _ _ _ _ us hl => match us, hl with | [_, _, _, _], _ => rfl) (fun ds R h => by obtain ⟨n, lots, tops, rfl, h1, h7, tr, rfl⟩ := h <;> rfl) fun p ds R h => by
    obtain ⟨n, lots, tops, rfl, h1, h7, tr, rfl⟩ := h
    have hnd := sc_law_thing_right.nd
    refine sv_setV (R := drawR n) 4 (ev_draw W (N := []) (sc := defScope s_law_thing_right) (k := 0) rfl (ed_name 0 rfl) (ed_name 1 rfl) (by omega) (by omega)) (fun d hd => ?_) hnd
    obtain ⟨t', ht', rfl⟩ := hd
    generalize ht : (t' : Int) = t at ht'
    have t0 : 0 ≤ t := by omega
    have T := tr t t0 ht'
    have hz := T.z
    have ho1 : (onesF t tops).length ≤ 1000 := Nat.le_trans (List.length_filter_le _ _) hz
    have ho2 : (othF t tops).length ≤ 1000 := Nat.le_trans (List.length_filter_le _ _) hz
    refine sv_par (Ra := fun z => z = lI (onesF t tops)) (Rb := fun z => z = lI (othF t tops)) 5 6 (EV.of (ed_flt [("_law_lot", 11)] (fun l => decide (t ∈ l)) tI (as := tops) (g := tI) hnd (by kernel_rfl) (iv_list (ed_name 3 rfl)) (by omega) (fun l hl => ⟨_, [11], gv_name 11 hnd, by decide, et_cmp (ec_inI (ed_name 4 rfl) (ed_name 11 rfl) (.inl rfl)), fun _ => ed_name 11 rfl⟩)) rfl) (EV.of (ed_flt [("_law_lot", 11)] (fun l => !decide (t ∈ l)) tI (as := tops) (g := tI) hnd (by kernel_rfl) (iv_list (ed_name 3 rfl)) (by omega) (fun l hl => ⟨_, [11], gv_name 11 hnd, by decide, et_cmp (ec_niI (ed_name 4 rfl) (ed_name 11 rfl) (.inl rfl)), fun _ => ed_name 11 rfl⟩)) rfl) (by decide) hnd fun d1 d2 e1 e2 => ?_
    subst e1 e2
    obtain ⟨deg, en⟩ := T.ent
    have hwhole : ∀ {p p2 p3 p4 : Pos} {ρ : En}, ρ[1]? = some (some (.int (n : Int))) → ρ[2]? = some (some (lI lots)) → ED (g.S ["_law_pot_here", "_law_many", "_law_lots", "_law_tops", "_law_thing", "_law_ones", "_law_others", "_law_due", "_law_letters", "_law_whole", "_law_alone", "_law_lot", "_law_other"] (defScope s_law_thing_right) 14) (.Call (.Name "greatest_blend" p) [.Name "_law_many" p2, .Name "_law_lots" p3] [] p4) ρ (bl g.K n (kyF n tops)) := fun q1 q2 => ED.is (ed_call (fn_greatest_blend W) (ea_cons (ed_name 1 q1) (ea_cons (ed_name 2 q2) ea_nil)) ⟨n, lots, deg, rfl, T.hs, by rw [T.gre]; exact T.ne, by rw [T.gre]; exact en, rfl⟩) (by rw [T.gre]; rfl)
    have hwit : othF t tops ≠ [] → ∀ {p p2 p3 p4 p5 p6 p7 p8 : Pos} {ρ : En}, ρ[1]? = some (some (.int (n : Int))) → ρ[2]? = some (some (lI lots)) → ρ[4]? = some (some (.int t)) → ED (g.S ["_law_pot_here", "_law_many", "_law_lots", "_law_tops", "_law_thing", "_law_ones", "_law_others", "_law_due", "_law_letters", "_law_whole", "_law_alone", "_law_lot", "_law_other"] (defScope s_law_thing_right) 14) (.Call (.Name "greatest_blend" p) [.Name "_law_many" p2, .Call (.Name "without" p3) [.Name "_law_many" p4, .Name "_law_lots" p5, .Name "_law_thing" p6] [] p7] [] p8) ρ (bl g.K n (kyF n (othF t tops))) := fun ho {_ _ _ _ _ _ _ _ _} q1 q2 q3 => by
      obtain ⟨o1, o2, deg2, en2⟩ := T.oth ho
      exact ED.is (ed_call (fn_greatest_blend W) (ea_cons (ed_name 1 q1) (ea_cons (ed_call (fn_without W) (ea_cons (ed_name 1 q1) (ea_cons (ed_name 2 q2) (ea_cons (ed_name 4 q3) ea_nil))) ⟨n, t, lots, rfl, T.hs, t0, ht', rfl⟩) ea_nil)) ⟨n, witF t lots, deg2, rfl, o1, by rw [o2]; exact ho, by rw [o2]; exact en2, rfl⟩) (by rw [o2]; rfl)
    have rest : ∀ u : Option Dt, SV (g.S ["_law_pot_here", "_law_many", "_law_lots", "_law_tops", "_law_thing", "_law_ones", "_law_others", "_law_due", "_law_letters", "_law_whole", "_law_alone", "_law_lot", "_law_other"] (defScope s_law_thing_right) 14) (some p) ((defBody s_law_thing_right).drop 3) [some (.adr p), some (.int n), some (lI lots), some (lI tops), some (.int t), some (lI (onesF t tops)), some (lI (othF t tops)), u, none, none, none, none, none] (fun _ => Dt.non = .bl true) (fun d => d = .bl true) := fun u => by
      refine sv_skip (ET.is (et_w (ew_and (l := false) (et_cmp (ec_neL (ms := []) (ed_name 6 rfl) (ed_lst ea_nil (Nat.le_of_ble_eq_true rfl)))) fun hk => ew_and1 ?_)) (by simp)) ?_
      · have ho : othF t tops ≠ [] := by simpa using hk
        obtain ⟨o1, o2, deg2, en2⟩ := T.oth ho
        refine ET.is (et_cmp (ec_neL (ls := othF t tops) (ED.is (ed_callKw (fnK_greatest W) (ed_call (fn_without W) (ea_cons (ed_name 1 rfl) (ea_cons (ed_name 2 rfl) (ea_cons (ed_name 4 rfl) ea_nil))) ⟨n, t, lots, rfl, T.hs, t0, ht', rfl⟩) (ed_name 1 rfl) ⟨n, witF t lots, rfl, o1, rfl⟩) (by rw [o2])) (ed_name 6 rfl))) (by simp)
      refine sv_set 8 (ED.is (ed_toS (y := "abcdefg") (n := n) ed_str (Nat.le_of_ble_eq_true rfl) (ed_name 1 rfl)) (congrArg Dt.str (cut_lts h7))) ?_ hnd
      refine sv_set 9 (hwhole rfl rfl) ?_ hnd
      refine sv_if (et_w (ew_or (et_cmp (ec_eqL (ms := []) (ed_name 5 rfl) (ed_lst ea_nil (Nat.le_of_ble_eq_true rfl)))) fun _ => ew_or1 (et_cmp (ec_eqL (ms := []) (ed_name 6 rfl) (ed_lst ea_nil (Nat.le_of_ble_eq_true rfl)))))) (fun hk => ?_) fun hk => sv_nil ?_
      · refine sv_ret (d := .bl true) (ed_if (et_cmp (ec_eqL (ms := []) (ed_name 5 rfl) (ed_lst ea_nil (Nat.le_of_ble_eq_true rfl)))) (fun h => ?_) fun _ => ed_bl) rfl
        have h5 : onesF t tops = [] := by simpa using h
        have h6 := T.all h5
        refine ed_cmp (ec_eqC (mt_Blend_eq W) (ed_name (d := bl g.K n (kyF n tops)) 9 rfl) (hwit (by rw [h6]; exact T.ne) rfl rfl rfl) ⟨n, _, _, rfl, by rw [h6], by rw [h6]; exact fun k hk => hk, rfl⟩)
      · have h56 : onesF t tops ≠ [] ∧ othF t tops ≠ [] := by simpa using hk
        obtain ⟨q1, q2, q3, q4, ⟨deg3, en3⟩, q6⟩ := T.one h56.1
        have B := T.both h56.1 h56.2
        refine sv_set 10 (ed_make (mk_Blend W) (ea_cons (ed_name 8 rfl) (ea_cons (ED.is (ed_lst (ea_cons (ed_tup (ea_cons (ed_tupM (ed_map [("_law_other", 12)] (as := List.range n) (g := fun i => .int (i : Int)) (fun (i : Nat) => .int (if decide ((i : Int) = t) then 1 else 0)) hnd (by kernel_rfl) (iv_rangeZ (ed_name 1 rfl) (by omega) (by omega) W.f_range) (by simp; omega) (fun i hi => ⟨_, [12], gv_name 12 hnd, by decide, ed_intB (ed_cmp (ec_eqI (ed_name 12 rfl) (ed_name 4 rfl))) W.f_int⟩)) W.f_tuple) (ea_cons ed_int ea_nil)) (Nat.le_of_ble_eq_true rfl)) ea_nil) (Nat.le_of_ble_eq_true rfl)) rfl) ea_nil)) ⟨n, [aloF n t], h1, h7, (fun z => by cases z), Nat.le_of_ble_eq_true rfl, rfl, .inr ⟨[aloF n t], 1, rfl, B.alo, ?_⟩⟩) ?_ hnd
        · unfold sortR
          rw [List.mergeSort_singleton]
        refine sv_ret (d := .bl true) (ed_cmp (ec_eqC (mt_Blend_eq W) (ed_own (fs := blF g.K n (sortR ((kyF n (greF (havF t lots))).map (addF (aloF n t))))) (gs := blF g.K n (kyF n (othF t tops))) (hs := blF g.K n (sortR (sortR ((kyF n (greF (havF t lots))).map (addF (aloF n t))) ++ kyF n (othF t tops)))) (mt_Blend_add W) rfl W.says.x.first (ed_own (fs := blF g.K n [aloF n t]) (gs := blF g.K n (kyF n (greF (havF t lots)))) (hs := blF g.K n (sortR ((kyF n (greF (havF t lots))).map (addF (aloF n t))))) (mt_Blend_mul W) rfl W.says.x.first (ed_name 10 rfl) ?_ ⟨n, aloF n t, _, rfl, h1, h7, B.mne, ?_, B.mlen, B.mnd, B.mz, B.mdeg, rfl⟩) (hwit h56.2 rfl rfl rfl) ⟨n, _, _, rfl, h1, h7, B.pne, B.pnd, B.pk, B.pz, B.ph, B.pdeg, rfl⟩) (ed_name (d := bl g.K n (kyF n tops)) 9 rfl) ⟨n, _, _, rfl, B.elen, B.emem, rfl⟩)) rfl
        · exact ed_call (fn_greatest_blend W) (ea_cons (ed_name 1 rfl) (ea_cons (ed_call (fn_having W) (ea_cons (ed_name 1 rfl) (ea_cons (ed_name 2 rfl) (ea_cons (ed_name 4 rfl) ea_nil))) ⟨n, t, lots, rfl, T.hs, t0, ht', q1, rfl⟩) ea_nil)) ⟨n, havF t lots, deg3, rfl, q2, q6, en3, rfl⟩
        · simp [aloF]
    refine sv_if (et_cmp (ec_neL (ms := []) (ed_name 5 rfl) (ed_lst ea_nil (Nat.le_of_ble_eq_true rfl)))) (fun hk => ?_) fun hk => sv_nil (rest _)
    have h5 : onesF t tops ≠ [] := by simpa using hk
    obtain ⟨q1, q2, q3, q4, ⟨deg3, en3⟩, q6⟩ := T.one h5
    have hsmall : ∀ l ∈ onesF t tops, l.length ≤ 50 := fun l hl => T.small l (List.mem_filter.mp hl).1
    refine sv_set 7 (ed_sortT (ls := (onesF t tops).map (lesF t)) (ED.is (ed_map [("_law_lot", 11)] (as := onesF t tops) (g := tI) (fun l => tI (lesF t l)) hnd (by kernel_rfl) (iv_list (ed_name 5 rfl)) (by omega) (fun l hl => ⟨_, [11], gv_name 11 hnd, by decide, ed_tupleL (ed_flt [("_law_other", 12)] (fun x => !decide (x = t)) Dt.int (as := l) (g := Dt.int) hnd (by kernel_rfl) (iv_tup (ed_name 11 rfl)) (by have := hsmall l hl; omega) (fun x hx => ⟨_, [12], gv_name 12 hnd, by decide, et_cmp (ec_neI (ed_name 12 rfl) (ed_name 4 rfl)), fun _ => ed_name 12 rfl⟩)) W.f_tuple⟩)) ?_) q4 (by rw [List.length_map]; exact ho1) W.f_sorted) ?_ hnd
    · unfold lI
      rw [List.map_map]
      rfl
    refine sv_skip (ET.is (et_cmp (ec_neL (ms := dueF t tops) (ED.is (ed_call (fn_greatest W) (ea_cons (ed_name 1 rfl) (ea_cons (ed_call (fn_having W) (ea_cons (ed_name 1 rfl) (ea_cons (ed_name 2 rfl) (ea_cons (ed_name 4 rfl) ea_nil))) ⟨n, t, lots, rfl, T.hs, t0, ht', q1, rfl⟩) ea_nil)) ⟨n, havF t lots, rfl, q2, rfl⟩) (by rw [q3])) (ed_name 7 rfl))) (by simp)) (sv_nil (rest _))
end Gl

namespace Gl
/-! ### sets of things: functions into Bool, over a list of things -/
abbrev Fs := Int → Bool
def insF (f : Fs) (t : Int) : Fs := fun x => decide (x = t) || f x
def delF (f : Fs) (t : Int) : Fs := fun x => f x && !decide (x = t)
theorem insF_t (f : Fs) (t : Int) : insF f t t = true := by simp [insF]
theorem insF_m {f : Fs} {t x : Int} (h : f x = true) : insF f t x = true := by simp [insF, h]
theorem insF_o {f : Fs} {t x : Int} (h : insF f t x = true) : x = t ∨ f x = true := by simpa [insF] using h
theorem delF_o {f : Fs} {t x : Int} (h : delF f t x = true) : f x = true ∧ x ≠ t := by simpa [delF] using h
theorem delF_i {f : Fs} {t x : Int} (h : f x = true) (n : x ≠ t) : delF f t x = true := by simp [delF, h, n]
section
variable {U : List Int} {f g : Fs} {t : Int}
theorem cnt_ne : ∀ {U : List Int}, t ∉ U → (U.countP (insF f t) = U.countP f) ∧ (U.countP (delF f t) = U.countP f)
  | [], _ => ⟨rfl, rfl⟩
  | x :: U, h => by
    have hx : x ≠ t := fun z => h (z ▸ List.mem_cons_self)
    obtain ⟨h1, h2⟩ := cnt_ne (U := U) fun z => h (List.mem_cons_of_mem _ z)
    simp only [List.countP_cons, h1, h2]
    simp [insF, delF, hx]
theorem cnt_ins : ∀ {U : List Int}, U.Nodup → t ∈ U → f t = false → U.countP (insF f t) = U.countP f + 1
  | x :: U, hn, hm, hf => by
    (have hn' := List.nodup_cons.mp hn)
    by_cases e : x = t
    · subst e
      rw [List.countP_cons, List.countP_cons, (cnt_ne hn'.1).1]
      simp [insF, hf]
    · have hm' : t ∈ U := by
        rcases List.mem_cons.mp hm with h | h
        · exact absurd h.symm e
        · exact h
      rw [List.countP_cons, List.countP_cons, cnt_ins hn'.2 hm' hf]
      simp only [insF, e, decide_false, Bool.false_or]
      omega
theorem cnt_del : ∀ {U : List Int}, U.Nodup → t ∈ U → f t = true → U.countP (delF f t) + 1 = U.countP f
  | x :: U, hn, hm, hf => by
    (have hn' := List.nodup_cons.mp hn)
    by_cases e : x = t
    · subst e
      rw [List.countP_cons, List.countP_cons, (cnt_ne hn'.1).2]
      simp [delF, hf]
    · have hm' : t ∈ U := by
        rcases List.mem_cons.mp hm with h | h
        · exact absurd h.symm e
        · exact h
      rw [List.countP_cons, List.countP_cons, ← cnt_del hn'.2 hm' hf]
      simp only [delF, e, decide_false, Bool.not_false, Bool.and_true]
      omega
theorem cnt_le : ∀ {U : List Int}, (∀ t ∈ U, f t = true → g t = true) → U.countP f ≤ U.countP g
  | [], _ => Nat.le_refl _
  | x :: U, h => by
    have h1 := cnt_le (U := U) fun t ht => h t (List.mem_cons_of_mem _ ht)
    have h2 := h x List.mem_cons_self
    simp only [List.countP_cons]
    cases e : f x with
    | false =>
      (simp only [Bool.false_eq_true, if_false])
      omega
    | true =>
      rw [h2 e]
      omega
theorem cnt_ex (h : U.countP f < U.countP g) : ∃ t ∈ U, g t = true ∧ f t = false := by
  refine Classical.byContradiction fun no => ?_
  have := cnt_le (U := U) (f := g) (g := f) fun t ht hg => by
    cases e : f t with
    | true => rfl
    | false => exact absurd ⟨t, ht, hg, e⟩ no
  omega
theorem cnt_same : ∀ {U : List Int}, (∀ t ∈ U, f t = true → g t = true) → U.countP g ≤ U.countP f → ∀ t ∈ U, g t = true → f t = true
  | [], _, _, t, ht, _ => nomatch ht
  | x :: U, h, hc, t, ht, hg => by
    have h0 : ∀ t ∈ U, f t = true → g t = true := fun t ht => h t (List.mem_cons_of_mem _ ht)
    have h1 := cnt_le h0
    have h2 := h x List.mem_cons_self
    simp only [List.countP_cons] at hc
    cases e : f x with
    | false =>
      cases e2 : g x with
      | true =>
        rw [e, e2] at hc
        simp only [Bool.false_eq_true, if_false, if_true] at hc
        omega
      | false =>
        rw [e, e2] at hc
        rcases List.mem_cons.mp ht with rfl | h3
        · rw [e2] at hg
          cases hg
        · exact cnt_same h0 (by simpa using hc) t h3 hg
    | true =>
      rw [e, h2 e] at hc
      rcases List.mem_cons.mp ht with rfl | h3
      · exact e
      · exact cnt_same h0 (by omega) t h3 hg
theorem cnt_cut (f h : Fs) : ∀ U : List Int, U.countP f = U.countP (fun x => f x && h x) + U.countP (fun x => f x && !h x)
  | [] => rfl
  | x :: U => by
    simp only [List.countP_cons]
    rw [cnt_cut f h U]
    cases f x <;> cases h x <;> simp <;> omega
theorem cnt_not (f : Fs) : ∀ U : List Int, U.countP f + U.countP (fun x => !f x) = U.length
  | [] => rfl
  | x :: U => by
    have := cnt_not f U
    simp only [List.countP_cons, List.length_cons]
    cases f x <;> simp <;> omega
theorem cnt_eq {f g : Fs} {U : List Int} (h : ∀ t ∈ U, f t = g t) : U.countP f = U.countP g :=
  Nat.le_antisymm (cnt_le fun t ht e => by rw [← h t ht, e]) (cnt_le fun t ht e => by rw [h t ht, e])
end
/-- a house, told by sets -/
structure Mat (U : List Int) (P : Fs → Prop) : Prop where
  emp : P (fun _ => false)
  her : ∀ f g, P g → (∀ t ∈ U, f t = true → g t = true) → P f
  exc : ∀ f g, P f → P g → U.countP f < U.countP g → ∃ t ∈ U, f t = false ∧ g t = true ∧ P (insF f t)
theorem Mat.extend {U : List Int} {P : Fs → Prop} (M : Mat U P) (hU : U.Nodup) : ∀ (k : Nat) (f g : Fs), P f → P g → U.countP f + k = U.countP g → ∃ h, P h ∧ U.countP h = U.countP g ∧ (∀ t ∈ U, f t = true → h t = true) ∧ (∀ t ∈ U, h t = true → f t = true ∨ g t = true)
  | 0, f, g, pf, _, hk => ⟨f, pf, hk, fun _ _ h => h, fun _ _ h => .inl h⟩
  | k + 1, f, g, pf, pg, hk => by
    obtain ⟨t, ht, h1, h2, h3⟩ := M.exc f g pf pg (by omega)
    obtain ⟨h, p, c, s1, s2⟩ := M.extend hU k (insF f t) g h3 pg (by rw [cnt_ins hU ht h1]; omega)
    refine ⟨h, p, c, fun x hx hf => s1 x hx (insF_m hf), fun x hx hh => ?_⟩
    rcases s2 x hx hh with h4 | h4
    · rcases insF_o h4 with rfl | h5
      · exact .inr h2
      · exact .inl h5
    · exact .inr h4
theorem bool_f {b : Bool} (h : ¬ b = true) : b = false := by simpa using h
open Classical in
theorem Mat.sym {U : List Int} {P : Fs → Prop} (M : Mat U P) (hU : U.Nodup) {r : Nat} (hr : ∀ f, P f → U.countP f ≤ r) {a b : Fs} (pa : P a) (pb : P b) (ca : U.countP a = r) (cb : U.countP b = r) {x : Int} (hx : x ∈ U) (ax : a x = true) (bx : b x = false) :
    ∃ y ∈ U, b y = true ∧ a y = false ∧ P (insF (delF a x) y) ∧ P (insF (delF b y) x) := by
  have hrd : ∃ D : Fs, ∀ f, D f = true ↔ b f = true ∧ P (insF (delF b f) x) := ⟨fun f => b f && decide (P (insF (delF b f) x)), fun f => by simp⟩
  obtain ⟨D, hD⟩ := hrd
  have pD : P D := M.her _ _ pb fun t _ h => ((hD t).mp h).1
  have Dx : D x = false := bool_f fun h => by rw [((hD x).mp h).1] at bx; cases bx
  have ci := cnt_del hU hx ax
  have pI : P (delF a x) := M.her _ _ pa fun t _ h => (delF_o h).1
  have c1 : ¬ P (insF D x) := fun pz => by
    have q1 := cnt_ins hU hx Dx
    have q2 := hr _ pz
    obtain ⟨h, ph, ch, s1, s2⟩ := M.extend hU (r - U.countP (insF D x)) _ b pz pb (by omega)
    have hxx : h x = true := s1 x hx (insF_t _ _)
    have hlt : U.countP h < U.countP (insF b x) := by rw [cnt_ins hU hx bx]; omega
    obtain ⟨f, hf, k1, k2⟩ := cnt_ex hlt
    have fx : f ≠ x := fun z => by rw [z, hxx] at k2; cases k2
    have bf : b f = true := by
      rcases insF_o k1 with k | k
      · exact absurd k fx
      · exact k
    have cz : U.countP (insF (delF b f) x) = r := by
      have := cnt_del hU hf bf
      rw [cnt_ins hU hx (bool_f fun z => by rw [(delF_o z).1] at bx; cases bx)]
      omega
    have sub : ∀ t ∈ U, h t = true → insF (delF b f) x t = true := fun t ht hh => by
      have tf : t ≠ f := fun z => by rw [z, k2] at hh; cases hh
      rcases s2 t ht hh with k | k
      · rcases insF_o k with rfl | k3
        · exact insF_t _ _
        · exact insF_m (delF_i ((hD t).mp k3).1 tf)
      · exact insF_m (delF_i k tf)
    have pz2 : P (insF (delF b f) x) := M.her _ _ ph (cnt_same sub (by omega))
    have : h f = true := s1 f hf (insF_m ((hD f).mpr ⟨bf, pz2⟩))
    rw [k2] at this
    cases this
  have give : ∀ y ∈ U, D y = true → delF a x y = false → P (insF (delF a x) y) → ∃ y ∈ U, b y = true ∧ a y = false ∧ P (insF (delF a x) y) ∧ P (insF (delF b y) x) := fun y hy dy iy py => by
    obtain ⟨k1, k2⟩ := (hD y).mp dy
    refine ⟨y, hy, k1, bool_f fun z => ?_, py, k2⟩
    rw [delF_i z (fun e => by rw [e, bx] at k1; cases k1)] at iy
    cases iy
  refine Classical.byContradiction fun no => ?_
  have none' : ∀ y ∈ U, D y = true → delF a x y = false → ¬ P (insF (delF a x) y) := fun y hy h1 h2 h3 => no (give y hy h1 h2 h3)
  by_cases hc : U.countP (delF a x) < U.countP D
  · obtain ⟨y, hy, k1, k2, k3⟩ := M.exc _ _ pI pD hc
    exact none' y hy k2 k1 k3
  · obtain ⟨h, ph, ch, s1, s2⟩ := M.extend hU (U.countP (delF a x) - U.countP D) _ _ pD pI (by omega)
    obtain ⟨z, hz, k1, k2, k3⟩ := M.exc h a ph pa (by omega)
    by_cases e : z = x
    · subst e
      refine c1 (M.her _ _ k3 fun t ht k => ?_)
      rcases insF_o k with rfl | k4
      · exact insF_t _ _
      · exact insF_m (s1 t ht k4)
    · have Iz := delF_i k2 e
      obtain ⟨y, hy, l1, l2, l3⟩ := M.exc _ _ pI k3 (by rw [cnt_ins hU hz k1]; omega)
      rcases insF_o l2 with rfl | l4
      · rw [Iz] at l1
        cases l1
      · rcases s2 y hy l4 with l5 | l5
        · exact none' y hy l5 l1 l3
        · rw [l5] at l1
          cases l1
theorem ins_sub {U : List Int} {f g : Fs} {t : Int} (s : ∀ x ∈ U, f x = true → g x = true) : ∀ x ∈ U, insF f t x = true → insF g t x = true := fun x hx k => by
  rcases insF_o k with rfl | k
  · exact insF_t _ _
  · exact insF_m (s x hx k)
/-! ### what comes of a house -/
theorem Mat.wit {U : List Int} {P : Fs → Prop} (M : Mat U P) {t : Int} (ht : t ∈ U) : Mat U fun f => f t = false ∧ P f where
  emp := ⟨rfl, M.emp⟩
  her f g h s := ⟨bool_f fun z => (by have := s t ht z; rw [h.1] at this; cases this), M.her f g h.2 s⟩
  exc f g hf hg hc := by
    obtain ⟨x, hx, k1, k2, k3⟩ := M.exc f g hf.2 hg.2 hc
    refine ⟨x, hx, k1, k2, bool_f fun z => ?_, k3⟩
    rcases insF_o z with rfl | z
    · rw [hg.1] at k2
      cases k2
    · rw [hf.1] at z
      cases z
theorem Mat.hav {U : List Int} {P : Fs → Prop} (M : Mat U P) (hU : U.Nodup) {t : Int} (ht : t ∈ U) (pt : P (insF (fun _ => false) t)) : Mat U fun f => f t = false ∧ P (insF f t) where
  emp := ⟨rfl, pt⟩
  her f g h s := ⟨bool_f fun z => (by have := s t ht z; rw [h.1] at this; cases this), M.her _ _ h.2 (ins_sub s)⟩
  exc f g hf hg hc := by
    obtain ⟨x, hx, k1, k2, k3⟩ := M.exc _ _ hf.2 hg.2 (by rw [cnt_ins hU ht hf.1, cnt_ins hU ht hg.1]; omega)
    have xt : x ≠ t := fun z => by rw [z, insF_t] at k1; cases k1
    have fx : f x = false := bool_f fun z => by rw [insF_m z] at k1; cases k1
    have gx : g x = true := by
      rcases insF_o k2 with z | z
      · exact absurd z xt
      · exact z
    refine ⟨x, hx, fx, gx, bool_f fun z => ?_, M.her _ _ k3 fun y _ k => ?_⟩
    · rcases insF_o z with z | z
      · exact xt z.symm
      · rw [hf.1] at z
        cases z
    · rcases insF_o k with rfl | k
      · exact insF_m (insF_t _ _)
      · rcases insF_o k with rfl | k
        · exact insF_t _ _
        · exact insF_m (insF_m k)
theorem Mat.mir {U : List Int} {P : Fs → Prop} (M : Mat U P) (hU : U.Nodup) {r : Nat} (hr : ∀ f, P f → U.countP f ≤ r) (he : ∃ f, P f ∧ U.countP f = r) : Mat U fun f => ∃ g, P g ∧ U.countP g = r ∧ ∀ t ∈ U, f t = true → g t = false where
  emp := by
    obtain ⟨f, h1, h2⟩ := he
    exact ⟨f, h1, h2, fun t _ h => by cases h⟩
  her f g h s := by
    obtain ⟨k, h1, h2, h3⟩ := h
    exact ⟨k, h1, h2, fun t ht hf => h3 t ht (s t ht hf)⟩
  exc a b ha hb hc := by
    obtain ⟨ta, pa, ca, da⟩ := ha
    obtain ⟨tb, pb, cb, db⟩ := hb
    have pk : P (fun x => tb x && !a x) := M.her _ _ pb fun t _ h => by
      (simp only [Bool.and_eq_true] at h)
      exact h.1
    have ck := hr _ pk
    obtain ⟨T, pT, cT, s1, s2⟩ := M.extend hU (r - U.countP fun x => tb x && !a x) _ _ pk pa (by omega)
    have dT : ∀ t ∈ U, a t = true → T t = false := fun t ht k => bool_f fun z => by
      rcases s2 t ht z with h | h
      · rw [k] at h
        simp at h
      · rw [da t ht k] at h
        cases h
    have ex : ∃ t ∈ U, (b t = true ∧ a t = false) ∧ T t = false := by
      refine Classical.byContradiction fun no => ?_
      have all : ∀ t ∈ U, (b t && !a t) = true → T t = true := fun t ht k => by
        simp only [Bool.and_eq_true, Bool.not_eq_true'] at k
        cases e : T t with
        | true => rfl
        | false => exact absurd ⟨t, ht, k, e⟩ no
      have e1 := cnt_cut a b U
      have e2 := cnt_cut b a U
      have e3 := cnt_cut tb a U
      have e4 := cnt_cut T b U
      have e5 : U.countP (fun x => a x && b x) = U.countP (fun x => b x && a x) := cnt_eq fun t _ => Bool.and_comm _ _
      have e6 : U.countP (fun x => tb x && a x) ≤ U.countP (fun x => a x && !b x) := cnt_le fun t ht k => by
        simp only [Bool.and_eq_true] at k
        rw [k.2]
        cases e : b t with
        | false => rfl
        | true =>
          have := db t ht e
          rw [k.1] at this
          cases this
      have e7 : U.countP (fun x => b x && !a x) ≤ U.countP (fun x => T x && b x) := cnt_le fun t ht k => by
        rw [all t ht k]
        simp only [Bool.and_eq_true] at k
        rw [k.1]
        rfl
      have e8 : U.countP (fun x => tb x && !a x) ≤ U.countP (fun x => T x && !b x) := cnt_le fun t ht k => by
        rw [s1 t ht k]
        simp only [Bool.and_eq_true] at k
        cases e : b t with
        | false => rfl
        | true =>
          have := db t ht e
          rw [k.1] at this
          cases this
      omega
    obtain ⟨t, ht, ⟨k1, k2⟩, k3⟩ := ex
    refine ⟨t, ht, k2, k1, T, pT, by omega, fun x hx k => ?_⟩
    rcases insF_o k with rfl | k
    · exact k3
    · exact dT x hx k
end Gl

namespace Gl
/-! ### the things, the lots: all of them -/
def ir (n : Nat) : List Int := (List.range n).map fun (i : Nat) => (i : Int)
theorem ir_mem {n : Nat} {t : Int} : t ∈ ir n ↔ 0 ≤ t ∧ t < n := by
  unfold ir
  rw [List.mem_map]
  constructor
  · rintro ⟨i, hi, rfl⟩
    have := List.mem_range.mp hi
    omega
  · intro h
    exact ⟨t.toNat, List.mem_range.mpr (by omega), by omega⟩
theorem ir_succ (n : Nat) : ir (n + 1) = ir n ++ [(n : Int)] := by
  unfold ir
  rw [List.range_succ, List.map_append]
  rfl
theorem ir_sort : ∀ n : Nat, (ir n).Pairwise (· < ·)
  | 0 => List.Pairwise.nil
  | n + 1 => by
    rw [ir_succ, List.pairwise_append]
    refine ⟨ir_sort n, List.pairwise_singleton _ _, fun a ha b hb => ?_⟩
    rw [List.mem_singleton.mp hb]
    exact (ir_mem.mp ha).2
theorem ir_nd (n : Nat) : (ir n).Nodup := (ir_sort n).imp fun h => by omega
theorem ir_len (n : Nat) : (ir n).length = n := by simp [ir]
def inF (l : List Int) : Fs := fun x => decide (x ∈ l)
def fl (n : Nat) (f : Fs) : List Int := (ir n).filter f
theorem inF_t {l : List Int} {t : Int} : inF l t = true ↔ t ∈ l := by simp [inF]
theorem inF_f {l : List Int} {t : Int} : inF l t = false ↔ t ∉ l := by simp [inF]
theorem fl_mem {n : Nat} {f : Fs} {t : Int} : t ∈ fl n f ↔ t ∈ ir n ∧ f t = true := List.mem_filter
theorem fl_eq {n : Nat} {f g : Fs} (h : ∀ t ∈ ir n, f t = g t) : fl n f = fl n g := List.filter_congr fun t ht => h t ht
theorem fl_sort (n : Nat) (f : Fs) : (fl n f).Pairwise (· < ·) := (ir_sort n).filter _
theorem fl_nd (n : Nat) (f : Fs) : (fl n f).Nodup := (ir_nd n).filter _
theorem fl_len (n : Nat) (f : Fs) : (fl n f).length = (ir n).countP f := List.countP_eq_length_filter.symm
theorem fl_in (n : Nat) (f : Fs) : fl n (inF (fl n f)) = fl n f := fl_eq fun t ht => by
  cases e : f t with
  | true => exact inF_t.mpr (fl_mem.mpr ⟨ht, e⟩)
  | false => exact inF_f.mpr fun z => by rw [(fl_mem.mp z).2] at e; cases e
theorem allG_fl : ∀ (n : Nat) (f : Fs), fl n f ∈ allG n
  | 0, f => by simp [allG, fl, ir]
  | n + 1, f => by
    unfold fl
    rw [ir_succ, List.filter_append, allG, List.mem_append]
    cases e : f (n : Int) with
    | true =>
      refine .inr (List.mem_map.mpr ⟨_, allG_fl n f, ?_⟩)
      simp [fl, e]
    | false =>
      refine .inl ?_
      have := allG_fl n f
      simp only [List.filter_cons, e, List.filter_nil]
      simpa [fl] using this
theorem allG_in : ∀ (n : Nat), ∀ l ∈ allG n, l = fl n (inF l)
  | 0, l, h => by
    rw [allG, List.mem_singleton] at h
    rw [h]
    rfl
  | n + 1, l, h => by
    rw [allG, List.mem_append, List.mem_map] at h
    unfold fl
    rw [ir_succ, List.filter_append]
    rcases h with h | ⟨m, h, rfl⟩
    · have e := allG_in n l h
      have hn : (n : Int) ∉ l := fun z => by
        rw [e] at z
        have := (ir_mem.mp (fl_mem.mp z).1).2
        omega
      have h2 : List.filter (inF l) [(n : Int)] = [] := by
        simp [inF_f.mpr hn]
      rw [h2, List.append_nil]
      exact e
    · have e := allG_in n m h
      have h2 : List.filter (inF (m ++ [(n : Int)])) [(n : Int)] = [(n : Int)] := by
        simp [inF]
      rw [h2]
      congr 1
      refine e.trans (fl_eq fun t ht => ?_)
      have := (ir_mem.mp ht).2
      simp only [inF, List.mem_append, List.mem_singleton]
      have hne : t ≠ (n : Int) := by omega
      simp [hne]
theorem every_in {n : Nat} {l : List Int} (h : l ∈ every n) : l = fl n (inF l) := allG_in n l (byLen_mem.mp h)
theorem every_fl (n : Nat) (f : Fs) : fl n f ∈ every n := byLen_mem.mpr (allG_fl n f)
theorem every_sub {n : Nat} {l : List Int} {t : Int} (h : l ∈ every n) (ht : t ∈ l) : t ∈ ir n := by
  rw [every_in h] at ht
  exact (fl_mem.mp ht).1
theorem every_eq {n : Nat} {l m : List Int} (h : l ∈ every n) (k : m ∈ every n) (e : ∀ t ∈ ir n, t ∈ l ↔ t ∈ m) : l = m := by
  rw [every_in h, every_in k]
  refine fl_eq fun t ht => ?_
  simp only [inF]
  exact decide_eq_decide.mpr (e t ht)
theorem every_cnt {n : Nat} {l : List Int} (h : l ∈ every n) : l.length = (ir n).countP (inF l) := by
  rw [← fl_len, ← every_in h]
theorem every_sort {n : Nat} {l : List Int} (h : l ∈ every n) : l.Pairwise (· < ·) := by
  rw [every_in h]
  exact fl_sort n _
theorem every_nd {n : Nat} {l : List Int} (h : l ∈ every n) : l.Nodup := (every_sort h).imp fun h => by omega
theorem allG_nd : ∀ n : Nat, (allG n).Nodup
  | 0 => by simp [allG]
  | n + 1 => by
    rw [allG, List.nodup_append]
    refine ⟨allG_nd n, ?_, ?_⟩
    · refine List.Pairwise.map _ (fun a b h e => h ?_) (allG_nd n)
      exact List.append_cancel_right e
    · intro a ha b hb e
      obtain ⟨m, hm, rfl⟩ := List.mem_map.mp hb
      have h1 := allG_in n a ha
      have : (n : Int) ∈ a := by rw [e]; simp
      rw [h1] at this
      have := (ir_mem.mp (fl_mem.mp this).1).2
      omega
/-! ### the order of lots -/
def lenLe (a b : List Int) : Bool := pairLe ((a.length : Int), a) ((b.length : Int), b)
theorem pairLe_tr (x y z : Int × List Int) (h1 : pairLe x y = true) (h2 : pairLe y z = true) : pairLe x z = true := by
  simp only [pairLe, decide_eq_true_iff] at *
  rcases h1 with h1 | ⟨h1, h3⟩
  · rcases h2 with h2 | ⟨h2, h4⟩
    · exact .inl (by omega)
    · exact .inl (by omega)
  · rcases h2 with h2 | ⟨h2, h4⟩
    · exact .inl (by omega)
    · exact .inr ⟨by omega, List.le_trans h3 h4⟩
theorem pairLe_to (x y : Int × List Int) : (pairLe x y || pairLe y x) = true := by
  simp only [pairLe, Bool.or_eq_true, decide_eq_true_iff]
  rcases Int.lt_trichotomy x.1 y.1 with h | h | h
  · exact .inl (.inl h)
  · rcases List.le_total x.2 y.2 with k | k
    · exact .inl (.inr ⟨h, k⟩)
    · exact .inr (.inr ⟨h.symm, k⟩)
  · exact .inr (.inl h)
theorem pairLe_an (x y : Int × List Int) (h1 : pairLe x y = true) (h2 : pairLe y x = true) : x = y := by
  simp only [pairLe, decide_eq_true_iff] at *
  have e : x.1 = y.1 := by omega
  have k : x.2 = y.2 := List.le_antisymm (by rcases h1 with h | h; exact absurd h (by omega); exact h.2) (by rcases h2 with h | h; exact absurd h (by omega); exact h.2)
  exact Prod.ext e k
theorem rowLe_to (x y : List Int) : (rowLe x y || rowLe y x) = true := by
  simp only [rowLe, Bool.or_eq_true, decide_eq_true_iff]
  exact List.le_total x y
theorem rowLe_an (x y : List Int) (h1 : rowLe x y = true) (h2 : rowLe y x = true) : x = y := by
  simp only [rowLe, decide_eq_true_iff] at *
  exact List.le_antisymm h1 h2
theorem rowLe_tr (x y z : List Int) (h1 : rowLe x y = true) (h2 : rowLe y z = true) : rowLe x z = true := by
  simp only [rowLe, decide_eq_true_iff] at *
  exact List.le_trans h1 h2
theorem byLen_sort (ls : List (List Int)) : (byLen ls).Pairwise fun a b => lenLe a b = true := by
  unfold byLen
  have h : ((ls.map fun l => ((l.length : Int), l)).mergeSort pairLe).Pairwise fun a b => pairLe a b = true := List.pairwise_mergeSort pairLe_tr pairLe_to _
  have hm : ∀ z ∈ (ls.map fun l => ((l.length : Int), l)).mergeSort pairLe, z = ((z.2.length : Int), z.2) := fun z hz => by
    obtain ⟨m, _, rfl⟩ := List.mem_map.mp (List.mem_mergeSort.mp hz)
    rfl
  rw [List.pairwise_map]
  refine h.imp_of_mem fun {a b} ha hb hab => ?_
  rw [hm a ha, hm b hb] at hab
  exact hab
theorem byLen_perm (ls : List (List Int)) : (byLen ls).Perm ls := by
  unfold byLen
  have h := (List.mergeSort_perm (ls.map fun l => ((l.length : Int), l)) pairLe).map (·.2)
  rw [List.map_map] at h
  have e : ((fun x : Int × List Int => x.2) ∘ fun l : List Int => ((l.length : Int), l)) = id := rfl
  rw [e, List.map_id] at h
  exact h
theorem lenLe_an (a b : List Int) (h1 : lenLe a b = true) (h2 : lenLe b a = true) : a = b := congrArg Prod.snd (pairLe_an _ _ h1 h2)
theorem byLen_of {ls m : List (List Int)} (p : ls.Perm m) (s : m.Pairwise fun a b => lenLe a b = true) : byLen ls = m :=
  List.Perm.eq_of_pairwise (le := fun a b => lenLe a b = true) (fun a b _ _ => lenLe_an a b) (byLen_sort ls) s ((byLen_perm ls).trans p)
theorem every_srt (n : Nat) : (every n).Pairwise fun a b => lenLe a b = true := byLen_sort _
theorem every_nodup (n : Nat) : (every n).Nodup := (byLen_perm _).nodup_iff.mpr (allG_nd n)
theorem perm_of {α : Type} [DecidableEq α] {l m : List α} (h1 : l.Nodup) (h2 : m.Nodup) (h : ∀ x, x ∈ l ↔ x ∈ m) : l.Perm m := by
  rw [List.perm_iff_count]
  intro x
  rw [h1.count, h2.count]
  simp only [h x]
/-- in the order of all lots -/
theorem byLen_is {n : Nat} {q : List Int → Bool} {ls : List (List Int)} (nd : ls.Nodup) (h : ∀ l, l ∈ ls ↔ l ∈ every n ∧ q l = true) : byLen ls = (every n).filter q :=
  byLen_of (perm_of nd ((every_nodup n).filter _) fun l => by rw [List.mem_filter]; exact h l) ((every_srt n).filter _)
theorem byLen_self (n : Nat) (q : List Int → Bool) : byLen ((every n).filter q) = (every n).filter q :=
  byLen_of (List.Perm.refl _) ((every_srt n).filter _)
theorem sortR_of {ls m : List (List Int)} (p : ls.Perm m) (s : m.Pairwise fun a b => rowLe a b = true) : sortR ls = m := sort_one rowLe_tr rowLe_to rowLe_an p s
theorem sortR_is {n d : Nat} {q : List Int → Bool} {ls : List (List Int)} (nd : ls.Nodup) (hd : ∀ l ∈ ls, l.length = d) (h : ∀ l, l ∈ ls ↔ l ∈ every n ∧ q l = true) : sortR ls = (every n).filter q := by
  have hp : ls.Perm ((every n).filter q) := perm_of nd ((every_nodup n).filter _) fun l => by rw [List.mem_filter]; exact h l
  refine sortR_of hp (((every_srt n).filter _).imp_of_mem fun {a b} ha hb hab => ?_)
  have h1 := hd a (hp.mem_iff.mpr ha)
  have h2 := hd b (hp.mem_iff.mpr hb)
  simp only [lenLe, pairLe, decide_eq_true_iff] at hab
  simp only [rowLe, decide_eq_true_iff]
  rcases hab with k | k
  · omega
  · exact k.2
/-! ### lots made from lots -/
theorem less_fl {n : Nat} {l : List Int} {t : Int} (h : l ∈ every n) : l.filter (fun x => !decide (x = t)) = fl n (delF (inF l) t) := by
  conv => lhs; rw [every_in h]
  unfold fl
  rw [List.filter_filter]
  (refine List.filter_congr fun x _ => ?_)
  rw [Bool.and_comm]
  rfl
theorem less_ev {n : Nat} {l : List Int} {t : Int} (h : l ∈ every n) : l.filter (fun x => !decide (x = t)) ∈ every n := by
  rw [less_fl h]
  exact every_fl n _
theorem more_fl {n : Nat} {l : List Int} {t : Int} (h : l ∈ every n) (ht : t ∈ ir n) (hn : t ∉ l) : srtI (l ++ [t]) = fl n (insF (inF l) t) := by
  symm
  refine srtI_of ?_ ((fl_sort n _).imp fun h => by omega)
  refine perm_of (fl_nd n _) ?_ fun x => ?_
  · rw [List.nodup_append]
    refine ⟨every_nd h, by simp, fun a ha b hb e => ?_⟩
    rw [List.mem_singleton.mp hb] at e
    exact hn (e ▸ ha)
  · rw [fl_mem, List.mem_append, List.mem_singleton]
    constructor
    · rintro ⟨_, h2⟩
      rcases insF_o h2 with h3 | h3
      · exact .inr h3
      · exact .inl (inF_t.mp h3)
    · rintro (h3 | rfl)
      · exact ⟨every_sub h h3, insF_m (inF_t.mpr h3)⟩
      · exact ⟨ht, insF_t _ _⟩
theorem in_fl {n : Nat} {f : Fs} {t : Int} (ht : t ∈ ir n) : inF (fl n f) t = f t := by
  cases e : f t with
  | true => exact inF_t.mpr (fl_mem.mpr ⟨ht, e⟩)
  | false => exact inF_f.mpr fun z => by rw [(fl_mem.mp z).2] at e; cases e
theorem ex_fl {n : Nat} {l : List Int} {x y : Int} (h : l ∈ every n) (hy : y ∈ ir n) (hn : y ∉ l) : exF l x y = fl n (insF (delF (inF l) x) y) := by
  unfold exF
  rw [less_fl h, more_fl (every_fl n _) hy]
  · refine fl_eq fun t ht => ?_
    unfold insF
    rw [in_fl ht]
  · intro z
    have := (delF_o (fl_mem.mp z).2).1
    exact hn (inF_t.mp this)
end Gl

namespace Gl
theorem ris_of {l : List Int} (h : l.Pairwise (· < ·)) : risF l = true := by
  unfold risF
  rw [List.all_eq_true]
  intro i hi
  have h2 := List.mem_range.mp hi
  have e1 : l.getD i 0 = l[i]'(by omega) := by
    rw [List.getD_eq_getElem?_getD, List.getElem?_eq_getElem (by omega)]
    rfl
  have e2 : l.getD (i + 1) 0 = l[i + 1]'(by omega) := by
    rw [List.getD_eq_getElem?_getD, List.getElem?_eq_getElem (by omega)]
    rfl
  rw [e1, e2, decide_eq_true_iff]
  exact List.pairwise_iff_getElem.mp h i (i + 1) (by omega) (by omega) (by omega)
theorem lot_of {n : Nat} {l : List Int} (h : l ∈ every n) : lotF n l = true ∧ l.length ≤ n := by
  constructor
  · unfold lotF
    rw [ris_of (every_sort h), Bool.and_true, List.all_eq_true]
    intro t ht
    have := ir_mem.mp (every_sub h ht)
    simp only [Bool.and_eq_true, decide_eq_true_iff]
    exact this
  · rw [every_cnt h]
    have := List.countP_le_length (p := inF l) (l := ir n)
    rw [ir_len] at this
    exact this
theorem ev_len {n : Nat} (h : n ≤ 7) : (every n).length ≤ 128 := by
  unfold every
  rw [byLen_length, allG_length]
  calc 2 ^ n ≤ 2 ^ 7 := Nat.pow_le_pow_right (by decide) h
    _ = 128 := rfl
theorem inn_none {ls : List (List Int)} {l : List Int} : ∀ r : List (List Int), (∀ o ∈ r, l.length < o.length → stuckF ls l o = false) → innF ls l r = none
  | [], _ => rfl
  | o :: r, h => by
    unfold innF
    have h1 := h o List.mem_cons_self
    have h2 := inn_none r fun o ho => h o (List.mem_cons_of_mem _ ho)
    by_cases k : l.length < o.length
    · rw [h1 k, Bool.and_false]
      simpa using h2
    · have : decide ((l.length : Int) < (o.length : Int)) = false := by
        rw [decide_eq_false_iff_not]
        omega
      rw [this, Bool.false_and]
      simpa using h2
theorem out_none {ls : List (List Int)} : ∀ r : List (List Int), (∀ l ∈ r, ∀ o ∈ ls, l.length < o.length → stuckF ls l o = false) → outF ls r = none
  | [], _ => rfl
  | l :: r, h => by
    unfold outF
    rw [inn_none ls fun o ho => h l List.mem_cons_self o ho]
    exact out_none r fun l hl => h l (List.mem_cons_of_mem _ hl)
/-- a house of n things, told by its lots -/
abbrev Ho (n : Nat) (q : List Int → Bool) : Prop := Mat (ir n) fun f => q (fl n f) = true
section
variable {n : Nat} {q : List Int → Bool} {ls : List (List Int)}
theorem Ho.sub (M : Ho n q) {l m : List Int} (hl : l ∈ every n) (hm : m ∈ every n) (qm : q m = true) (s : ∀ t ∈ l, t ∈ m) : q l = true := by
  rw [every_in hl]
  refine M.her _ (inF m) (by show q (fl n (inF m)) = true; rw [← every_in hm]; exact qm) fun t _ h => inF_t.mpr (s t (inF_t.mp h))
theorem Ho.up (M : Ho n q) {l o : List Int} (hl : l ∈ every n) (ho : o ∈ every n) (ql : q l = true) (qo : q o = true) (h : l.length < o.length) : ∃ t ∈ o, t ∉ l ∧ t ∈ ir n ∧ srtI (l ++ [t]) ∈ every n ∧ q (srtI (l ++ [t])) = true := by
  obtain ⟨t, ht, h1, h2, h3⟩ := M.exc (inF l) (inF o) (by show q (fl n (inF l)) = true; rw [← every_in hl]; exact ql) (by show q (fl n (inF o)) = true; rw [← every_in ho]; exact qo) (by rw [← every_cnt hl, ← every_cnt ho]; exact h)
  refine ⟨t, inF_t.mp h2, inF_f.mp h1, ht, ?_⟩
  rw [more_fl hl ht (inF_f.mp h1)]
  exact ⟨every_fl n _, h3⟩
theorem Ho.nil (M : Ho n q) : [] ∈ every n ∧ q [] = true := by
  have h : fl n (fun _ => false) = [] := by
    unfold fl
    rw [List.filter_eq_nil_iff]
    intro a _ h
    cases h
  have h1 := M.emp
  have h2 := every_fl n fun _ => false
  rw [h] at h1 h2
  exact ⟨h2, h1⟩
theorem Ho.hs (M : Ho n q) (hn : n ≤ 7) (nd : ls.Nodup) (h : ∀ l, l ∈ ls ↔ l ∈ every n ∧ q l = true) : Hs n ls := by
  have hb : byLen ls = (every n).filter q := byLen_is nd h
  have hlen : ls.length ≤ 128 := by
    rw [← byLen_length, hb]
    exact Nat.le_trans (List.length_filter_le _ _) (ev_len hn)
  have hmem : ∀ l, l ∈ byLen ls ↔ l ∈ every n ∧ q l = true := fun l => byLen_mem.trans (h l)
  have hlt : ∀ l, l ∈ every n → l.length ≤ 7 := fun l hl => Nat.le_trans (lot_of hl).2 hn
  refine ⟨⟨by omega, by omega, nd, fun l hl => ?_, by omega⟩, ⟨?_, ?_, fun l hl => ?_, ?_, fun l hl t ht => ?_⟩, ?_⟩
  · have h1 := ((h l).mp hl).1
    exact ⟨(lot_of h1).1, by have := hlt l h1; omega⟩
  · rw [hb]
    exact (every_nodup n).filter _
  · rw [byLen_length]
    omega
  · have := hlt l ((hmem l).mp hl).1
    omega
  · exact (hmem []).mpr M.nil
  · obtain ⟨h1, h2⟩ := (hmem l).mp hl
    exact (hmem _).mpr ⟨less_ev h1, M.sub (less_ev h1) h1 h2 fun x hx => (List.mem_filter.mp hx).1⟩
  · refine out_none _ fun l hl o ho hlo => ?_
    obtain ⟨h1, h2⟩ := (hmem l).mp hl
    obtain ⟨k1, k2⟩ := (hmem o).mp ho
    obtain ⟨t, ht, hn, hi, he, hq⟩ := M.up h1 k1 h2 k2 hlo
    unfold stuckF
    rw [Bool.not_eq_false']
    refine List.any_eq_true.mpr ⟨t, ht, ?_⟩
    rw [decide_eq_false hn, decide_eq_true ((hmem _).mpr ⟨he, hq⟩)]
    rfl
/-- the length of the greatest -/
structure Rk (n : Nat) (q : List Int → Bool) (r : Nat) : Prop where
  le : ∀ l ∈ every n, q l = true → l.length ≤ r
  ex : ∃ l ∈ every n, q l = true ∧ l.length = r
def topP (q : List Int → Bool) (r : Nat) (l : List Int) : Bool := q l && decide (l.length = r)
theorem topP_t {q : List Int → Bool} {r : Nat} {l : List Int} : topP q r l = true ↔ q l = true ∧ l.length = r := by simp [topP]
theorem last_max : ∀ {m : List (List Int)}, (m.Pairwise fun a b => lenLe a b = true) → m ≠ [] → (∀ l ∈ m, l.length ≤ lastLen m) ∧ ∃ l ∈ m, l.length = lastLen m
  | [], _, h => absurd rfl h
  | [a], _, _ => ⟨fun l hl => by rw [List.mem_singleton.mp hl]; exact Nat.le_refl _, a, List.mem_singleton.mpr rfl, rfl⟩
  | a :: b :: r, s, _ => by
    have s2 := List.pairwise_cons.mp s
    obtain ⟨h1, l, h2, h3⟩ := last_max s2.2 (by simp)
    have e : lastLen (a :: b :: r) = lastLen (b :: r) := by simp [lastLen, List.getLastD]
    rw [e]
    refine ⟨fun x hx => ?_, l, List.mem_cons_of_mem _ h2, h3⟩
    (rcases List.mem_cons.mp hx with rfl | hx)
    · have h4 := s2.1 b List.mem_cons_self
      have h5 := h1 b List.mem_cons_self
      simp only [lenLe, pairLe, decide_eq_true_iff] at h4
      omega
    · exact h1 x hx
theorem rk_last {r : Nat} (R : Rk n q r) : lastLen ((every n).filter q) = r := by
  obtain ⟨l, h1, h2, h3⟩ := R.ex
  have hm : l ∈ (every n).filter q := List.mem_filter.mpr ⟨h1, h2⟩
  obtain ⟨k1, m, k2, k3⟩ := last_max (m := (every n).filter q) ((every_srt n).filter _) (List.ne_nil_of_mem hm)
  have h4 := k1 l hm
  obtain ⟨h5, h6⟩ := List.mem_filter.mp k2
  have h7 := R.le m h5 h6
  omega
theorem Ho.rk (M : Ho n q) : ∃ r, Rk n q r := by
  obtain ⟨h1, h2⟩ := M.nil
  obtain ⟨k1, m, k2, k3⟩ := last_max (m := (every n).filter q) ((every_srt n).filter _) (List.ne_nil_of_mem (List.mem_filter.mpr ⟨h1, h2⟩))
  refine ⟨lastLen ((every n).filter q), fun l hl ql => k1 l (List.mem_filter.mpr ⟨hl, ql⟩), m, (List.mem_filter.mp k2).1, (List.mem_filter.mp k2).2, k3⟩
theorem long_is {r : Nat} (R : Rk n q r) : longF ((every n).filter q) = (every n).filter (topP q r) := by
  unfold longF
  rw [rk_last R, List.filter_filter]
  refine List.filter_congr fun l _ => ?_
  unfold topP
  rw [Bool.and_comm]
  congr 1
  (exact decide_eq_decide.mpr (by omega))
theorem gre_is {r : Nat} (R : Rk n q r) (nd : ls.Nodup) (h : ∀ l, l ∈ ls ↔ l ∈ every n ∧ q l = true) : greF ls = (every n).filter (topP q r) := by
  unfold greF
  rw [byLen_is nd h, long_is R]
theorem flt_mem {l : List Int} : l ∈ (every n).filter q ↔ l ∈ every n ∧ q l = true := List.mem_filter
theorem flt_nd : ((every n).filter q).Nodup := (every_nodup n).filter _
theorem gre_self {r : Nat} (R : Rk n q r) : greF ((every n).filter q) = (every n).filter (topP q r) := gre_is R flt_nd fun _ => flt_mem
theorem Ho.hs_self (M : Ho n q) (hn : n ≤ 7) : Hs n ((every n).filter q) := M.hs hn flt_nd fun _ => flt_mem
theorem Rk.le' {r : Nat} (R : Rk n q r) : ∀ f, q (fl n f) = true → (ir n).countP f ≤ r := fun f h => by
  rw [← fl_len]
  exact R.le _ (every_fl n f) h
/-! ### exchange -/
theorem Ho.xr (M : Ho n q) {r : Nat} (R : Rk n q r) : XR ((every n).filter (topP q r)) := by
  intro near hnear far hfar one h1 h2
  obtain ⟨a1, a2⟩ := flt_mem.mp hnear
  obtain ⟨b1, b2⟩ := flt_mem.mp hfar
  obtain ⟨a3, a4⟩ := topP_t.mp a2
  obtain ⟨b3, b4⟩ := topP_t.mp b2
  have ho : one ∈ ir n := every_sub a1 h1
  obtain ⟨y, hy, k1, k2, k3, k4⟩ := M.sym (ir_nd n) R.le' (a := inF near) (b := inF far) (by show q (fl n (inF near)) = true; rw [← every_in a1]; exact a3) (by show q (fl n (inF far)) = true; rw [← every_in b1]; exact b3) (by rw [← every_cnt a1]; exact a4) (by rw [← every_cnt b1]; exact b4) ho (inF_t.mpr h1) (inF_f.mpr h2)
  have k5 := inF_t.mp k1
  have k6 := inF_f.mp k2
  have c1 := cnt_del (ir_nd n) ho (inF_t.mpr h1)
  have c2 := cnt_del (ir_nd n) hy k1
  have d1 : delF (inF near) one y = false := bool_f fun z => by rw [(delF_o z).1] at k2; cases k2
  have d2 : delF (inF far) y one = false := bool_f fun z => h2 (inF_t.mp (delF_o z).1)
  have e1 := every_cnt a1
  have e2 := every_cnt b1
  refine ⟨y, k5, k6, ?_, ?_⟩
  · rw [ex_fl a1 hy k6]
    refine flt_mem.mpr ⟨every_fl n _, topP_t.mpr ⟨k3, ?_⟩⟩
    rw [fl_len, cnt_ins (ir_nd n) hy d1]
    omega
  · rw [ex_fl b1 ho h2]
    refine flt_mem.mpr ⟨every_fl n _, topP_t.mpr ⟨k4, ?_⟩⟩
    rw [fl_len, cnt_ins (ir_nd n) ho d2]
    omega
end
end Gl

namespace Gl
/-! ### the greedy lot -/
section
variable {n : Nat} {q : List Int → Bool}
def indI (f : Fs) (w : Int → Int) (t : Int) : Int := if f t = true then w t else 0
theorem sum_ind (f : Fs) (w : Int → Int) : ∀ U : List Int, ((U.filter f).map w).sum = (U.map (indI f w)).sum
  | [] => rfl
  | x :: U => by
    rw [List.filter_cons, List.map_cons, List.sum_cons, ← sum_ind f w U]
    unfold indI
    cases f x <;> simp
theorem sum_perm {l m : List Int} (p : l.Perm m) : l.sum = m.sum := by
  induction p with
  | nil => rfl
  | cons x _ h => rw [List.sum_cons, List.sum_cons, h]
  | swap x y l =>
    simp only [List.sum_cons]
    omega
  | trans _ _ h1 h2 => exact h1.trans h2
theorem cnt_and {U : List Int} {B d : Fs} {t : Int} (hU : U.Nodup) (ht : t ∈ U) (hd : d t = false) : U.countP (fun x => B x && insF d t x) = U.countP (fun x => B x && d x) + (if B t = true then 1 else 0) := by
  cases e : B t with
  | true =>
    rw [if_pos rfl, ← cnt_ins (f := fun x => B x && d x) hU ht (by simp [hd])]
    refine cnt_eq fun x _ => ?_
    unfold insF
    by_cases k : x = t
    · subst k
      simp [e]
    · simp [k]
  | false =>
    rw [if_neg (by simp)]
    refine cnt_eq fun x _ => ?_
    unfold insF
    by_cases k : x = t
    · subst k
      simp [e]
    · simp [k]
theorem grd_main (M : Ho n q) (w : Int → Int) (B : Fs) (hB : q (fl n B) = true) : ∀ (os : List Int) (lot : List Int) (done : Fs) (w0 : Int), lot ∈ every n → q lot = true → (∀ t ∈ lot, done t = true) → (∀ t ∈ ir n, done t = true → t ∉ lot → q (fl n (insF (inF lot) t)) = false) → os.Nodup → (∀ t ∈ os, t ∈ ir n ∧ done t = false ∧ w t ≤ w0) → os.Pairwise (fun a b => w b ≤ w a) →
    let G := grdF ((every n).filter q) lot os
    G ∈ every n ∧ q G = true ∧ (∀ t, t ∉ os → (t ∈ G ↔ t ∈ lot)) ∧ (∀ t ∈ ir n, done t = true ∨ t ∈ os → t ∉ G → q (fl n (insF (inF G) t)) = false) ∧
      ((∀ t ∈ ir n, done t = true ∨ t ∈ os) → G.length = (ir n).countP B → 0 ≤ ((lot.length : Int) - ((ir n).countP (fun x => B x && done x) : Nat)) * w0 + ((os.map (indI (inF G) w)).sum - (os.map (indI B w)).sum))
  | [], lot, done, w0, h1, h2, h3, h4, _, _, _ => by
    refine ⟨h1, h2, fun t _ => Iff.rfl, fun t ht h => h4 t ht (by rcases h with h | h; exact h; cases h), fun ha hc => ?_⟩
    have e : (ir n).countP (fun x => B x && done x) = (ir n).countP B := cnt_eq fun t ht => by
      rcases ha t ht with h | h
      · rw [h, Bool.and_true]
      · cases h
    have hc' : lot.length = (ir n).countP B := hc
    rw [e, ← hc', Int.sub_self, Int.zero_mul]
    exact Int.le_refl _
  | t :: os, lot, done, w0, h1, h2, h3, h4, hnd, ho, hp => by
    have hnd' := List.nodup_cons.mp hnd
    (have hp' := List.pairwise_cons.mp hp)
    obtain ⟨ht, hdt, hw⟩ := ho t List.mem_cons_self
    have htl : t ∉ lot := fun z => by rw [h3 t z] at hdt; cases hdt
    have dge : (ir n).countP (fun x => B x && done x) ≤ lot.length := by
      refine Classical.byContradiction fun no => ?_
      obtain ⟨x, hx, k1, k2, k3⟩ := M.exc (inF lot) (fun x => B x && done x) (by show q (fl n (inF lot)) = true; rw [← every_in h1]; exact h2) (M.her _ B hB fun x _ k => by simp only [Bool.and_eq_true] at k; exact k.1) (by rw [← every_cnt h1]; omega)
      simp only [Bool.and_eq_true] at k2
      have := h4 x hx k2.2 (inF_f.mp k1)
      rw [this] at k3
      cases k3
    have hdone : ∀ x, insF done t x = true ↔ x = t ∨ done x = true := fun x => by simp [insF]
    have hos : ∀ x ∈ os, x ∈ ir n ∧ insF done t x = false ∧ w x ≤ w t := fun x hx => by
      obtain ⟨a1, a2, _⟩ := ho x (List.mem_cons_of_mem _ hx)
      refine ⟨a1, bool_f fun z => ?_, hp'.1 x hx⟩
      rcases (hdone x).mp z with rfl | z
      · exact hnd'.1 hx
      · rw [a2] at z
        cases z
    have hcnt := cnt_and (B := B) (ir_nd n) ht hdt
    -- the step
    have step : ∀ lot', lot' ∈ every n → q lot' = true → (∀ x ∈ lot', insF done t x = true) → (∀ x ∈ ir n, insF done t x = true → x ∉ lot' → q (fl n (insF (inF lot') x)) = false) → (∀ x, x ≠ t → (x ∈ lot' ↔ x ∈ lot)) → lot'.length = lot.length + (if t ∈ lot' then 1 else 0) →
        grdF ((every n).filter q) lot (t :: os) = grdF ((every n).filter q) lot' os →
        (let G := grdF ((every n).filter q) lot (t :: os)
        G ∈ every n ∧ q G = true ∧ (∀ x, x ∉ t :: os → (x ∈ G ↔ x ∈ lot)) ∧ (∀ x ∈ ir n, done x = true ∨ x ∈ t :: os → x ∉ G → q (fl n (insF (inF G) x)) = false) ∧
          ((∀ x ∈ ir n, done x = true ∨ x ∈ t :: os) → G.length = (ir n).countP B → 0 ≤ ((lot.length : Int) - ((ir n).countP (fun x => B x && done x) : Nat)) * w0 + (((t :: os).map (indI (inF G) w)).sum - ((t :: os).map (indI B w)).sum))) := by
      intro lot' a1 a2 a3 a4 a5 a6 a7
      rw [a7]
      obtain ⟨b1, b2, b3, b4, b5⟩ := grd_main M w B hB os lot' (insF done t) (w t) a1 a2 a3 a4 hnd'.2 hos hp'.2
      refine ⟨b1, b2, fun x hx => ?_, fun x hx hd hG => ?_, fun ha hc => ?_⟩
      · have hxt : x ≠ t := fun z => hx (z ▸ List.mem_cons_self)
        exact (b3 x fun z => hx (List.mem_cons_of_mem _ z)).trans (a5 x hxt)
      · refine b4 x hx ?_ hG
        rcases hd with hd | hd
        · exact .inl ((hdone x).mpr (.inr hd))
        · rcases List.mem_cons.mp hd with hd | hd
          · exact .inl ((hdone x).mpr (.inl hd))
          · exact .inr hd
      · have ih := b5 (fun x hx => by
          rcases ha x hx with hd | hd
          · exact .inl ((hdone x).mpr (.inr hd))
          · rcases List.mem_cons.mp hd with hd | hd
            · exact .inl ((hdone x).mpr (.inl hd))
            · exact .inr hd) hc
        rw [hcnt, a6] at ih
        rw [List.map_cons, List.map_cons, List.sum_cons, List.sum_cons]
        have e3 := b3 t hnd'.1
        generalize (List.map (indI (inF (grdF (List.filter q (every n)) lot' os)) w) os).sum = S1 at ih ⊢
        generalize (List.map (indI B w) os).sum = S2 at ih ⊢
        have eg : indI (inF (grdF (List.filter q (every n)) lot' os)) w t = (if t ∈ lot' then w t else 0) := by
          unfold indI
          by_cases k : t ∈ lot'
          · rw [if_pos (inF_t.mpr (e3.mpr k)), if_pos k]
          · rw [if_neg (fun z => k (e3.mp (inF_t.mp z))), if_neg k]
        rw [eg]
        unfold indI
        generalize (ir n).countP (fun x => B x && done x) = c at ih dge ⊢
        have hd0 : 0 ≤ ((lot.length : Int) - (c : Int)) * (w0 - w t) := Int.mul_nonneg (by omega) (by omega)
        have hd1 : ((lot.length : Int) - (c : Int)) * (w0 - w t) = ((lot.length : Int) - (c : Int)) * w0 - ((lot.length : Int) - (c : Int)) * w t := Int.mul_sub ..
        by_cases k1 : t ∈ lot' <;> by_cases k2 : B t = true <;> simp only [k1, k2, if_true, if_false] at ih ⊢ <;> grind
    by_cases hq : q (fl n (insF (inF lot) t)) = true
    · have hfl : srtI (lot ++ [t]) = fl n (insF (inF lot) t) := more_fl h1 ht htl
      refine step (fl n (insF (inF lot) t)) (every_fl n _) hq (fun x hx => ?_) (fun x hx hd hx2 => ?_) (fun x hx => ?_) ?_ ?_
      · rcases insF_o (fl_mem.mp hx).2 with rfl | k
        · exact insF_t _ _
        · exact insF_m (h3 x (inF_t.mp k))
      · have hxt : x ≠ t := fun z => hx2 (fl_mem.mpr ⟨hx, z ▸ insF_t _ _⟩)
        have hxd : done x = true := by
          rcases (hdone x).mp hd with z | z
          · exact absurd z hxt
          · exact z
        have hxl : x ∉ lot := fun z => hx2 (fl_mem.mpr ⟨hx, insF_m (inF_t.mpr z)⟩)
        refine bool_f fun z => ?_
        have h5 := h4 x hx hxd hxl
        have : q (fl n (insF (inF lot) x)) = true := M.her (insF (inF lot) x) _ z fun y hy k => by
          rcases insF_o k with rfl | k
          · exact insF_t _ _
          · exact insF_m (inF_t.mpr (fl_mem.mpr ⟨hy, insF_m k⟩))
        rw [h5] at this
        cases this
      · rw [fl_mem]
        constructor
        · rintro ⟨_, k⟩
          rcases insF_o k with k | k
          · exact absurd k hx
          · exact inF_t.mp k
        · intro k
          exact ⟨every_sub h1 k, insF_m (inF_t.mpr k)⟩
      · rw [if_pos (fl_mem.mpr ⟨ht, insF_t _ _⟩), fl_len, cnt_ins (ir_nd n) ht (inF_f.mpr htl), every_cnt h1]
      · rw [grdF, hfl, decide_eq_true (flt_mem.mpr ⟨every_fl n _, hq⟩), if_pos rfl]
    · have hfl : srtI (lot ++ [t]) = fl n (insF (inF lot) t) := more_fl h1 ht htl
      refine step lot h1 h2 (fun x hx => insF_m (h3 x hx)) (fun x hx hd hx2 => ?_) (fun x _ => Iff.rfl) ?_ ?_
      · rcases (hdone x).mp hd with rfl | z
        · exact bool_f hq
        · exact h4 x hx z hx2
      · rw [if_neg htl]
        rfl
      · rw [grdF, hfl, decide_eq_false (fun z => hq (flt_mem.mp z).2), if_neg (by simp)]
theorem ii_tr (x y z : Int × Int) (h1 : iiLe x y = true) (h2 : iiLe y z = true) : iiLe x z = true := by
  simp only [iiLe, decide_eq_true_iff] at *
  omega
theorem ii_to (x y : Int × Int) : (iiLe x y || iiLe y x) = true := by
  simp only [iiLe, Bool.or_eq_true, decide_eq_true_iff]
  omega
theorem ord_perm (ws : List Int) (n : Nat) : (ordF ws n).Perm (ir n) := by
  unfold ordF
  have h := (List.mergeSort_perm ((List.range n).map fun (i : Nat) => (0 - ws.getD i 0, (i : Int))) iiLe).map (·.2)
  rw [List.map_map] at h
  exact h
theorem ord_sort (ws : List Int) (n : Nat) : (ordF ws n).Pairwise fun a b => ws.getD b.toNat 0 ≤ ws.getD a.toNat 0 := by
  unfold ordF
  have h : (((List.range n).map fun (i : Nat) => (0 - ws.getD i 0, (i : Int))).mergeSort iiLe).Pairwise fun a b => iiLe a b = true := List.pairwise_mergeSort ii_tr ii_to _
  have hm : ∀ z ∈ ((List.range n).map fun (i : Nat) => (0 - ws.getD i 0, (i : Int))).mergeSort iiLe, z.1 = 0 - ws.getD z.2.toNat 0 := fun z hz => by
    obtain ⟨m, _, rfl⟩ := List.mem_map.mp (List.mem_mergeSort.mp hz)
    rfl
  rw [List.pairwise_map]
  refine h.imp_of_mem fun {a b} ha hb hab => ?_
  simp only [iiLe, decide_eq_true_iff] at hab
  have := hm a ha
  have := hm b hb
  omega
theorem Ho.gr (M : Ho n q) {r : Nat} (R : Rk n q r) : GR n ((every n).filter q) ((every n).filter (topP q r)) := by
  intro ws hl hw
  have hb : ∀ t : Int, ws.getD t.toNat 0 ≤ 9 := fun t => by
    (rw [List.getD_eq_getElem?_getD])
    cases e : ws[t.toNat]? with
    | none => exact Int.zero_le_ofNat 9
    | some z => exact (hw z (List.mem_of_getElem? e)).2
  have hp := ord_perm ws n
  have hnd : (ordF ws n).Nodup := hp.nodup_iff.mpr (ir_nd n)
  have all := fun (B : Fs) (hB : q (fl n B) = true) => grd_main M (fun t => ws.getD t.toNat 0) B hB (ordF ws n) [] (fun _ => false) 9 M.nil.1 M.nil.2 (fun t h => nomatch h) (fun t _ h => nomatch h) hnd (fun t ht => ⟨hp.mem_iff.mp ht, rfl, hb t⟩) (ord_sort ws n)
  obtain ⟨top0, p1, p2, p3⟩ := R.ex
  obtain ⟨g1, g2, _, g4, _⟩ := all _ M.emp
  have gr : (grdF ((every n).filter q) [] (ordF ws n)).length = r := by
    have h1 := R.le _ g1 g2
    refine Classical.byContradiction fun no => ?_
    obtain ⟨t, _, k2, k3, k4, k5⟩ := M.up g1 p1 g2 p2 (by omega)
    rw [more_fl g1 k3 k2, g4 t k3 (.inr (hp.mem_iff.mpr k3)) k2] at k5
    cases k5
  refine ⟨flt_mem.mpr ⟨g1, topP_t.mpr ⟨g2, gr⟩⟩, fun top ht => ?_⟩
  obtain ⟨t1, t2⟩ := flt_mem.mp ht
  obtain ⟨t3, t4⟩ := topP_t.mp t2
  obtain ⟨_, _, _, _, h5⟩ := all (inF top) (by rw [← every_in t1]; exact t3)
  have h6 := h5 (fun t ht => .inr (hp.mem_iff.mpr ht)) (by rw [gr, ← every_cnt t1]; exact t4.symm)
  have ws_eq : ∀ l, l ∈ every n → wsum ws l = ((ordF ws n).map (indI (inF l) fun t => ws.getD t.toNat 0)).sum := fun l hl => by
    unfold wsum
    conv => lhs; rw [every_in hl]
    unfold fl
    rw [sum_ind]
    exact sum_perm (hp.symm.map _)
  rw [ws_eq top t1, ws_eq _ g1]
  simp only [List.length_nil, Bool.and_false] at h6
  have e0 : (ir n).countP (fun _ => false) = 0 := by simp
  rw [e0] at h6
  omega
end
end Gl

namespace Gl
/-! ### a house with and without a thing -/
theorem Mat.iff {U : List Int} {P Q : Fs → Prop} (M : Mat U P) (h : ∀ f, P f ↔ Q f) : Mat U Q := by
  have : P = Q := funext fun f => propext (h f)
  exact this ▸ M
def addT (n : Nat) (t : Int) (l : List Int) : List Int := fl n (insF (inF l) t)
def havP (n : Nat) (q : List Int → Bool) (t : Int) (l : List Int) : Bool := !decide (t ∈ l) && q (addT n t l)
def witP (q : List Int → Bool) (t : Int) (l : List Int) : Bool := !decide (t ∈ l) && q l
section
variable {n : Nat} {q : List Int → Bool} {t : Int} {l m : List Int}
theorem addT_ev : addT n t l ∈ every n := every_fl n _
theorem addT_in (ht : t ∈ ir n) : t ∈ addT n t l := fl_mem.mpr ⟨ht, insF_t _ _⟩
theorem addT_mem (hl : l ∈ every n) (ht : t ∈ ir n) {x : Int} : x ∈ addT n t l ↔ x = t ∨ x ∈ l := by
  unfold addT
  rw [fl_mem]
  constructor
  · rintro ⟨_, k⟩
    rcases insF_o k with k | k
    · exact .inl k
    · exact .inr (inF_t.mp k)
  · rintro (rfl | k)
    · exact ⟨ht, insF_t _ _⟩
    · exact ⟨every_sub hl k, insF_m (inF_t.mpr k)⟩
theorem addT_len (hl : l ∈ every n) (ht : t ∈ ir n) (hn : t ∉ l) : (addT n t l).length = l.length + 1 := by
  unfold addT
  rw [fl_len, cnt_ins (ir_nd n) ht (inF_f.mpr hn), ← every_cnt hl]
theorem lesF_ev (hl : l ∈ every n) : lesF t l ∈ every n := less_ev hl
theorem lesF_mem {x : Int} : x ∈ lesF t l ↔ x ∈ l ∧ x ≠ t := by
  unfold lesF
  rw [List.mem_filter]
  simp
theorem add_les (hl : l ∈ every n) (ht : t ∈ l) : addT n t (lesF t l) = l := by
  refine every_eq addT_ev hl fun x _ => ?_
  rw [addT_mem (lesF_ev hl) (every_sub hl ht), lesF_mem]
  constructor
  · rintro (rfl | k)
    · exact ht
    · exact k.1
  · intro k
    by_cases e : x = t
    · exact .inl e
    · exact .inr ⟨k, e⟩
theorem les_add (hl : l ∈ every n) (ht : t ∈ ir n) (hn : t ∉ l) : lesF t (addT n t l) = l := by
  refine every_eq (lesF_ev addT_ev) hl fun x _ => ?_
  rw [lesF_mem, addT_mem hl ht]
  constructor
  · rintro ⟨k | k, k2⟩
    · exact absurd k k2
    · exact k
  · intro k
    exact ⟨.inr k, fun e => hn (e ▸ k)⟩
theorem les_len (hl : l ∈ every n) (ht : t ∈ l) : (lesF t l).length + 1 = l.length := by
  conv => rhs; rw [← add_les hl ht]
  exact (addT_len (lesF_ev hl) (every_sub hl ht) fun z => (lesF_mem.mp z).2 rfl).symm
theorem les_inj (hl : l ∈ every n) (hm : m ∈ every n) (tl : t ∈ l) (tm : t ∈ m) (e : lesF t l = lesF t m) : l = m := by
  rw [← add_les hl tl, ← add_les hm tm, e]
theorem nd_map {α β : Type} {f : α → β} {xs : List α} (h : xs.Nodup) (inj : ∀ a ∈ xs, ∀ b ∈ xs, f a = f b → a = b) : (xs.map f).Nodup := by
  unfold List.Nodup
  rw [List.pairwise_map]
  refine List.Pairwise.imp_of_mem (fun {a b} ha hb hab e => hab (inj a ha b hb e)) h
theorem Ho.hav (M : Ho n q) (ht : t ∈ ir n) (qt : q (fl n (insF (fun _ => false) t)) = true) : Ho n (havP n q t) := by
  refine (Mat.hav M (ir_nd n) ht qt).iff fun f => ?_
  unfold havP
  have e : addT n t (fl n f) = fl n (insF f t) := fl_eq fun x hx => by
    unfold insF
    rw [in_fl hx]
  rw [e, Bool.and_eq_true, Bool.not_eq_true', decide_eq_false_iff_not, fl_mem]
  constructor
  · rintro ⟨a, b⟩
    exact ⟨fun z => (by rw [z.2] at a; cases a), b⟩
  · rintro ⟨a, b⟩
    exact ⟨bool_f fun z => a ⟨ht, z⟩, b⟩
theorem Ho.wit (M : Ho n q) (ht : t ∈ ir n) : Ho n (witP q t) := by
  refine (Mat.wit M ht).iff fun f => ?_
  unfold witP
  rw [Bool.and_eq_true, Bool.not_eq_true', decide_eq_false_iff_not, fl_mem]
  constructor
  · rintro ⟨a, b⟩
    exact ⟨fun z => (by rw [z.2] at a; cases a), b⟩
  · rintro ⟨a, b⟩
    exact ⟨bool_f fun z => a ⟨ht, z⟩, b⟩
theorem havP_t : havP n q t l = true ↔ t ∉ l ∧ q (addT n t l) = true := by simp [havP]
theorem witP_t : witP q t l = true ↔ t ∉ l ∧ q l = true := by simp [witP]
theorem wit_is : witF t ((every n).filter q) = (every n).filter (witP q t) := by
  unfold witF
  rw [byLen_self, List.filter_filter]
  rfl
theorem hav_is (ht : t ∈ ir n) : havF t ((every n).filter q) = (every n).filter (havP n q t) := by
  unfold havF
  rw [byLen_self]
  refine byLen_is (nd_map ((flt_nd).filter _) fun a ha b hb e => ?_) fun l => ?_
  · obtain ⟨a1, a2⟩ := List.mem_filter.mp ha
    obtain ⟨b1, b2⟩ := List.mem_filter.mp hb
    exact les_inj (flt_mem.mp a1).1 (flt_mem.mp b1).1 (by simpa using a2) (by simpa using b2) e
  · rw [List.mem_map]
    constructor
    · rintro ⟨m, hm, rfl⟩
      obtain ⟨a1, a2⟩ := List.mem_filter.mp hm
      obtain ⟨a3, a4⟩ := flt_mem.mp a1
      have tm : t ∈ m := by simpa using a2
      refine ⟨lesF_ev a3, havP_t.mpr ⟨fun z => (lesF_mem.mp z).2 rfl, ?_⟩⟩
      show q (addT n t (lesF t m)) = true
      rw [add_les a3 tm]
      exact a4
    · rintro ⟨h1, h2⟩
      obtain ⟨h3, h4⟩ := havP_t.mp h2
      exact ⟨addT n t l, List.mem_filter.mpr ⟨flt_mem.mpr ⟨addT_ev, h4⟩, by simpa using addT_in ht⟩, les_add h1 ht h3⟩
/-! ### counts of lots -/
theorem cnt_ir (n : Nat) (l : List Int) : cntF n l = (ir n).map (indI (inF l) fun _ => 1) := by
  unfold cntF ir
  rw [List.map_map]
  (refine List.map_congr_left fun i _ => ?_)
  simp [indI, inF]
theorem sum_cnt (f : Fs) : ∀ U : List Int, (U.map (indI f fun _ => 1)).sum = (U.countP f : Nat)
  | [] => rfl
  | x :: U => by
    rw [List.map_cons, List.sum_cons, sum_cnt f U, List.countP_cons]
    unfold indI
    cases f x <;> simp <;> omega
theorem cnt_sum (hl : l ∈ every n) : (cntF n l).sum = (l.length : Int) := by
  rw [cnt_ir, sum_cnt, ← every_cnt hl]
theorem cnt_len : (cntF n l).length = n := by simp [cntF]
theorem map_inj {α β : Type} {f g : α → β} : ∀ {U : List α}, U.map f = U.map g → ∀ x ∈ U, f x = g x
  | y :: U, h, x, hx => by
    (rw [List.map_cons, List.map_cons] at h)
    injection h with h1 h2
    (rcases List.mem_cons.mp hx with rfl | hx)
    · exact h1
    · exact map_inj h2 x hx
theorem cnt_inj (hl : l ∈ every n) (hm : m ∈ every n) (e : cntF n l = cntF n m) : l = m := by
  rw [cnt_ir, cnt_ir] at e
  refine every_eq hl hm fun x hx => ?_
  have h := map_inj e x hx
  unfold indI at h
  by_cases k1 : x ∈ l <;> by_cases k2 : x ∈ m
  · exact ⟨fun _ => k2, fun _ => k1⟩
  · rw [if_pos (inF_t.mpr k1), if_neg (fun z => k2 (inF_t.mp z))] at h
    cases h
  · rw [if_neg (fun z => k1 (inF_t.mp z)), if_pos (inF_t.mpr k2)] at h
    cases h
  · exact ⟨fun z => absurd z k1, fun z => absurd z k2⟩
theorem cnt_nd {ls : List (List Int)} (nd : ls.Nodup) (hi : ∀ l ∈ ls, l ∈ every n) : (ls.map (cntF n)).Nodup := nd_map nd fun a ha b hb e => cnt_inj (hi a ha) (hi b hb) e
theorem sub_len {ls : List (List Int)} (h7 : n ≤ 7) (nd : ls.Nodup) (hi : ∀ l ∈ ls, l ∈ every n) : ls.length ≤ 128 := by
  have e : byLen ls = (every n).filter (fun l => decide (l ∈ ls)) := byLen_is nd fun l => ⟨fun h => ⟨hi l h, by simpa using h⟩, fun h => by simpa using h.2⟩
  rw [← byLen_length, e]
  exact Nat.le_trans (List.length_filter_le _ _) (ev_len h7)
theorem ents_of {ls : List (List Int)} {d : Nat} (h1 : 1 ≤ n) (h7 : n ≤ 7) (nd : ls.Nodup) (hi : ∀ l ∈ ls, l ∈ every n ∧ l.length = d) (hd : d ≤ 8) : Ents n (ls.map (cntF n)) d := by
  refine ⟨h1, h7, fun k hk => ?_, by omega, cnt_nd nd fun l hl => (hi l hl).1, ?_⟩
  · obtain ⟨l, hl, rfl⟩ := List.mem_map.mp hk
    refine ⟨cnt_len, fun x hx => ?_, by rw [cnt_sum (hi l hl).1, (hi l hl).2]⟩
    rw [cnt_ir] at hx
    obtain ⟨y, _, rfl⟩ := List.mem_map.mp hx
    unfold indI
    by_cases k : inF l y = true
    · rw [if_pos k]
      exact Int.zero_le_ofNat 1
    · rw [if_neg k]
      exact Int.le_refl _
  · rw [List.length_map]
    have := sub_len h7 nd fun l hl => (hi l hl).1
    omega
theorem alo_is (ht : t ∈ ir n) : aloF n t = cntF n (addT n t []) := by
  rw [cnt_ir]
  unfold aloF ir
  rw [List.map_map]
  refine List.map_congr_left fun i hi => ?_
  have hm : ((i : Int) ∈ addT n t []) ↔ (i : Int) = t := by
    constructor
    · intro k
      rcases insF_o (fl_mem.mp k).2 with k | k
      · exact k
      · exact nomatch inF_t.mp k
    · intro k
      rw [k]
      exact addT_in ht
  show _ = indI (inF (addT n t [])) (fun _ => 1) (i : Int)
  unfold indI
  by_cases k : (i : Int) = t
  · rw [if_pos (decide_eq_true k), if_pos (inF_t.mpr (hm.mpr k))]
  · rw [if_neg (by simpa using k), if_neg (fun z => k (hm.mp (inF_t.mp z)))]
theorem zip_maps (f g : Int → Int) : ∀ U : List Int, addF (U.map f) (U.map g) = U.map fun x => f x + g x
  | [] => rfl
  | x :: U => by
    have := zip_maps f g U
    unfold addF at this ⊢
    rw [List.map_cons, List.map_cons, List.zip_cons_cons, List.map_cons, List.map_cons, this]
theorem add_cnt (hl : l ∈ every n) (ht : t ∈ ir n) (hn : t ∉ l) (h0 : [] ∈ every n) : addF (aloF n t) (cntF n l) = cntF n (addT n t l) := by
  rw [alo_is ht, cnt_ir, cnt_ir, cnt_ir, zip_maps]
  refine List.map_congr_left fun x hx => ?_
  have k1 : (inF (addT n t []) x = true) ↔ x = t := by
    rw [inF_t, addT_mem h0 ht]
    exact ⟨fun h => (by rcases h with h | h; exact h; exact nomatch h), .inl⟩
  have k2 : (inF (addT n t l) x = true) ↔ x = t ∨ x ∈ l := by rw [inF_t, addT_mem hl ht]
  unfold indI
  by_cases e : x = t
  · rw [if_pos (k1.mpr e), if_neg (fun z => hn (e ▸ inF_t.mp z)), if_pos (k2.mpr (.inl e))]
    rfl
  · rw [if_neg (fun z => e (k1.mp z))]
    by_cases k : x ∈ l
    · rw [if_pos (inF_t.mpr k), if_pos (k2.mpr (.inr k))]
      rfl
    · rw [if_neg (fun z => k (inF_t.mp z)), if_neg (fun z => by rcases k2.mp z with z | z; exact e z; exact k z)]
      rfl
end
end Gl

namespace Gl
theorem hash_nd {n : Nat} (h1 : 1 ≤ n) (h5 : n ≤ 5) : ((allG n).map fun l => hashK (cntF n l)).Nodup := by
  have h : n = 1 ∨ n = 2 ∨ n = 3 ∨ n = 4 ∨ n = 5 := by omega
  rcases h with rfl | rfl | rfl | rfl | rfl
  · decide +kernel
  · decide +kernel
  · decide +kernel
  · decide +kernel
  · decide +kernel
section
variable {n : Nat} {q : List Int → Bool} {t : Int} {l m : List Int}
theorem inj_of {α β : Type} {f : α → β} : ∀ {xs : List α}, (xs.map f).Nodup → ∀ a ∈ xs, ∀ b ∈ xs, f a = f b → a = b
  | x :: xs, h, a, ha, b, hb, e => by
    (rw [List.map_cons, List.nodup_cons] at h)
    rcases List.mem_cons.mp ha with k1 | k1
    · rcases List.mem_cons.mp hb with k2 | k2
      · rw [k1, k2]
      · exact (h.1 (List.mem_map.mpr ⟨b, k2, by rw [← k1]; exact e.symm⟩)).elim
    · rcases List.mem_cons.mp hb with k2 | k2
      · exact (h.1 (List.mem_map.mpr ⟨a, k1, by rw [← k2]; exact e⟩)).elim
      · exact inj_of h.2 a k1 b k2 e
theorem hash_nd2 (h1 : 1 ≤ n) (h5 : n ≤ 5) {ls : List (List Int)} (nd : ls.Nodup) (hi : ∀ l ∈ ls, l ∈ every n) : ((ls.map (cntF n)).map hashK).Nodup := by
  rw [List.map_map]
  exact nd_map nd fun a ha b hb e => inj_of (hash_nd h1 h5) a (byLen_mem.mp (hi a ha)) b (byLen_mem.mp (hi b hb)) e
theorem perm_flt {α : Type} (f : α → Bool) : ∀ xs : List α, (xs.filter f ++ xs.filter fun x => !f x).Perm xs
  | [] => .nil
  | x :: xs => by
    have ih := perm_flt f xs
    simp only [List.filter_cons]
    cases e : f x with
    | true =>
      (simp only [if_true, Bool.not_true, Bool.false_eq_true, if_false])
      exact ih.cons x
    | false =>
      (simp only [Bool.false_eq_true, if_false, Bool.not_false, if_true])
      exact List.perm_middle.trans (ih.cons x)
theorem sum_head {ks : List (List Int)} {d : Int} (h : ∀ k ∈ ks, k.sum = d) (ne : ks ≠ []) : (ks.headD []).sum = d := by
  cases ks with
  | nil => exact absurd rfl ne
  | cons k r => exact h k List.mem_cons_self
theorem ne_perm {α : Type} {xs ys : List α} (p : xs.Perm ys) (h : ys ≠ []) : xs ≠ [] := fun z => h (by rw [z] at p; exact p.nil_eq.symm)
theorem Ho.tr (M : Ho n q) (h1 : 1 ≤ n) (h5 : n ≤ 5) {r : Nat} (R : Rk n q r) (ht : t ∈ ir n) : TR n ((every n).filter q) ((every n).filter (topP q r)) t := by
  have h7 : n ≤ 7 := by omega
  have tin : ∀ l ∈ (every n).filter (topP q r), l ∈ every n ∧ l.length = r := fun l hl => ⟨(flt_mem.mp hl).1, (topP_t.mp (flt_mem.mp hl).2).2⟩
  have r7 : r ≤ 7 := by
    obtain ⟨l, k1, _, k3⟩ := R.ex
    have := (lot_of k1).2
    omega
  have hnil := M.nil.1
  have tnd : ((every n).filter (topP q r)).Nodup := flt_nd
  have tne : (every n).filter (topP q r) ≠ [] := by
    obtain ⟨l, k1, k2, k3⟩ := R.ex
    exact List.ne_nil_of_mem (flt_mem.mpr ⟨k1, topP_t.mpr ⟨k2, k3⟩⟩)
  have ond : (onesF t ((every n).filter (topP q r))).Nodup := tnd.filter _
  have onm : ∀ {l}, l ∈ onesF t ((every n).filter (topP q r)) ↔ (l ∈ every n ∧ q l = true ∧ l.length = r) ∧ t ∈ l := fun {l} => by
    unfold onesF
    rw [List.mem_filter, flt_mem, topP_t, decide_eq_true_iff]
  have otm : ∀ {l}, l ∈ othF t ((every n).filter (topP q r)) ↔ (l ∈ every n ∧ q l = true ∧ l.length = r) ∧ t ∉ l := fun {l} => by
    unfold othF
    rw [List.mem_filter, flt_mem, topP_t, Bool.not_eq_true', decide_eq_false_iff_not]
  have otnd : (othF t ((every n).filter (topP q r))).Nodup := tnd.filter _
  -- with the thing
  have one : onesF t ((every n).filter (topP q r)) ≠ [] → ∃ r', r' + 1 = r ∧ fl n (insF (fun _ => false) t) ∈ every n ∧ q (fl n (insF (fun _ => false) t)) = true ∧ Ho n (havP n q t) ∧ Rk n (havP n q t) r' ∧ greF (havF t ((every n).filter q)) = (every n).filter (topP (havP n q t) r') := fun ne => by
    obtain ⟨top, htop⟩ := List.exists_mem_of_ne_nil _ ne
    obtain ⟨⟨k1, k2, k3⟩, k4⟩ := onm.mp htop
    have qt : q (fl n (insF (fun _ => false) t)) = true := M.sub (every_fl n _) k1 k2 fun x hx => by
      rcases insF_o (fl_mem.mp hx).2 with rfl | k
      · exact k4
      · cases k
    have hl := les_len k1 k4
    have Mh := M.hav ht qt
    have Rh : Rk n (havP n q t) (lesF t top).length := ⟨fun l hl ql => by
      obtain ⟨a1, a2⟩ := havP_t.mp ql
      have := R.le _ addT_ev a2
      rw [addT_len hl ht a1] at this
      omega, lesF t top, lesF_ev k1, havP_t.mpr ⟨fun z => (lesF_mem.mp z).2 rfl, by rw [add_les k1 k4]; exact k2⟩, rfl⟩
    refine ⟨(lesF t top).length, by omega, every_fl n _, qt, Mh, Rh, ?_⟩
    rw [hav_is ht]
    exact gre_self Rh
  have hvm : ∀ {r' l}, r' + 1 = r → (l ∈ (every n).filter (topP (havP n q t) r') ↔ l ∈ every n ∧ t ∉ l ∧ addT n t l ∈ onesF t ((every n).filter (topP q r))) := fun {r' l} hr => by
    rw [flt_mem, topP_t, havP_t, onm]
    constructor
    · rintro ⟨a1, ⟨a2, a3⟩, a4⟩
      exact ⟨a1, a2, ⟨addT_ev, a3, by rw [addT_len a1 ht a2]; omega⟩, addT_in ht⟩
    · rintro ⟨a1, a2, ⟨a3, a4, a5⟩, a6⟩
      rw [addT_len a1 ht a2] at a5
      exact ⟨a1, ⟨a2, a4⟩, by omega⟩
  have hap : ∀ {r'}, r' + 1 = r → (((every n).filter (topP (havP n q t) r')).map (addT n t)).Perm (onesF t ((every n).filter (topP q r))) := fun {r'} hr => by
    refine perm_of (nd_map flt_nd fun a ha b hb e => ?_) ond fun l => ?_
    · obtain ⟨a1, a2, _⟩ := (hvm hr).mp ha
      obtain ⟨b1, b2, _⟩ := (hvm hr).mp hb
      rw [← les_add a1 ht a2, ← les_add b1 ht b2, e]
    · rw [List.mem_map]
      constructor
      · rintro ⟨m, hm, rfl⟩
        exact ((hvm hr).mp hm).2.2
      · intro hl
        obtain ⟨⟨k1, k2, k3⟩, k4⟩ := onm.mp hl
        refine ⟨lesF t l, (hvm hr).mpr ⟨lesF_ev k1, fun z => (lesF_mem.mp z).2 rfl, ?_⟩, add_les k1 k4⟩
        rw [add_les k1 k4]
        exact hl
  refine ⟨M.hs_self h7, gre_self R, tne, fun l hl => by have := (tin l hl).2; omega, ?_, ⟨r, ents_of h1 h7 tnd tin (by omega)⟩, fun ne => ?_, fun ne => ?_, fun e => ?_, fun ne1 ne2 => ?_⟩
  · have := sub_len h7 tnd fun l hl => (tin l hl).1
    omega
  · obtain ⟨r', hr, e1, e2, Mh, Rh, eg⟩ := one ne
    have lnd : ((onesF t ((every n).filter (topP q r))).map (lesF t)).Nodup := nd_map ond fun a ha b hb e => by
      obtain ⟨⟨a1, _, _⟩, a2⟩ := onm.mp ha
      obtain ⟨⟨b1, _, _⟩, b2⟩ := onm.mp hb
      exact les_inj a1 b1 a2 b2 e
    have lm : ∀ l, l ∈ (onesF t ((every n).filter (topP q r))).map (lesF t) ↔ l ∈ every n ∧ topP (havP n q t) r' l = true := fun l => by
      rw [← flt_mem, hvm hr, List.mem_map]
      constructor
      · rintro ⟨m, hm, rfl⟩
        obtain ⟨⟨k1, k2, k3⟩, k4⟩ := onm.mp hm
        refine ⟨lesF_ev k1, fun z => (lesF_mem.mp z).2 rfl, ?_⟩
        rw [add_les k1 k4]
        exact hm
      · rintro ⟨a1, a2, a3⟩
        exact ⟨_, a3, les_add a1 ht a2⟩
    have llen : ∀ l ∈ (onesF t ((every n).filter (topP q r))).map (lesF t), l.length = r' := fun l hl => (topP_t.mp ((lm l).mp hl).2).2
    have hsing : fl n (insF (fun _ => false) t) = [t] := by
      refine every_eq (every_fl n _) (n := n) ?_ fun x hx => ?_
      · have h2 : srtI ([] ++ [t]) = fl n (insF (inF []) t) := more_fl hnil ht (by simp)
        have h3 : srtI ([] ++ [t]) = [t] := (srtI_of (List.Perm.refl _) (by simp)).symm
        rw [h3] at h2
        rw [h2]
        exact every_fl n _
      · rw [fl_mem, List.mem_singleton]
        constructor
        · rintro ⟨_, k⟩
          rcases insF_o k with k | k
          · exact k
          · cases k
        · rintro rfl
          exact ⟨ht, insF_t _ _⟩
    refine ⟨?_, ?_, ?_, ?_, ⟨r', ?_⟩, ?_⟩
    · rw [byLen_mem, flt_mem, ← hsing]
      exact ⟨e1, e2⟩
    · rw [hav_is ht]
      exact Mh.hs_self h7
    · rw [eg]
      exact (sortR_is lnd llen lm).symm
    · by_cases hz : r' = 0
      · refine .inr ?_
        rw [List.length_map]
        cases e : onesF t ((every n).filter (topP q r)) with
        | nil => exact Nat.zero_le _
        | cons a rest =>
          cases rest with
          | nil => exact Nat.le_refl _
          | cons b rest =>
            rw [e] at lnd llen
            have l1 := llen (lesF t a) (by simp)
            have l2 := llen (lesF t b) (by simp)
            rw [hz] at l1 l2
            have z1 := List.eq_nil_of_length_eq_zero l1
            have z2 := List.eq_nil_of_length_eq_zero l2
            simp [z1, z2] at lnd
      · refine .inl fun l hl z => hz ?_
        rw [← llen l hl, z]
        rfl
    · rw [eg]
      refine ents_of h1 h7 flt_nd (fun l hl => ⟨(flt_mem.mp hl).1, (topP_t.mp (flt_mem.mp hl).2).2⟩) (by omega)
    · rw [eg]
      obtain ⟨l, k1, k2, k3⟩ := Rh.ex
      exact List.ne_nil_of_mem (flt_mem.mpr ⟨k1, topP_t.mpr ⟨k2, k3⟩⟩)
  · obtain ⟨top, htop⟩ := List.exists_mem_of_ne_nil _ ne
    obtain ⟨⟨k1, k2, k3⟩, k4⟩ := otm.mp htop
    have Mw := M.wit ht
    have Rw : Rk n (witP q t) r := ⟨fun l hl ql => R.le l hl (witP_t.mp ql).2, top, k1, witP_t.mpr ⟨k4, k2⟩, k3⟩
    refine ⟨?_, ?_, r, ents_of h1 h7 otnd (fun l hl => ⟨(otm.mp hl).1.1, (otm.mp hl).1.2.2⟩) (by omega)⟩
    · rw [wit_is]
      exact Mw.hs_self h7
    · rw [wit_is, gre_self Rw]
      unfold othF
      rw [List.filter_filter]
      refine List.filter_congr fun l _ => ?_
      unfold topP witP
      rw [Bool.and_assoc]
  · have : ∀ l ∈ (every n).filter (topP q r), decide (t ∈ l) = false := fun l hl => by
      rw [decide_eq_false_iff_not]
      intro z
      have : l ∈ onesF t ((every n).filter (topP q r)) := List.mem_filter.mpr ⟨hl, by simpa using z⟩
      rw [e] at this
      cases this
    unfold othF
    rw [List.filter_eq_self]
    intro l hl
    rw [this l hl]
    rfl
  · obtain ⟨r', hr, e1, e2, Mh, Rh, eg⟩ := one ne1
    rw [eg]
    have oin : ∀ l ∈ onesF t ((every n).filter (topP q r)), l ∈ every n := fun l hl => (onm.mp hl).1.1
    have oin2 : ∀ l ∈ othF t ((every n).filter (topP q r)), l ∈ every n := fun l hl => (otm.mp hl).1.1
    have pkh : (kyF n ((every n).filter (topP (havP n q t) r'))).Perm (((every n).filter (topP (havP n q t) r')).map (cntF n)) := sortR_perm _
    have pA0 : ((kyF n ((every n).filter (topP (havP n q t) r'))).map (addF (aloF n t))).Perm ((onesF t ((every n).filter (topP q r))).map (cntF n)) := by
      refine (pkh.map _).trans ?_
      rw [List.map_map]
      have e : ((every n).filter (topP (havP n q t) r')).map (addF (aloF n t) ∘ cntF n) = (((every n).filter (topP (havP n q t) r')).map (addT n t)).map (cntF n) := by
        rw [List.map_map]
        refine List.map_congr_left fun l hl => ?_
        obtain ⟨a1, a2, _⟩ := (hvm hr).mp hl
        exact add_cnt a1 ht a2 hnil
      rw [e]
      exact (hap hr).map _
    have pA := (sortR_perm ((kyF n ((every n).filter (topP (havP n q t) r'))).map (addF (aloF n t)))).trans pA0
    have pO : (kyF n (othF t ((every n).filter (topP q r)))).Perm ((othF t ((every n).filter (topP q r))).map (cntF n)) := sortR_perm _
    have pT : (sortR ((kyF n ((every n).filter (topP (havP n q t) r'))).map (addF (aloF n t))) ++ kyF n (othF t ((every n).filter (topP q r)))).Perm (((every n).filter (topP q r)).map (cntF n)) := by
      refine (pA.append pO).trans ?_
      rw [← List.map_append]
      exact (perm_flt (fun l => decide (t ∈ l)) _).map _
    have tcn := cnt_nd tnd fun l hl => (tin l hl).1
    have tl := sub_len h7 tnd fun l hl => (tin l hl).1
    have osum : ∀ k ∈ (onesF t ((every n).filter (topP q r))).map (cntF n), k.sum = (r : Int) := fun k hk => by
      obtain ⟨l, hl, rfl⟩ := List.mem_map.mp hk
      rw [cnt_sum (oin l hl), (onm.mp hl).1.2.2]
    have osum2 : ∀ k ∈ (othF t ((every n).filter (topP q r))).map (cntF n), k.sum = (r : Int) := fun k hk => by
      obtain ⟨l, hl, rfl⟩ := List.mem_map.mp hk
      rw [cnt_sum (oin2 l hl), (otm.mp hl).1.2.2]
    have hne : kyF n ((every n).filter (topP (havP n q t) r')) ≠ [] := by
      refine ne_perm pkh ?_
      obtain ⟨l, k1, k2, k3⟩ := Rh.ex
      exact List.ne_nil_of_mem (List.mem_map.mpr ⟨l, flt_mem.mpr ⟨k1, topP_t.mpr ⟨k2, k3⟩⟩, rfl⟩)
    have one1 : (onesF t ((every n).filter (topP q r))).map (cntF n) ≠ [] := fun z => ne1 (List.map_eq_nil_iff.mp z)
    have oth1 : (othF t ((every n).filter (topP q r))).map (cntF n) ≠ [] := fun z => ne2 (List.map_eq_nil_iff.mp z)
    have alosum : (aloF n t).sum = 1 := by
      rw [alo_is ht, cnt_sum addT_ev, addT_len hnil ht (by simp)]
      rfl
    refine ⟨?_, hne, fun m hm => ?_, pA0.nodup_iff.mpr (cnt_nd ond oin), ?_, ?_, ne_perm pA one1, pT.nodup_iff.mpr tcn, fun k hk z => ?_, ?_, ?_, ?_, ?_, fun k hk => ?_⟩
    · rw [alo_is ht]
      exact ents_of (ls := [addT n t []]) (d := 1) h1 h7 (by simp) (fun l hl => by rw [List.mem_singleton.mp hl]; exact ⟨addT_ev, addT_len hnil ht (by simp)⟩) (by omega)
    · obtain ⟨l, _, rfl⟩ := List.mem_map.mp (pkh.mem_iff.mp hm)
      exact cnt_len
    · have := pkh.length_eq
      rw [List.length_map] at this
      have := sub_len (n := n) h7 (flt_nd (q := topP (havP n q t) r')) fun l hl => (flt_mem.mp hl).1
      omega
    · rw [alosum, sum_head (d := (r' : Int)) (fun k hk => ?_) hne]
      · omega
      · obtain ⟨l, hl, rfl⟩ := List.mem_map.mp (pkh.mem_iff.mp hk)
        rw [cnt_sum (flt_mem.mp hl).1, (topP_t.mp (flt_mem.mp hl).2).2]
    · obtain ⟨l, _, e⟩ := List.mem_map.mp (pT.mem_iff.mp hk)
      have := cnt_len (n := n) (l := l)
      rw [e, z] at this
      simp at this
      omega
    · have := pT.length_eq
      rw [List.length_map] at this
      omega
    · exact ((pA.map hashK).nodup_iff).mpr (hash_nd2 h1 h5 ond oin)
    · rw [sum_head (d := (r : Int)) (fun k hk => osum k (pA.mem_iff.mp hk)) (ne_perm pA one1), sum_head (d := (r : Int)) (fun k hk => osum2 k (pO.mem_iff.mp hk)) (ne_perm pO oth1)]
    · have e3 := ((sortR_perm (sortR ((kyF n ((every n).filter (topP (havP n q t) r'))).map (addF (aloF n t))) ++ kyF n (othF t ((every n).filter (topP q r))))).trans pT).length_eq
      have e4 := (sortR_perm (((every n).filter (topP q r)).map (cntF n))).length_eq
      rw [e3]
      exact e4.symm
    · exact (sortR_perm _).mem_iff.mpr (pT.mem_iff.mp ((sortR_perm _).mem_iff.mp hk))
/-! ### the mirror -/
def mirP (tops : List (List Int)) (l : List Int) : Bool := tops.any fun top => !(l.any fun t => decide (t ∈ top))
theorem mirP_t {tops : List (List Int)} {l : List Int} : mirP tops l = true ↔ ∃ top ∈ tops, ∀ t ∈ l, t ∉ top := by
  unfold mirP
  rw [List.any_eq_true]
  constructor
  · rintro ⟨top, h1, h2⟩
    refine ⟨top, h1, fun t ht z => ?_⟩
    rw [Bool.not_eq_true'] at h2
    have := List.any_eq_false.mp h2 t ht
    simp [z] at this
  · rintro ⟨top, h1, h2⟩
    refine ⟨top, h1, ?_⟩
    rw [Bool.not_eq_true', List.any_eq_false]
    intro t ht
    simpa using h2 t ht
def bacF (n : Nat) (top : List Int) : List Int := (ir n).filter fun t => !decide (t ∈ top)
structure MR (n : Nat) (lots tops : List (List Int)) : Prop where
  hs : Hs n (mirF n lots)
  gre : greF (mirF n lots) = sortR (tops.map (bacF n))
theorem Ho.mr (M : Ho n q) (h7 : n ≤ 7) {r : Nat} (R : Rk n q r) : MR n ((every n).filter q) ((every n).filter (topP q r)) := by
  have ei : mirF n ((every n).filter q) = (every n).filter (mirP ((every n).filter (topP q r))) := by
    unfold mirF
    rw [gre_self R]
    rfl
  have Mm : Ho n (mirP ((every n).filter (topP q r))) := by
    refine (M.mir (ir_nd n) (r := r) R.le' ?_).iff fun f => ?_
    · obtain ⟨l, k1, k2, k3⟩ := R.ex
      exact ⟨inF l, by show q (fl n (inF l)) = true; rw [← every_in k1]; exact k2, by rw [← every_cnt k1]; exact k3⟩
    · rw [mirP_t]
      constructor
      · rintro ⟨g, g1, g2, g3⟩
        refine ⟨fl n g, flt_mem.mpr ⟨every_fl n g, topP_t.mpr ⟨g1, by rw [fl_len]; exact g2⟩⟩, fun t ht z => ?_⟩
        have := g3 t (fl_mem.mp ht).1 (fl_mem.mp ht).2
        rw [(fl_mem.mp z).2] at this
        cases this
      · rintro ⟨top, h1, h2⟩
        obtain ⟨k1, k2⟩ := flt_mem.mp h1
        obtain ⟨k3, k4⟩ := topP_t.mp k2
        exact ⟨inF top, by show q (fl n (inF top)) = true; rw [← every_in k1]; exact k3, by rw [← every_cnt k1]; exact k4, fun t ht hf => inF_f.mpr (h2 t (fl_mem.mpr ⟨ht, hf⟩))⟩
  have bl : ∀ top ∈ every n, (bacF n top).length + top.length = n := fun top ht => by
    have h := cnt_not (inF top) (ir n)
    rw [ir_len, ← every_cnt ht] at h
    have e : (bacF n top).length = (ir n).countP fun x => !inF top x := List.countP_eq_length_filter.symm
    omega
  have bev : ∀ top, bacF n top ∈ every n := fun top => every_fl n fun t => !decide (t ∈ top)
  have bmem : ∀ {top t}, t ∈ bacF n top ↔ t ∈ ir n ∧ t ∉ top := fun {top t} => by
    unfold bacF
    rw [List.mem_filter]
    simp
  have dis : ∀ l ∈ every n, ∀ top ∈ every n, (∀ t ∈ l, t ∉ top) → l.length ≤ (bacF n top).length := fun l hl top ht h => by
    rw [every_cnt hl, every_cnt (bev top)]
    exact cnt_le fun t hi hf => inF_t.mpr (bmem.mpr ⟨hi, h t (inF_t.mp hf)⟩)
  have Rm : Rk n (mirP ((every n).filter (topP q r))) (n - r) := by
    obtain ⟨l, k1, k2, k3⟩ := R.ex
    refine ⟨fun m hm qm => ?_, bacF n l, bev l, mirP_t.mpr ⟨l, flt_mem.mpr ⟨k1, topP_t.mpr ⟨k2, k3⟩⟩, fun t ht => (bmem.mp ht).2⟩, ?_⟩
    · obtain ⟨top, h1, h2⟩ := mirP_t.mp qm
      obtain ⟨a1, a2⟩ := flt_mem.mp h1
      have := dis m hm top a1 h2
      have := bl top a1
      have := (topP_t.mp a2).2
      omega
    · have := bl l k1
      omega
  refine ⟨?_, ?_⟩
  · rw [ei]
    exact Mm.hs_self h7
  · rw [ei, gre_self Rm]
    symm
    refine sortR_is (d := n - r) (nd_map flt_nd fun a ha b hb e => ?_) (fun l hl => ?_) fun l => ?_
    · refine every_eq (flt_mem.mp ha).1 (flt_mem.mp hb).1 fun t ht => ?_
      have h1 := bmem (top := a) (t := t)
      rw [e, bmem] at h1
      constructor
      · intro z
        refine Classical.byContradiction fun no => ?_
        exact (h1.mp ⟨ht, no⟩).2 z
      · intro z
        refine Classical.byContradiction fun no => ?_
        exact (h1.mpr ⟨ht, no⟩).2 z
    · obtain ⟨top, h1, rfl⟩ := List.mem_map.mp hl
      obtain ⟨a1, a2⟩ := flt_mem.mp h1
      have := bl top a1
      have := (topP_t.mp a2).2
      omega
    · rw [List.mem_map, topP_t, mirP_t]
      constructor
      · rintro ⟨top, h1, rfl⟩
        obtain ⟨a1, a2⟩ := flt_mem.mp h1
        have := bl top a1
        have := (topP_t.mp a2).2
        exact ⟨bev top, ⟨top, h1, fun t ht => (bmem.mp ht).2⟩, by omega⟩
      · rintro ⟨h1, ⟨top, h2, h3⟩, h4⟩
        obtain ⟨a1, a2⟩ := flt_mem.mp h2
        refine ⟨top, h2, ?_⟩
        have b1 := bl top a1
        have b2 := (topP_t.mp a2).2
        have hs := cnt_same (U := ir n) (f := inF l) (g := inF (bacF n top)) (fun t hi hf => inF_t.mpr (bmem.mpr ⟨hi, h3 t (inF_t.mp hf)⟩)) (by rw [← every_cnt h1, ← every_cnt (bev top)]; omega)
        refine every_eq (bev top) h1 fun t ht => ⟨fun z => inF_t.mp (hs t ht (inF_t.mpr z)), fun z => bmem.mpr ⟨ht, h3 t z⟩⟩
end
end Gl

namespace Gl
/-! ### the four kinds are houses -/
theorem her_of {U : List Int} {P : Fs → Prop} (hU : U.Nodup) (ext : ∀ f g, P g → (∀ t ∈ U, f t = g t) → P f) (one : ∀ g t, P g → t ∈ U → g t = true → P (delF g t)) : ∀ (k : Nat) (f g : Fs), U.countP g ≤ U.countP f + k → P g → (∀ t ∈ U, f t = true → g t = true) → P f
  | 0, f, g, hk, pg, s => ext f g pg fun t ht => by
    have h := cnt_same s (by omega) t ht
    cases e : f t with
    | true => exact (s t ht e).symm
    | false =>
      cases e2 : g t with
      | false => rfl
      | true => rw [h e2] at e; cases e
  | k + 1, f, g, hk, pg, s => by
    by_cases h : U.countP f < U.countP g
    · obtain ⟨t, ht, k1, k2⟩ := cnt_ex h
      have h3 := cnt_del hU ht k1
      refine her_of hU ext one k f (delF g t) (by omega) (one g t pg ht k1) fun x hx hf => delF_i (s x hx hf) fun e => ?_
      rw [e, k2] at hf
      cases hf
    · exact her_of hU ext one k f g (by omega) pg s
theorem cut_at {U : List Int} {t : Int} (hU : U.Nodup) (ht : t ∈ U) : ∃ U1 U2, U = U1 ++ t :: U2 ∧ t ∉ U1 ∧ t ∉ U2 := by
  obtain ⟨U1, U2, rfl⟩ := List.append_of_mem ht
  have h := List.nodup_append.mp hU
  have h2 := List.nodup_cons.mp h.2.1
  exact ⟨U1, U2, rfl, fun z => h.2.2 t z t List.mem_cons_self rfl, h2.1⟩
theorem flt_at {U : List Int} {t : Int} (hU : U.Nodup) (ht : t ∈ U) (f g : Fs) (ft : f t = false) (gt : g t = true) (h : ∀ x, x ≠ t → f x = g x) : ∃ l1 l2, U.filter f = l1 ++ l2 ∧ U.filter g = l1 ++ t :: l2 := by
  obtain ⟨U1, U2, e, n1, n2⟩ := cut_at hU ht
  have h1 : ∀ V : List Int, t ∉ V → V.filter g = V.filter f := fun V hV => List.filter_congr fun x hx => (h x fun z => hV (z ▸ hx)).symm
  refine ⟨U1.filter f, U2.filter f, ?_, ?_⟩
  · rw [e, List.filter_append, List.filter_cons, if_neg (by simp [ft])]
  · rw [e, List.filter_append, List.filter_cons, if_pos gt, h1 U1 n1, h1 U2 n2]
theorem ho_u (n : Nat) (size : Int) (h : 0 ≤ size) : Ho n (hU size) := by
  have e : ∀ f, (hU size (fl n f) = true) ↔ (((ir n).countP f : Nat) : Int) ≤ size := fun f => by
    unfold hU
    rw [decide_eq_true_iff, fl_len]
  refine Mat.iff (P := fun f => (((ir n).countP f : Nat) : Int) ≤ size) ⟨?_, fun f g hg s => ?_, fun f g hf hg hc => ?_⟩ fun f => (e f).symm
  · have : (ir n).countP (fun _ => false) = 0 := by simp
    rw [this]
    exact h
  · have := cnt_le s
    omega
  · obtain ⟨t, ht, k1, k2⟩ := cnt_ex hc
    refine ⟨t, ht, k2, k1, ?_⟩
    rw [cnt_ins (ir_nd n) ht k2]
    omega
theorem ho_k (n : Nat) (kinds caps : List Int) (hl : kinds.length = n) (hk : ∀ k ∈ kinds, 0 ≤ k ∧ k < 3) (hc3 : caps.length = 3) (hc : ∀ c ∈ caps, 0 ≤ c) : Ho n (hK n kinds caps) := by
  have kd : ∀ t ∈ ir n, 0 ≤ kinds.getD t.toNat 0 ∧ kinds.getD t.toNat 0 < 3 := fun t ht => by
    have := ir_mem.mp ht
    rw [List.getD_eq_getElem?_getD, List.getElem?_eq_getElem (by omega)]
    exact hk _ (List.getElem_mem _)
  have ck : ∀ (f : Fs) (k : Int), cntK kinds (fl n f) k = (ir n).countP fun t => f t && decide (kinds.getD t.toNat 0 = k) := fun f k => by
    unfold cntK fl
    rw [List.filter_filter, List.countP_eq_length_filter]
    congr 1
    refine List.filter_congr fun x _ => Bool.and_comm _ _
  have e : ∀ f, (hK n kinds caps (fl n f) = true) ↔ ∀ k < 3, (((ir n).countP fun t => f t && decide (kinds.getD t.toNat 0 = (k : Nat)) : Nat) : Int) ≤ caps.getD k 0 := fun f => by
    unfold hK
    rw [Bool.not_eq_true', decide_eq_false_iff_not, List.mem_filter]
    unfold badK
    constructor
    · intro h k hk3
      refine Classical.byContradiction fun no => h ⟨every_fl n f, ?_⟩
      rw [Bool.not_eq_true', decide_eq_false_iff_not, List.map_eq_nil_iff, List.filter_eq_nil_iff]
      intro h2
      have := h2 k (List.mem_range.mpr hk3)
      rw [decide_eq_true_iff, ck] at this
      omega
    · rintro h ⟨_, h2⟩
      rw [Bool.not_eq_true', decide_eq_false_iff_not, List.map_eq_nil_iff, List.filter_eq_nil_iff] at h2
      refine h2 fun k hk3 => ?_
      have := h k (List.mem_range.mp hk3)
      rw [decide_eq_true_iff, ck]
      omega
  refine Mat.iff (P := fun f => ∀ k < 3, (((ir n).countP fun t => f t && decide (kinds.getD t.toNat 0 = (k : Nat)) : Nat) : Int) ≤ caps.getD k 0) ⟨fun k hk3 => ?_, fun f g hg s k hk3 => ?_, fun f g hf hg hlt => ?_⟩ fun f => (e f).symm
  · have : ((ir n).countP fun t => (fun _ => false : Fs) t && decide (kinds.getD t.toNat 0 = (k : Nat))) = 0 := by simp
    rw [this, List.getD_eq_getElem?_getD, List.getElem?_eq_getElem (by omega)]
    exact hc _ (List.getElem_mem _)
  · have h1 := hg k hk3
    have h2 : ((ir n).countP fun t => f t && decide (kinds.getD t.toNat 0 = (k : Nat))) ≤ ((ir n).countP fun t => g t && decide (kinds.getD t.toNat 0 = (k : Nat))) := cnt_le fun t ht h => by
      (simp only [Bool.and_eq_true] at h ⊢)
      exact ⟨s t ht h.1, h.2⟩
    omega
  · have split : ∀ f : Fs, (ir n).countP f = ((ir n).countP fun t => f t && decide (kinds.getD t.toNat 0 = (0 : Nat))) + (((ir n).countP fun t => f t && decide (kinds.getD t.toNat 0 = (1 : Nat))) + ((ir n).countP fun t => f t && decide (kinds.getD t.toNat 0 = (2 : Nat)))) := fun f => by
      rw [cnt_cut f (fun t => decide (kinds.getD t.toNat 0 = (0 : Nat))) (ir n)]
      rw [cnt_cut (fun x => f x && !decide (kinds.getD x.toNat 0 = (0 : Nat))) (fun t => decide (kinds.getD t.toNat 0 = (1 : Nat))) (ir n)]
      congr 2
      · refine cnt_eq fun t _ => ?_
        by_cases a : kinds.getD t.toNat 0 = (1 : Nat)
        · rw [a]
          cases f t <;> rfl
        · rw [decide_eq_false a, Bool.and_false, Bool.and_false]
      · refine cnt_eq fun t ht => ?_
        have := kd t ht
        have h3 : kinds.getD t.toNat 0 = 0 ∨ kinds.getD t.toNat 0 = 1 ∨ kinds.getD t.toNat 0 = 2 := by omega
        rcases h3 with a | a | a <;> rw [a] <;> cases f t <;> rfl
    have hex : ∃ k < 3, ((ir n).countP fun t => f t && decide (kinds.getD t.toNat 0 = (k : Nat))) < ((ir n).countP fun t => g t && decide (kinds.getD t.toNat 0 = (k : Nat))) := by
      have h1 := split f
      have h2 := split g
      refine Classical.byContradiction fun no => ?_
      have n0 : ¬ _ := fun z => no ⟨0, by omega, z⟩
      have n1 : ¬ _ := fun z => no ⟨1, by omega, z⟩
      have n2 : ¬ _ := fun z => no ⟨2, by omega, z⟩
      omega
    obtain ⟨k, hk3, hlt2⟩ := hex
    obtain ⟨t, ht, k1, k2⟩ := cnt_ex hlt2
    simp only [Bool.and_eq_true, decide_eq_true_iff] at k1
    have k2' : (f t && decide (kinds.getD t.toNat 0 = (k : Nat))) = false := k2
    have ft : f t = false := bool_f fun z => by rw [z, decide_eq_true k1.2] at k2'; cases k2'
    refine ⟨t, ht, ft, k1.1, fun j hj => ?_⟩
    by_cases ej : j = k
    · subst ej
      have h1 := hg j hj
      have h2 : ((ir n).countP fun x => insF f t x && decide (kinds.getD x.toNat 0 = (j : Nat))) = ((ir n).countP fun x => f x && decide (kinds.getD x.toNat 0 = (j : Nat))) + 1 := by
        rw [← cnt_ins (f := fun x => f x && decide (kinds.getD x.toNat 0 = (j : Nat))) (ir_nd n) ht (by simp [ft])]
        refine cnt_eq fun x _ => ?_
        unfold insF
        by_cases a : x = t
        · rw [a, k1.2]
          simp
        · simp [a]
      omega
    · have h2 : ((ir n).countP fun x => insF f t x && decide (kinds.getD x.toNat 0 = (j : Nat))) = ((ir n).countP fun x => f x && decide (kinds.getD x.toNat 0 = (j : Nat))) := by
        refine cnt_eq fun x _ => ?_
        unfold insF
        by_cases a : x = t
        · have : ¬ kinds.getD x.toNat 0 = (j : Nat) := by
            rw [a, k1.2]
            omega
          rw [decide_eq_false this, Bool.and_false, Bool.and_false]
        · simp [a]
      have := hf j hj
      omega
/-! vectors -/
abbrev V3 : Type := Int × Int × Int
def crs (a b : V3) : V3 := (a.2.1 * b.2.2 - a.2.2 * b.2.1, a.2.2 * b.1 - a.1 * b.2.2, a.1 * b.2.1 - a.2.1 * b.1)
def dt3 (a b : V3) : Int := a.1 * b.1 + a.2.1 * b.2.1 + a.2.2 * b.2.2
def indV : List V3 → Prop
  | [] => True
  | [a] => a ≠ (0, 0, 0)
  | [a, b] => crs a b ≠ (0, 0, 0)
  | [a, b, c] => dt3 (crs a b) c ≠ 0
  | _ => False
theorem v3_ne {a : V3} : a ≠ (0, 0, 0) ↔ a.1 ≠ 0 ∨ a.2.1 ≠ 0 ∨ a.2.2 ≠ 0 := by
  obtain ⟨x, y, z⟩ := a
  simp only [ne_eq, Prod.mk.injEq]
  omega
theorem mul0 {a b : Int} (h : a * b = 0) (ha : a ≠ 0) : b = 0 := by
  rcases Int.mul_eq_zero.mp h with h | h
  · exact absurd h ha
  · exact h
theorem crs_z {a : V3} {b : V3} (h : a = (0, 0, 0)) : crs a b = (0, 0, 0) := by subst h; simp [crs]
theorem crs_r {a : V3} {b : V3} (h : b = (0, 0, 0)) : crs a b = (0, 0, 0) := by subst h; simp [crs]
theorem par {a b c : V3} (ha : a ≠ (0, 0, 0)) (h1 : crs a b = (0, 0, 0)) (h2 : crs a c = (0, 0, 0)) : crs b c = (0, 0, 0) := by
  obtain ⟨a1, a2, a3⟩ := a
  obtain ⟨b1, b2, b3⟩ := b
  obtain ⟨c1, c2, c3⟩ := c
  have ha' := v3_ne.mp ha
  simp only [crs, Prod.mk.injEq] at h1 h2 ha' ⊢
  obtain ⟨p1, p2, p3⟩ := h1
  obtain ⟨q1, q2, q3⟩ := h2
  rcases ha' with h | h | h
  · exact ⟨mul0 (a := a1) (by grind) h, mul0 (a := a1) (by grind) h, mul0 (a := a1) (by grind) h⟩
  · exact ⟨mul0 (a := a2) (by grind) h, mul0 (a := a2) (by grind) h, mul0 (a := a2) (by grind) h⟩
  · exact ⟨mul0 (a := a3) (by grind) h, mul0 (a := a3) (by grind) h, mul0 (a := a3) (by grind) h⟩
theorem flat {m c d e : V3} (hm : m ≠ (0, 0, 0)) (h1 : dt3 m c = 0) (h2 : dt3 m d = 0) (h3 : dt3 m e = 0) : dt3 (crs c d) e = 0 := by
  obtain ⟨m1, m2, m3⟩ := m
  obtain ⟨c1, c2, c3⟩ := c
  obtain ⟨d1, d2, d3⟩ := d
  obtain ⟨e1, e2, e3⟩ := e
  have hm' := v3_ne.mp hm
  simp only [crs, dt3] at h1 h2 h3 hm' ⊢
  rcases hm' with h | h | h
  · exact mul0 (a := m1) (by grind) h
  · exact mul0 (a := m2) (by grind) h
  · exact mul0 (a := m3) (by grind) h
theorem ind_del : ∀ (l1 l2 : List V3) (t : V3), indV (l1 ++ t :: l2) → indV (l1 ++ l2)
  | [], [], _, _ => trivial
  | [], [b], t, h => fun z => h (crs_r z)
  | [a], [], t, h => fun z => h (crs_z z)
  | [], [b, c], t, h => fun z => h (by
      obtain ⟨a1, a2, a3⟩ := t
      obtain ⟨b1, b2, b3⟩ := b
      obtain ⟨c1, c2, c3⟩ := c
      simp only [crs, dt3, Prod.mk.injEq] at z ⊢
      obtain ⟨p1, p2, p3⟩ := z
      grind)
  | [a], [c], t, h => fun z => h (by
      obtain ⟨a1, a2, a3⟩ := t
      obtain ⟨b1, b2, b3⟩ := a
      obtain ⟨c1, c2, c3⟩ := c
      simp only [crs, dt3, Prod.mk.injEq] at z ⊢
      obtain ⟨p1, p2, p3⟩ := z
      grind)
  | [a, b], [], t, h => fun z => h (by
      show dt3 (crs a b) t = 0
      have z' : crs a b = (0, 0, 0) := z
      rw [z']
      simp [dt3])
  | [], _ :: _ :: _ :: _, _, h => h.elim
  | [_], _ :: _ :: _, _, h => h.elim
  | [_, _], _ :: _, _, h => h.elim
  | _ :: _ :: _ :: _, _, _, h => by
    rename_i a b c l1 l2 t
    cases l1 with
    | nil => exact h.elim
    | cons d l1 => exact h.elim
theorem crs_sw (a b : V3) (h : crs a b = (0, 0, 0)) : crs b a = (0, 0, 0) := by
  obtain ⟨a1, a2, a3⟩ := a
  obtain ⟨b1, b2, b3⟩ := b
  simp only [crs, Prod.mk.injEq] at h ⊢
  obtain ⟨p1, p2, p3⟩ := h
  refine ⟨by grind, by grind, by grind⟩
theorem det_1 (a b t : V3) : dt3 (crs t a) b = dt3 (crs a b) t := by
  obtain ⟨a1, a2, a3⟩ := a
  obtain ⟨b1, b2, b3⟩ := b
  obtain ⟨c1, c2, c3⟩ := t
  simp only [crs, dt3]
  grind
theorem det_2 (a b t : V3) : dt3 (crs a t) b = 0 - dt3 (crs a b) t := by
  obtain ⟨a1, a2, a3⟩ := a
  obtain ⟨b1, b2, b3⟩ := b
  obtain ⟨c1, c2, c3⟩ := t
  simp only [crs, dt3]
  grind
theorem ind_up0 : ∀ o : List V3, indV o → 0 < o.length → ∃ t ∈ o, t ≠ (0, 0, 0)
  | [a], h, _ => ⟨a, by simp, h⟩
  | [a, b], h, _ => ⟨a, by simp, ind_del [a] [] b h⟩
  | [a, b, c], h, _ => ⟨a, by simp, ind_del [a] [] b (ind_del [a, b] [] c h)⟩
  | _ :: _ :: _ :: _ :: _, h, _ => h.elim
theorem ind_up1 (a : V3) (ha : a ≠ (0, 0, 0)) : ∀ o : List V3, indV o → 1 < o.length → ∃ t ∈ o, crs a t ≠ (0, 0, 0)
  | [b, c], h, _ => by
    by_cases k : crs a b = (0, 0, 0)
    · exact ⟨c, by simp, fun k2 => h (par ha k k2)⟩
    · exact ⟨b, by simp, k⟩
  | [b, c, d], h, _ => by
    have h' : crs b c ≠ (0, 0, 0) := ind_del [b, c] [] d h
    by_cases k : crs a b = (0, 0, 0)
    · exact ⟨c, by simp, fun k2 => h' (par ha k k2)⟩
    · exact ⟨b, by simp, k⟩
  | _ :: _ :: _ :: _ :: _, h, _ => h.elim
theorem ind_up2 (a b : V3) (hab : crs a b ≠ (0, 0, 0)) : ∀ o : List V3, indV o → 2 < o.length → ∃ t ∈ o, dt3 (crs a b) t ≠ 0
  | [c, d, e], h, _ => by
    by_cases k1 : dt3 (crs a b) c = 0
    · by_cases k2 : dt3 (crs a b) d = 0
      · exact ⟨e, by simp, fun k3 => h (flat hab k1 k2 k3)⟩
      · exact ⟨d, by simp, k2⟩
    · exact ⟨c, by simp, k1⟩
  | _ :: _ :: _ :: _ :: _, h, _ => h.elim
theorem ind_up : ∀ (l o : List V3), indV l → indV o → l.length < o.length → ∃ t ∈ o, ∀ l1 l2, l = l1 ++ l2 → indV (l1 ++ t :: l2)
  | [], o, _, ho, hl => by
    obtain ⟨t, ht, k⟩ := ind_up0 o ho hl
    refine ⟨t, ht, fun l1 l2 e => ?_⟩
    (obtain ⟨rfl, rfl⟩ := List.append_eq_nil_iff.mp e.symm)
    exact k
  | [a], o, ha, ho, hl => by
    obtain ⟨t, ht, k⟩ := ind_up1 a ha o ho hl
    refine ⟨t, ht, fun l1 l2 e => ?_⟩
    match l1, l2, e with
    | [], [_], rfl => exact fun z => k (crs_sw _ _ z)
    | [_], [], rfl => exact k
  | [a, b], o, hab, ho, hl => by
    obtain ⟨t, ht, k⟩ := ind_up2 a b hab o ho hl
    refine ⟨t, ht, fun l1 l2 e => ?_⟩
    match l1, l2, e with
    | [], [_, _], rfl => exact fun z => k (by rw [← det_1]; exact z)
    | [_], [_], rfl => exact fun z => k (by have h := det_2 a b t; have z' : dt3 (crs a t) b = 0 := z; omega)
    | [_, _], [], rfl => exact k
  | [_, _, _], o, _, ho, hl => by
    match o, ho, hl with
    | _ :: _ :: _ :: _ :: _, h, _ => exact h.elim
  | _ :: _ :: _ :: _ :: _, _, h, _, _ => h.elim
end Gl

namespace Gl
theorem detL_cons (n : Nat) (x : Int) (r : List Int) (rest : List (List Int)) (k : Nat) (sg f : Int) : detL n (x :: r) rest k sg f = detL n r rest (k + 1) (0 - sg) (f + sg * x * detF n (rest.map fun row => row.take k ++ row.drop (k + 1))) := by
  rw [detL]
  by_cases h : x = 0
  · rw [if_pos h, h, Int.mul_zero, Int.zero_mul, Int.add_zero]
  · rw [if_neg h]
theorem detL_nil (n : Nat) (rest : List (List Int)) (k : Nat) (sg f : Int) : detL n [] rest k sg f = f := by rw [detL]
theorem det1 (a : Int) : detF 1 [[a]] = a := by
  simp [detF, detL_cons, detL_nil]
theorem det2 (a b c d : Int) : detF 2 [[a, b], [c, d]] = a * d - b * c := by
  simp [detF, detL_cons, detL_nil]
  grind
theorem det3 (a b c d e f g h i : Int) : detF 3 [[a, b, c], [d, e, f], [g, h, i]] = a * (e * i - f * h) - b * (d * i - f * g) + c * (d * h - e * g) := by
  simp [detF, detL_cons, detL_nil]
  grind
def vc (r : List Int) : V3 := (r.getD 0 0, r.getD 1 0, r.getD 2 0)
theorem dot_vc {w : Nat} (hw : w ≤ 3) : ∀ {r m : List Int}, r.length = w → m.length = w → dotF r m = dt3 (vc r) (vc m)
  | [], [], _, _ => rfl
  | [a], [b], _, _ => by simp [dotF, dt3, vc]
  | [a, a2], [b, b2], _, _ => by simp [dotF, dt3, vc]
  | [a, a2, a3], [b, b2, b3], _, _ => by simp [dotF, dt3, vc]; omega
  | _ :: _ :: _ :: _ :: _, _, h, _ => by simp at h; omega
  | _, _ :: _ :: _ :: _ :: _, _, h => by simp at h; omega
  | [], _ :: _, h, k => by simp at h k; omega
  | [_], [], h, k => by simp at h k; omega
  | [_], [_, _], h, k => by simp at h k; omega
  | [_], [_, _, _], h, k => by simp at h k; omega
  | [_, _], [], h, k => by simp at h k; omega
  | [_, _], [_], h, k => by simp at h k; omega
  | [_, _], [_, _, _], h, k => by simp at h k; omega
  | [_, _, _], [], h, k => by simp at h k; omega
  | [_, _, _], [_], h, k => by simp at h k; omega
  | [_, _, _], [_, _], h, k => by simp at h k; omega
theorem sq3 {x y z : Int} (h : x * x + y * y + z * z = 0) : x = 0 ∧ y = 0 ∧ z = 0 := by
  have sq : ∀ a : Int, 0 ≤ a * a := fun a => by
    rcases Int.le_total 0 a with h | h
    · exact Int.mul_nonneg h h
    · have := Int.mul_nonneg (Int.neg_nonneg.mpr h) (Int.neg_nonneg.mpr h)
      rw [Int.neg_mul_neg] at this
      exact this
  have h1 := sq x
  have h2 := sq y
  have h3 := sq z
  have z0 : ∀ a : Int, a * a = 0 → a = 0 := fun a h => by
    rcases Int.mul_eq_zero.mp h with h | h <;> exact h
  exact ⟨z0 x (by omega), z0 y (by omega), z0 z (by omega)⟩
theorem gram_ind {w : Nat} (hw : w ≤ 3) : ∀ rows : List (List Int), rows.length ≤ 3 → (∀ r ∈ rows, r.length = w) → (¬ detF rows.length (gram rows) = 0 ↔ indV (rows.map vc))
  | [], _, _ => by
    show (¬ detF 0 [] = 0) ↔ True
    simp [detF]
  | [r], _, h => by
    have e : gram [r] = [[dotF r r]] := rfl
    rw [e, show [r].length = 1 from rfl, det1, dot_vc hw (h r (by simp)) (h r (by simp))]
    show _ ↔ vc r ≠ (0, 0, 0)
    generalize vc r = a
    obtain ⟨a1, a2, a3⟩ := a
    refine not_congr ⟨fun z => ?_, fun z => ?_⟩
    · obtain ⟨rfl, rfl, rfl⟩ := sq3 z
      rfl
    · simp only [Prod.mk.injEq] at z
      obtain ⟨rfl, rfl, rfl⟩ := z
      rfl
  | [r, s], _, h => by
    have e : gram [r, s] = [[dotF r r, dotF r s], [dotF s r, dotF s s]] := rfl
    have hr := h r (by simp)
    have hs := h s (by simp)
    rw [e, show [r, s].length = 2 from rfl, det2, dot_vc hw hr hr, dot_vc hw hr hs, dot_vc hw hs hr, dot_vc hw hs hs]
    show _ ↔ crs (vc r) (vc s) ≠ (0, 0, 0)
    generalize vc r = a
    generalize vc s = b
    have e2 : dt3 a a * dt3 b b - dt3 a b * dt3 b a = (crs a b).1 * (crs a b).1 + (crs a b).2.1 * (crs a b).2.1 + (crs a b).2.2 * (crs a b).2.2 := by
      obtain ⟨a1, a2, a3⟩ := a
      obtain ⟨b1, b2, b3⟩ := b
      simp only [dt3, crs]
      grind
    rw [e2]
    refine not_congr ⟨fun z => ?_, fun z => ?_⟩
    · obtain ⟨k1, k2, k3⟩ := sq3 z
      exact Prod.ext k1 (Prod.ext k2 k3)
    · rw [z]
      rfl
  | [r, s, t], _, h => by
    have e : gram [r, s, t] = [[dotF r r, dotF r s, dotF r t], [dotF s r, dotF s s, dotF s t], [dotF t r, dotF t s, dotF t t]] := rfl
    have hr := h r (by simp)
    have hs := h s (by simp)
    have ht := h t (by simp)
    rw [e, show [r, s, t].length = 3 from rfl, det3, dot_vc hw hr hr, dot_vc hw hr hs, dot_vc hw hs hr, dot_vc hw hs hs, dot_vc hw hr ht, dot_vc hw hs ht, dot_vc hw ht hr, dot_vc hw ht hs, dot_vc hw ht ht]
    show _ ↔ dt3 (crs (vc r) (vc s)) (vc t) ≠ 0
    generalize vc r = a
    generalize vc s = b
    generalize vc t = c
    have e2 : dt3 a a * (dt3 b b * dt3 c c - dt3 b c * dt3 c b) - dt3 a b * (dt3 b a * dt3 c c - dt3 b c * dt3 c a) + dt3 a c * (dt3 b a * dt3 c b - dt3 b b * dt3 c a) = dt3 (crs a b) c * dt3 (crs a b) c := by
      obtain ⟨a1, a2, a3⟩ := a
      obtain ⟨b1, b2, b3⟩ := b
      obtain ⟨c1, c2, c3⟩ := c
      simp only [dt3, crs]
      grind
    rw [e2]
    refine not_congr ⟨fun z => ?_, fun z => ?_⟩
    · rcases Int.mul_eq_zero.mp z with h | h <;> exact h
    · rw [z]
      rfl
  | _ :: _ :: _ :: _ :: _, h, _ => by simp at h
/-- a house of vectors -/
theorem ho_vec (n : Nat) (v : Int → V3) (w : Nat) (q : List Int → Bool) (hq : ∀ l ∈ every n, q l = true ↔ l.length ≤ w ∧ indV (l.map v)) : Ho n q := by
  have e : ∀ f, (q (fl n f) = true) ↔ (ir n).countP f ≤ w ∧ indV ((fl n f).map v) := fun f => by
    rw [hq _ (every_fl n f), fl_len]
  have ext : ∀ f g, ((ir n).countP g ≤ w ∧ indV ((fl n g).map v)) → (∀ t ∈ ir n, f t = g t) → (ir n).countP f ≤ w ∧ indV ((fl n f).map v) := fun f g h s => by
    rw [cnt_eq s, fl_eq s]
    exact h
  refine Mat.iff (P := fun f => (ir n).countP f ≤ w ∧ indV ((fl n f).map v)) ⟨?_, fun f g hg s => ?_, fun f g hf hg hc => ?_⟩ fun f => (e f).symm
  · have : fl n (fun _ => false) = [] := by
      unfold fl
      rw [List.filter_eq_nil_iff]
      intro a _ h
      cases h
    rw [this, ← fl_len, this]
    exact ⟨Nat.zero_le _, trivial⟩
  · refine her_of (ir_nd n) (P := fun f => (ir n).countP f ≤ w ∧ indV ((fl n f).map v)) ext (fun g t pg ht gt => ?_) ((ir n).countP g) f g (by omega) hg s
    obtain ⟨l1, l2, k1, k2⟩ := flt_at (ir_nd n) ht (delF g t) g (by simp [delF]) gt fun x hx => by simp [delF, hx]
    have hd := cnt_del (ir_nd n) ht gt
    refine ⟨by have := pg.1; omega, ?_⟩
    have h2 := pg.2
    unfold fl at h2 ⊢
    rw [k2, List.map_append, List.map_cons] at h2
    rw [k1, List.map_append]
    exact ind_del _ _ _ h2
  · obtain ⟨x, hx, k⟩ := ind_up ((fl n f).map v) ((fl n g).map v) hf.2 hg.2 (by rw [List.length_map, List.length_map, fl_len, fl_len]; exact hc)
    obtain ⟨t, ht, rfl⟩ := List.mem_map.mp hx
    obtain ⟨hi, gt⟩ := fl_mem.mp ht
    have ft : f t = false := bool_f fun z => by
      -- twice the same vector
      obtain ⟨l1, l2, k1, k2⟩ := flt_at (ir_nd n) hi (delF f t) f (by simp [delF]) z fun x hx => by simp [delF, hx]
      have h2 := k (l1.map v) ((t :: l2).map v) (by unfold fl; rw [k2, List.map_append])
      rw [List.map_cons] at h2
      have c0 : ∀ a : V3, crs a a = (0, 0, 0) := fun a => by
        obtain ⟨a1, a2, a3⟩ := a
        simp only [crs, Prod.mk.injEq]
        refine ⟨by grind, by grind, by grind⟩
      have d0 : ∀ a b : V3, dt3 (crs b a) a = 0 := fun a b => by
        obtain ⟨a1, a2, a3⟩ := a
        obtain ⟨b1, b2, b3⟩ := b
        simp only [crs, dt3]
        grind
      have hne : (l1 ++ l2).length ≤ 1 := by
        have a1 := hf.2
        have a2 : (fl n f).length = (l1 ++ t :: l2).length := by unfold fl; rw [k2]
        have a3 : (fl n f).length < (fl n g).length := by rw [fl_len, fl_len]; exact hc
        have a4 : (fl n g).length ≤ 3 := by
          have := hg.2
          match hh : (fl n g).map v, this with
          | [], _ => have := congrArg List.length hh; simp at this; simp [this]
          | [_], _ => have := congrArg List.length hh; rw [List.length_map] at this; rw [this]; exact Nat.le_of_ble_eq_true rfl
          | [_, _], _ => have := congrArg List.length hh; rw [List.length_map] at this; rw [this]; exact Nat.le_of_ble_eq_true rfl
          | [_, _, _], _ => have := congrArg List.length hh; rw [List.length_map] at this; rw [this]; exact Nat.le_of_ble_eq_true rfl
          | _ :: _ :: _ :: _ :: _, h => exact h.elim
        simp only [List.length_append, List.length_cons] at a2 ⊢
        omega
      match l1, l2, h2, hne with
      | [], [], h, _ => exact h (c0 _)
      | [], [b], h, _ =>
        have h' : dt3 (crs (v t) (v t)) (v b) ≠ 0 := h
        rw [c0] at h'
        exact h' (by simp [dt3])
      | [a], [], h, _ => exact h (d0 _ _)
      | [], _ :: _ :: _, _, h => simp at h
      | [_], _ :: _, _, h => simp at h
      | _ :: _ :: _, _, _, h => simp at h
    refine ⟨t, hi, ft, gt, by rw [cnt_ins (ir_nd n) hi ft]; have := hg.1; omega, ?_⟩
    obtain ⟨l1, l2, k1, k2⟩ := flt_at (ir_nd n) hi f (insF f t) ft (insF_t _ _) fun x hx => by simp [insF, hx]
    have h3 := k (l1.map v) (l2.map v) (by unfold fl; rw [k1, List.map_append])
    unfold fl
    rw [k2, List.map_append, List.map_cons]
    exact h3
theorem ho_v (n : Nat) (wide : Nat) (rows : List (List Int)) (hw : wide ≤ 3) (hl : rows.length = n) (hr : ∀ r ∈ rows, r.length = wide) : Ho n (hV wide rows) := by
  refine ho_vec n (fun t => vc (rows.getD t.toNat [])) wide (hV wide rows) fun l hl2 => ?_
  unfold hV
  rw [Bool.and_eq_true, decide_eq_true_iff, Bool.not_eq_true', decide_eq_false_iff_not]
  have h1 : ((l.length : Int) ≤ (wide : Int)) ↔ l.length ≤ wide := by omega
  rw [h1]
  refine and_congr_right fun hle => ?_
  have h2 := gram_ind hw (l.map fun t => rows.getD t.toNat []) (by rw [List.length_map]; omega) fun r hr2 => by
    obtain ⟨t, ht, rfl⟩ := List.mem_map.mp hr2
    have hm := ir_mem.mp (every_sub hl2 ht)
    rw [List.getD_eq_getElem?_getD, List.getElem?_eq_getElem (by omega)]
    exact hr _ (List.getElem_mem _)
  rw [List.length_map, List.map_map] at h2
  exact h2
/-! ties as vectors -/
def vt (t : Int × Int) : V3 := ((if t.1 = 0 then 1 else 0) - (if t.2 = 0 then 1 else 0), (if t.1 = 1 then 1 else 0) - (if t.2 = 1 then 1 else 0), (if t.1 = 2 then 1 else 0) - (if t.2 = 2 then 1 else 0))
def indB : List V3 → Bool
  | [] => true
  | [a] => !decide (a = (0, 0, 0))
  | [a, b] => !decide (crs a b = (0, 0, 0))
  | [a, b, c] => !decide (dt3 (crs a b) c = 0)
  | _ => false
theorem indB_iff : ∀ l, indB l = true ↔ indV l
  | [] => by simp [indB, indV]
  | [a] => by simp [indB, indV]
  | [a, b] => by simp [indB, indV]
  | [a, b, c] => by simp [indB, indV]
  | _ :: _ :: _ :: _ :: _ => by simp [indB, indV]
def tupl : Nat → List (List (Int × Int))
  | 0 => [[]]
  | k + 1 => (tupl k).flatMap fun l => ties5.map fun t => t :: l
theorem tupl_mem : ∀ l : List (Int × Int), (∀ t ∈ l, t ∈ ties5) → l ∈ tupl l.length
  | [], _ => by simp [tupl]
  | t :: l, h => by
    rw [List.length_cons, tupl, List.mem_flatMap]
    exact ⟨l, tupl_mem l fun x hx => h x (List.mem_cons_of_mem _ hx), List.mem_map.mpr ⟨t, h t List.mem_cons_self, rfl⟩⟩
theorem ties_all : ∀ k < 6, ∀ l ∈ tupl k, ringF [0, 1, 2, 3] l = indB (l.map vt) := by decide +kernel
theorem ho_t (n : Nat) (h5 : n ≤ 5) (ts : List (Int × Int)) (hl : ts.length = n) (ht : ∀ t ∈ ts, t ∈ ties5) : Ho n (hT ts) := by
  refine ho_vec n (fun t => vt (ts.getD t.toNat (0, 0))) 5 (hT ts) fun l hl2 => ?_
  have hlen := (lot_of hl2).2
  have h1 := ties_all l.length (by omega) (l.map fun t => ts.getD t.toNat (0, 0)) (by
    have := tupl_mem (l.map fun t => ts.getD t.toNat (0, 0)) fun x hx => by
      obtain ⟨t, ht2, rfl⟩ := List.mem_map.mp hx
      have hm := ir_mem.mp (every_sub hl2 ht2)
      rw [List.getD_eq_getElem?_getD, List.getElem?_eq_getElem (by omega)]
      exact ht _ (List.getElem_mem _)
    rw [List.length_map] at this
    exact this)
  unfold hT
  rw [h1, indB_iff, List.map_map]
  exact ⟨fun h => ⟨by omega, h⟩, fun h => h.2⟩
theorem fam_ho {n : Nat} (h5 : n ≤ 5) {p : List Int → Bool} (F : Fam n p) : Ho n p := by
  cases F with
  | u size h => exact ho_u n size h
  | k kinds caps h1 h2 h3 h4 => exact ho_k n kinds caps h1 h2 h3 h4
  | v wide rows h1 h2 h3 h4 => exact ho_v n wide rows h2 h3 fun r hr => (h4 r hr).1
  | t ts h1 h2 => exact ho_t n h5 ts h1 h2
end Gl

namespace Gl
/-! ### the house of seven things that no vectors tell -/
def linesF : List (List Int) := [[0, 1, 2], [0, 3, 4], [0, 5, 6], [1, 3, 5], [1, 4, 6], [2, 3, 6], [2, 4, 5]]
def fanoF (E : List (List Int)) : List (List Int) := E.filter fun l => decide ((l.length : Int) < 4) && !decide (l ∈ linesF)
def topsF (E : List (List Int)) : List (List Int) := (fanoF E).filter fun l => decide ((l.length : Int) = 3)
def tornF (E : List (List Int)) (i : Nat) : List (List Int) := (fanoF E).filter fun l => !decide (l = (topsF E).getD i [])
structure LR (E : List (List Int)) : Prop where
  ok : OkL 7 (fanoF E)
  here : Here (byLen (fanoF E))
  no : pairF (byLen (fanoF E)) = none
  n28 : (topsF E).length = 28
  torn : ∀ i, i < 28 → OkL 7 (tornF E i) ∧ Here (byLen (tornF E i)) ∧ (pairF (byLen (tornF E i)) = none → greF (tornF E i) = (topsF E).take i ++ (topsF E).drop (i + 1)) ∧ ∀ l o, pairF (byLen (tornF E i)) = some (l, o) → l ∈ tornF E i ∧ o ∈ tornF E i ∧ l.length < o.length ∧ l.length ≤ 40 ∧ o.length ≤ 40 ∧ ∀ t ∈ o, t ∉ l → srtI (l ++ [t]) ∉ tornF E i
end Gl

namespace Gl
def insS (t : Int) : List Int → List Int
  | [] => [t]
  | x :: r => if t ≤ x then t :: x :: r else x :: insS t r
theorem insS_mem {t x : Int} : ∀ {l : List Int}, x ∈ insS t l ↔ x = t ∨ x ∈ l
  | [] => by simp [insS]
  | y :: r => by
    unfold insS
    by_cases h : t ≤ y
    · rw [if_pos h]
      simp
    · rw [if_neg h, List.mem_cons, insS_mem (l := r), List.mem_cons]
      grind
theorem insS_perm (t : Int) : ∀ l : List Int, (insS t l).Perm (l ++ [t])
  | [] => List.Perm.refl _
  | y :: r => by
    unfold insS
    by_cases h : t ≤ y
    · rw [if_pos h]
      exact (List.perm_append_singleton t (y :: r)).symm
    · rw [if_neg h]
      exact (insS_perm t r).cons y
theorem insS_sort {t : Int} : ∀ {l : List Int}, l.Pairwise (· ≤ ·) → (insS t l).Pairwise (· ≤ ·)
  | [], _ => by simp [insS]
  | y :: r, s => by
    have s2 := List.pairwise_cons.mp s
    unfold insS
    by_cases h : t ≤ y
    · rw [if_pos h]
      refine List.pairwise_cons.mpr ⟨fun x hx => ?_, s⟩
      (rcases List.mem_cons.mp hx with rfl | hx)
      · exact h
      · have := s2.1 x hx
        omega
    · rw [if_neg h]
      refine List.pairwise_cons.mpr ⟨fun x hx => ?_, insS_sort s2.2⟩
      rcases insS_mem.mp hx with rfl | hx
      · omega
      · exact s2.1 x hx
theorem insS_is {t : Int} {l : List Int} (s : l.Pairwise (· ≤ ·)) : srtI (l ++ [t]) = insS t l := (srtI_of (insS_perm t l) (insS_sort s)).symm
theorem fano_up : ∀ l ∈ (allG 7).filter (fun l => l.length == 2), ∀ o ∈ (allG 7).filter (fun l => l.length == 3), o ∉ linesF → ∃ t ∈ o, t ∉ l ∧ insS t l ∉ linesF := by decide +kernel
theorem fano_28 : ((allG 7).filter fun l => (decide ((l.length : Int) < 4) && !decide (l ∈ linesF)) && decide ((l.length : Int) = 3)).length = 28 := by decide +kernel
theorem lines_3 : ∀ l ∈ linesF, l.length = 3 := by decide
def fanP (l : List Int) : Bool := decide ((l.length : Int) < 4) && !decide (l ∈ linesF)
theorem fanP_t {l : List Int} : fanP l = true ↔ l.length ≤ 3 ∧ l ∉ linesF := by
  unfold fanP
  rw [Bool.and_eq_true, decide_eq_true_iff, Bool.not_eq_true', decide_eq_false_iff_not]
  constructor <;> rintro ⟨a, b⟩ <;> exact ⟨by omega, b⟩
theorem ho_fano : Ho 7 fanP := by
  refine ⟨?_, fun f g hg s => ?_, fun f g hf hg hc => ?_⟩
  · refine fanP_t.mpr ?_
    have : fl 7 (fun _ => false) = [] := by
      unfold fl
      rw [List.filter_eq_nil_iff]
      intro a _ h
      cases h
    rw [this]
    exact ⟨Nat.zero_le _, by decide⟩
  · obtain ⟨h1, h2⟩ := fanP_t.mp hg
    rw [fl_len] at h1
    have hle := cnt_le s
    refine fanP_t.mpr ⟨by rw [fl_len]; omega, fun z => h2 ?_⟩
    have h3 := lines_3 _ z
    rw [fl_len] at h3
    have e : fl 7 f = fl 7 g := fl_eq fun t ht => by
      have h := cnt_same s (by omega) t ht
      cases e : f t with
      | true => exact (s t ht e).symm
      | false =>
        cases e2 : g t with
        | false => rfl
        | true => rw [h e2] at e; cases e
    rw [← e]
    exact z
  · obtain ⟨h1, h2⟩ := fanP_t.mp hg
    rw [fl_len] at h1
    by_cases h : (ir 7).countP f = 2
    · have hm : ∀ (k : Nat) (f : Fs), (ir 7).countP f = k → fl 7 f ∈ (allG 7).filter fun l => l.length == k := fun k f h => List.mem_filter.mpr ⟨allG_fl 7 f, by rw [fl_len, h]; simp⟩
      obtain ⟨t, k1, k2, k3⟩ := fano_up _ (hm 2 f h) _ (hm 3 g (by omega)) h2
      obtain ⟨k4, k5⟩ := fl_mem.mp k1
      have ft : f t = false := bool_f fun z => k2 (fl_mem.mpr ⟨k4, z⟩)
      refine ⟨t, k4, ft, k5, fanP_t.mpr ⟨by rw [fl_len, cnt_ins (ir_nd 7) k4 ft]; omega, ?_⟩⟩
      have e : insS t (fl 7 f) = fl 7 (insF f t) := by
        rw [← insS_is ((fl_sort 7 f).imp fun h => by omega), more_fl (every_fl 7 f) k4 k2]
        refine fl_eq fun x hx => ?_
        unfold insF
        rw [in_fl hx]
      rw [← e]
      exact k3
    · obtain ⟨t, ht, k1, k2⟩ := cnt_ex hc
      have hc2 := cnt_ins (ir_nd 7) ht k2
      refine ⟨t, ht, k2, k1, fanP_t.mpr ⟨by rw [fl_len]; omega, fun z => ?_⟩⟩
      have := lines_3 _ z
      rw [fl_len] at this
      omega
theorem inn_some {ls : List (List Int)} {l o : List Int} : ∀ r : List (List Int), innF ls l r = some o → o ∈ r ∧ l.length < o.length ∧ stuckF ls l o = true
  | [], h => by cases h
  | a :: r, h => by
    unfold innF at h
    by_cases k : (decide ((l.length : Int) < (a.length : Int)) && stuckF ls l a) = true
    · rw [if_pos k] at h
      injection h with h
      subst h
      rw [Bool.and_eq_true, decide_eq_true_iff] at k
      exact ⟨List.mem_cons_self, by omega, k.2⟩
    · rw [if_neg k] at h
      obtain ⟨h1, h2⟩ := inn_some r h
      (exact ⟨List.mem_cons_of_mem _ h1, h2⟩)
theorem out_some {ls : List (List Int)} {l o : List Int} : ∀ r : List (List Int), outF ls r = some (l, o) → l ∈ r ∧ o ∈ ls ∧ l.length < o.length ∧ stuckF ls l o = true
  | [], h => by cases h
  | a :: r, h => by
    unfold outF at h
    cases e : innF ls a ls with
    | some p =>
      rw [e] at h
      injection h with h
      injection h with h1 h2
      subst h1
      subst h2
      obtain ⟨k1, k2⟩ := inn_some ls e
      exact ⟨List.mem_cons_self, k1, k2⟩
    | none =>
      rw [e] at h
      obtain ⟨h1, h2⟩ := out_some r h
      (exact ⟨List.mem_cons_of_mem _ h1, h2⟩)
theorem take_drop {α : Type} [DecidableEq α] {d : α} : ∀ {xs : List α} {i : Nat}, xs.Nodup → i < xs.length → xs.filter (fun x => !decide (x = xs.getD i d)) = xs.take i ++ xs.drop (i + 1)
  | x :: xs, 0, nd, _ => by
    have h := List.nodup_cons.mp nd
    show (x :: xs).filter (fun y => !decide (y = x)) = xs
    rw [List.filter_cons, if_neg (by simp), List.filter_eq_self]
    intro y hy
    have : y ≠ x := fun z => h.1 (z ▸ hy)
    simpa using this
  | x :: xs, i + 1, nd, hi => by
    have h := List.nodup_cons.mp nd
    have hi2 : i < xs.length := by simpa using hi
    have hm : xs.getD i d ∈ xs := by
      rw [List.getD_eq_getElem?_getD, List.getElem?_eq_getElem hi2]
      exact List.getElem_mem _
    have e : (x :: xs).getD (i + 1) d = xs.getD i d := by simp
    rw [e, List.filter_cons, if_pos (by
      have : x ≠ xs.getD i d := fun z => h.1 (z ▸ hm)
      simpa using this), take_drop h.2 hi2]
    rfl
theorem okl_of {n : Nat} (h7 : n ≤ 7) {ls : List (List Int)} (nd : ls.Nodup) (hi : ∀ l ∈ ls, l ∈ every n) : OkL n ls := by
  have := sub_len h7 nd hi
  exact ⟨by omega, by omega, nd, fun l hl => ⟨(lot_of (hi l hl)).1, by have := (lot_of (hi l hl)).2; omega⟩, by omega⟩
theorem lr_fano : LR (every 7) := by
  have ef : fanoF (every 7) = (every 7).filter fanP := rfl
  have H := ho_fano.hs_self (Nat.le_refl 7)
  have n28 : (topsF (every 7)).length = 28 := by
    have p : (topsF (every 7)).Perm ((allG 7).filter fun l => (decide ((l.length : Int) < 4) && !decide (l ∈ linesF)) && decide ((l.length : Int) = 3)) := by
      unfold topsF fanoF
      rw [List.filter_filter]
      refine List.Perm.trans ?_ ((byLen_perm (allG 7)).filter _)
      refine List.Perm.of_eq (List.filter_congr fun x _ => Bool.and_comm _ _)
    rw [p.length_eq]
    exact fano_28
  have tnd : (topsF (every 7)).Nodup := ((every_nodup 7).filter _).filter _
  have tm : ∀ {l}, l ∈ topsF (every 7) ↔ (l ∈ every 7 ∧ fanP l = true) ∧ l.length = 3 := fun {l} => by
    unfold topsF
    rw [List.mem_filter, ef, flt_mem, decide_eq_true_iff]
    constructor <;> rintro ⟨a, b⟩ <;> exact ⟨a, by omega⟩
  refine ⟨H.ok, H.here, H.no, n28, fun i hi => ?_⟩
  have hmi : (topsF (every 7)).getD i [] ∈ topsF (every 7) := by
    rw [List.getD_eq_getElem?_getD, List.getElem?_eq_getElem (by omega)]
    exact List.getElem_mem _
  have hbi := tm.mp hmi
  have etorn : tornF (every 7) i = (every 7).filter fun l => fanP l && !decide (l = (topsF (every 7)).getD i []) := by
    unfold tornF
    rw [ef, List.filter_filter]
    exact List.filter_congr fun x _ => Bool.and_comm _ _
  have hm : ∀ {l}, l ∈ tornF (every 7) i ↔ l ∈ every 7 ∧ fanP l = true ∧ l ≠ (topsF (every 7)).getD i [] := fun {l} => by
    rw [etorn, flt_mem, Bool.and_eq_true, Bool.not_eq_true', decide_eq_false_iff_not]
  have hnd : (tornF (every 7) i).Nodup := by
    rw [etorn]
    exact flt_nd
  have hb : byLen (tornF (every 7) i) = tornF (every 7) i := by
    rw [etorn]
    exact byLen_self 7 _
  have hl := sub_len (Nat.le_refl 7) hnd fun l h => (hm.mp h).1
  rw [hb]
  refine ⟨okl_of (n := 7) (Nat.le_refl 7) hnd fun l h => (hm.mp h).1, ⟨hnd, by omega, fun l h => ?_, ?_, fun l h t ht => ?_⟩, fun _ => ?_, fun l o h => ?_⟩
  · have := (lot_of (hm.mp h).1).2
    omega
  · refine hm.mpr ⟨ho_fano.nil.1, ho_fano.nil.2, fun z => ?_⟩
    have := hbi.2
    rw [← z] at this
    cases this
  · obtain ⟨h1, h2, h3⟩ := hm.mp h
    refine hm.mpr ⟨less_ev h1, ho_fano.sub (less_ev h1) h1 h2 fun x hx => (List.mem_filter.mp hx).1, fun z => ?_⟩
    have h4 := les_len h1 ht
    have h5 : (lesF t l).length = 3 := by
      have := hbi.2
      rw [← z] at this
      exact this
    have := (fanP_t.mp h2).1
    omega
  · obtain ⟨j, hj, hji⟩ : ∃ j, j < 28 ∧ j ≠ i := by
      by_cases h : i = 0
      · exact ⟨1, by omega, by omega⟩
      · exact ⟨0, by omega, by omega⟩
    have hmj : (topsF (every 7)).getD j [] ∈ topsF (every 7) := by
      rw [List.getD_eq_getElem?_getD, List.getElem?_eq_getElem (by omega)]
      exact List.getElem_mem _
    have hbj := tm.mp hmj
    have hij : (topsF (every 7)).getD j [] ≠ (topsF (every 7)).getD i [] := by
      rw [List.getD_eq_getElem?_getD, List.getElem?_eq_getElem (by omega), List.getD_eq_getElem?_getD, List.getElem?_eq_getElem (by omega)]
      intro z
      rcases Nat.lt_or_gt_of_ne hji with k | k
      · exact List.pairwise_iff_getElem.mp tnd j i (by omega) (by omega) k z
      · exact List.pairwise_iff_getElem.mp tnd i j (by omega) (by omega) k z.symm
    have R : Rk 7 (fun l => fanP l && !decide (l = (topsF (every 7)).getD i [])) 3 := by
      refine ⟨fun l _ h => ?_, (topsF (every 7)).getD j [], hbj.1.1, ?_, hbj.2⟩
      · rw [Bool.and_eq_true] at h
        exact (fanP_t.mp h.1).1
      · show (fanP _ && !decide (_ = _)) = true
        rw [hbj.1.2, decide_eq_false hij]
        rfl
    rw [etorn, gre_self R, ← take_drop (d := []) tnd (by omega)]
    unfold topsF
    rw [ef, List.filter_filter, List.filter_filter]
    refine List.filter_congr fun l _ => ?_
    unfold topP
    have e : decide (l.length = 3) = decide ((l.length : Int) = 3) := decide_eq_decide.mpr (by omega)
    rw [e]
    have key : ∀ a x y : Bool, ((a && y) && x) = (y && (x && a)) := by decide
    exact key _ _ _
  · obtain ⟨h1, h2, h3, h4⟩ := out_some _ h
    have hl1 := (fanP_t.mp (hm.mp h1).2.1).1
    have hl2 := (fanP_t.mp (hm.mp h2).2.1).1
    refine ⟨h1, h2, h3, by omega, by omega, fun t ht hn z => ?_⟩
    unfold stuckF at h4
    rw [Bool.not_eq_true', List.any_eq_false] at h4
    refine h4 t ht ?_
    rw [decide_eq_false hn, decide_eq_true z]
    rfl
end Gl

namespace Gl
theorem ne_or {d : Nat} {ls : List (List Int)} (nd : ls.Nodup) (hd : ∀ l ∈ ls, l.length = d) : (∀ l ∈ ls, l ≠ []) ∨ ls.length ≤ 1 := by
  by_cases hz : d = 0
  · refine .inr ?_
    match ls, nd, hd with
    | [], _, _ => exact Nat.zero_le _
    | [_], _, _ => exact Nat.le_refl _
    | a :: b :: r, nd, hd =>
      have l1 := hd a (by simp)
      have l2 := hd b (by simp)
      rw [hz] at l1 l2
      have z1 := List.eq_nil_of_length_eq_zero l1
      have z2 := List.eq_nil_of_length_eq_zero l2
      simp [z1, z2] at nd
  · refine .inl fun l hl z => hz ?_
    rw [← hd l hl, z]
    rfl
theorem perm_map {α β : Type} {f : α → β} {ys xs : List β} (h : ys.Perm xs) : ∀ ls : List α, xs = ls.map f → ∃ zs : List α, ys = zs.map f ∧ zs.Perm ls := by
  induction h with
  | nil =>
    intro ls e
    exact ⟨[], rfl, by rw [List.map_eq_nil_iff.mp e.symm]⟩
  | cons x _ ih =>
    intro ls e
    match ls, e with
    | a :: ls, e =>
      rw [List.map_cons] at e
      injection e with e1 e2
      obtain ⟨zs, h1, h2⟩ := ih ls e2
      exact ⟨a :: zs, by rw [List.map_cons, h1, e1], h2.cons a⟩
  | swap x y l =>
    intro ls e
    match ls, e with
    | a :: b :: ls, e =>
      (rw [List.map_cons, List.map_cons] at e)
      injection e with e1 e2
      injection e2 with e2 e3
      exact ⟨b :: a :: ls, by rw [List.map_cons, List.map_cons, e1, e2, e3], .swap a b ls⟩
    | [a], e =>
      rw [List.map_cons] at e
      injection e with e1 e2
      cases e2
  | trans _ _ ih1 ih2 =>
    intro ls e
    obtain ⟨zs, h1, h2⟩ := ih2 ls e
    obtain ⟨ws, h3, h4⟩ := ih1 zs h1
    exact ⟨ws, h3, h4.trans h2⟩
/-- what a drawn house keeps -/
structure HR (n : Nat) (lots : List (List Int)) : Prop where
  hs : ∀ ys : List (List Int), ys.Perm lots → Hs n ys ∧ greF ys = longF lots
  xr : XR (longF lots)
  gr : GR n lots (longF lots)
  tr : ∀ t : Int, 0 ≤ t → t < n → TR n lots (longF lots) t
  mr : MR n lots (longF lots)
  ne : lots ≠ []
  bac : (∀ l ∈ (longF lots).map (bacF n), l ≠ []) ∨ ((longF lots).map (bacF n)).length ≤ 1
  len : lots.length ≤ 1000
  lot : ∀ l ∈ lots, l.length ≤ n
  tlen : (longF lots).length ≤ 1000
  tlot : ∀ l ∈ longF lots, l.length ≤ n
  trng : ∀ l ∈ longF lots, ∀ x ∈ l, 0 ≤ x ∧ x < (n : Int)
theorem ho_hr {n : Nat} {p : List Int → Bool} (M : Ho n p) (h1 : 1 ≤ n) (h5 : n ≤ 5) : HR n ((every n).filter p) := by
  have h7 : n ≤ 7 := by omega
  obtain ⟨r, R⟩ := M.rk
  have el := long_is R
  have hl : ∀ l ∈ (every n).filter p, l ∈ every n := fun l h => (flt_mem.mp h).1
  have ht : ∀ l ∈ longF ((every n).filter p), l ∈ every n := fun l h => by
    rw [el] at h
    exact (flt_mem.mp h).1
  have bl : ∀ top ∈ every n, (bacF n top).length + top.length = n := fun top ht => by
    have h := cnt_not (inF top) (ir n)
    rw [ir_len, ← every_cnt ht] at h
    have e : (bacF n top).length = (ir n).countP fun x => !inF top x := List.countP_eq_length_filter.symm
    omega
  refine ⟨fun ys hp => ⟨?_, ?_⟩, ?_, ?_, fun t t0 tn => ?_, ?_, ?_, ?_, ?_, fun l h => (lot_of (hl l h)).2, ?_, fun l h => (lot_of (ht l h)).2, fun l h x hx => ir_mem.mp (every_sub (ht l h) hx)⟩
  · exact M.hs h7 (hp.nodup_iff.mpr flt_nd) fun l => by rw [hp.mem_iff]; exact flt_mem
  · rw [el]
    exact gre_is R (hp.nodup_iff.mpr flt_nd) fun l => by rw [hp.mem_iff]; exact flt_mem
  · rw [el]
    exact M.xr R
  · rw [el]
    exact M.gr R
  · rw [el]
    exact M.tr h1 h5 R (ir_mem.mpr ⟨t0, tn⟩)
  · rw [el]
    exact M.mr h7 R
  · exact List.ne_nil_of_mem (flt_mem.mpr M.nil)
  · rw [el]
    refine ne_or (d := n - r) (nd_map flt_nd fun a ha b hb e => ?_) fun l hl => ?_
    · refine every_eq (flt_mem.mp ha).1 (flt_mem.mp hb).1 fun t ht => ?_
      have bmem : ∀ {top t}, t ∈ bacF n top ↔ t ∈ ir n ∧ t ∉ top := fun {top t} => by
        unfold bacF
        rw [List.mem_filter]
        simp
      have h1 := bmem (top := a) (t := t)
      rw [e, bmem] at h1
      constructor
      · intro z
        refine Classical.byContradiction fun no => ?_
        exact (h1.mp ⟨ht, no⟩).2 z
      · intro z
        refine Classical.byContradiction fun no => ?_
        exact (h1.mpr ⟨ht, no⟩).2 z
    · obtain ⟨top, h1, rfl⟩ := List.mem_map.mp hl
      obtain ⟨a1, a2⟩ := flt_mem.mp h1
      have := bl top a1
      have := (topP_t.mp a2).2
      omega
  · have := sub_len h7 flt_nd hl
    omega
  · have := sub_len h7 (ls := longF ((every n).filter p)) (by rw [el]; exact flt_nd) ht
    omega
theorem fam_hr {n : Nat} (h1 : 1 ≤ n) (h5 : n ≤ 5) {p : List Int → Bool} (F : Fam n p) : HR n ((every n).filter p) := ho_hr (fam_ho h5 F) h1 h5
end Gl

namespace Gl
open PySem PySem.Spec L2 PyProof.Rows
variable {g : Pg}

theorem ec_neT {S : Sx} {ρ : En} {a b : Expr} {ns ms : List Int} (ha : ED S a ρ (tI ns)) (hb : ED S b ρ (tI ms)) : EC S .NotEq a b ρ (.bl (!decide (ns = ms))) :=
  ec_op (r := rNeD S.K) (fun X hX => by rw [← hX.K]; exact op_neD hX.hu) ha hb fun P H x y pk rx ry Q z => by
    refine ⟨_, _, dp_tI rx, dp_tI ry, shaped_encT ns, shaped_encT ms, ?_⟩
    rw [eqv_encT]
    exact z _ H (Same.refl H) rfl
theorem sv_setFlt {S : Sx} {q : Option Addr} {ρ : En} {tg iter elt c : Expr} {pos p1 spos : Pos} {x : Str} {sts : List Stmt} {Rn : En → Prop} {Rr : Dt → Prop} {α : Type} {as : List α} {g : α → Dt} {scope : Scope} (d : Dt) (i : Nat) (own : List (Str × Nat)) (pr : α → Bool) (f : α → Dt) (hn : S.N.Nodup) (ok : blkC S.N S.sc scope own = true) (hi : IV S tg iter ρ (as.map g)) (hz : as.length ≤ 100000)
    (turn : ∀ a, a ∈ as → ∃ ρ' js, GV (S.blk scope) tg js (g a) (wipeD ρ (own.map (·.2))) ρ' ∧ (∀ j ∈ js, j ∈ own.map (·.2)) ∧ ET (S.blk scope) c ρ' (pr a) ∧ (pr a = true → ED (S.blk scope) elt ρ' (f a))) (hd : .lst ((as.filter pr).map f) = d)
    (k : SV S q sts (ρ.set i (some d)) Rn Rr) (hN : S.N[i]? = some x := by rfl) (hv : S.sc.names.lookup x = some .local := by rfl) (hkd : S.sc.kind = .function := by rfl) (hl : (p1.line == pos.line) = true := by rfl)
    (hsc : (scope.names.any fun (n, k) => n == x && (k == .local || k == .cell)) = false := by decide +kernel) (hs : ∀ (env : Env) x, foldedSetIterable iter env x = pure x := by intro _ _; rfl) : SV S q (.Assign [.Name x p1] (.ListComp elt [⟨tg, iter, [c], 0⟩] scope pos) spos :: sts) ρ Rn Rr :=
  sv_setLc (as := as) (g := g) i (fun a o => o = if pr a then some (f a) else none) own hn ok hi hz (fun a ha => by
    obtain ⟨ρ', js, h1, h2, h3, h4⟩ := turn a ha
    refine ⟨ρ', js, pr a, h1, h2, ei_one h3, fun z => EV.of (h4 z) ?_, fun z => ?_⟩
    · show some (f a) = if pr a = true then some (f a) else none
      rw [if_pos z]
    · show none = if pr a = true then some (f a) else none
      rw [if_neg (by rw [z]; exact Bool.false_ne_true)]) (fun ys o => by rw [o.flt, hd]; exact k) hN hv hkd hl hsc hs
theorem sc_law_lines_right : FnScope ["_law_pot_here", "_law_lines", "_law_lots", "_law_tops", "_law_at", "_law_torn", "_law_told", "_law_some", "_law_lot", "_law_thing"] ["_law_pot_here"] (defScope s_law_lines_right) := ⟨rfl, rfl, rfl, by decide +kernel, rfl, by decide +kernel, by decide +kernel⟩
theorem fn_law_lines_right (W : Wl g) : FnP g "_law_lines_right" 11 (spV fun ds R => ∃ E : List (List Int), ds = [] ∧ every 7 = E ∧ LR E ∧ R = (fun d => d = .bl true)) :=
  mkFnV (st := s_law_lines_right) W.d_law_lines_right W.g_law_lines_right sc_law_lines_right (fun _ _ _ _ _ _ us hl => match us, hl with | [_], _ => rfl) (fun ds R h => by obtain ⟨E, rfl, hE, lr, rfl⟩ := h <;> rfl) fun p ds R h => by
    obtain ⟨E, rfl, hE, lr, rfl⟩ := h
    have hnd := sc_law_lines_right.nd
    have hev := every_len (n := 7) (by decide)
    rw [hE] at hev
    have hfl : (fanoF E).length ≤ 128 := Nat.le_trans (List.length_filter_le _ _) hev
    have n28 := lr.n28
    refine sv_set (d := lI linesF) 1 (ED.is (ed_lst (ea_cons (hs := fun _ => se_tup) (ed_tup (ea_cons ed_int (ea_cons ed_int (ea_cons ed_int ea_nil))) (Nat.le_of_ble_eq_true rfl)) (ea_cons (hs := fun _ => se_tup) (ed_tup (ea_cons ed_int (ea_cons ed_int (ea_cons ed_int ea_nil))) (Nat.le_of_ble_eq_true rfl)) (ea_cons (hs := fun _ => se_tup) (ed_tup (ea_cons ed_int (ea_cons ed_int (ea_cons ed_int ea_nil))) (Nat.le_of_ble_eq_true rfl)) (ea_cons (hs := fun _ => se_tup) (ed_tup (ea_cons ed_int (ea_cons ed_int (ea_cons ed_int ea_nil))) (Nat.le_of_ble_eq_true rfl)) (ea_cons (hs := fun _ => se_tup) (ed_tup (ea_cons ed_int (ea_cons ed_int (ea_cons ed_int ea_nil))) (Nat.le_of_ble_eq_true rfl)) (ea_cons (hs := fun _ => se_tup) (ed_tup (ea_cons ed_int (ea_cons ed_int (ea_cons ed_int ea_nil))) (Nat.le_of_ble_eq_true rfl)) (ea_cons (hs := fun _ => se_tup) (ed_tup (ea_cons ed_int (ea_cons ed_int (ea_cons ed_int ea_nil))) (Nat.le_of_ble_eq_true rfl)) ea_nil))))))) (Nat.le_of_ble_eq_true rfl)) (by kernel_rfl)) ?_ hnd
    refine sv_setFlt (lI (fanoF E)) 2 [("_law_lot", 8)] (fun l => decide ((l.length : Int) < 4) && !decide (l ∈ linesF)) tI (as := E) (g := tI) hnd (by kernel_rfl) (iv_list (ED.is (ed_call (fn_law_all W) (ea_cons ed_int ea_nil) ⟨7, rfl, by decide, rfl⟩) (by rw [hE]; rfl))) (by omega) (fun l hl => ⟨_, [8], gv_name 8 hnd, by decide, et_w (ew_and (et_cmp (ec_lt (ed_lenI (ed_name 8 rfl) W.f_len) ed_int)) fun _ => ew_and1 (et_cmp (ec_niT (ed_name 8 rfl) (ed_name 1 rfl)))), fun _ => ed_name 8 rfl⟩) rfl ?_
    refine sv_skip (ET.is (et_not (et_val (ed_call (fn_is_house W) (ea_cons ed_int (ea_cons (ed_name (d := lI (fanoF E)) 2 rfl) ea_nil)) ⟨7, (fanoF E), rfl, lr.ok, lr.here, rfl⟩))) (by rw [lr.no]; rfl)) ?_
    refine sv_set 3 (ed_flt [("_law_lot", 8)] (fun l => decide ((l.length : Int) = 3)) tI (as := (fanoF E)) (g := tI) hnd (by kernel_rfl) (iv_list (ed_name 2 rfl)) (by omega) (fun l hl => ⟨_, [8], gv_name 8 hnd, by decide, et_cmp (ec_eqI (ed_lenI (ed_name 8 rfl) W.f_len) ed_int), fun _ => ed_name 8 rfl⟩)) ?_ hnd
    refine sv_setV (R := drawR (topsF E).length) 4 (ev_draw W (N := []) (sc := defScope s_law_lines_right) (k := 0) rfl (ed_name 0 rfl) (ed_lenM (ls := (topsF E)) (f := tI) (ed_name 3 rfl) W.f_len) (by omega) (by omega)) (fun d hd => ?_) hnd
    obtain ⟨i, hi, rfl⟩ := hd
    have hi2 : i < 28 := by omega
    obtain ⟨ok, here, h3, h4⟩ := lr.torn i hi2
    have hat : (topsF E)[i]? = some ((topsF E).getD i []) := by
      rw [List.getD_eq_getElem?_getD, List.getElem?_eq_getElem (by omega)]
      rfl
    have htl : (tornF E i).length ≤ 128 := Nat.le_trans (List.length_filter_le _ _) hfl
    refine sv_set 5 (ed_flt [("_law_lot", 8)] (fun l => !decide (l = (topsF E).getD i [])) tI (as := (fanoF E)) (g := tI) hnd (by kernel_rfl) (iv_list (ed_name 2 rfl)) (by omega) (fun l hl => ⟨_, [8], gv_name 8 hnd, by decide, et_cmp (ec_neT (ed_name 8 rfl) (ed_atL (ls := (topsF E)) (f := tI) (ed_name 3 rfl) (ed_name 4 rfl) hat)), fun _ => ed_name 8 rfl⟩)) ?_ hnd
    refine sv_set (d := faultD (pairF (byLen (tornF E i)))) 6 (ed_call (fn_bad_lot W) (ea_cons ed_int (ea_cons (ed_name (d := lI (tornF E i)) 5 rfl) ea_nil)) ⟨7, tornF E i, rfl, ok, here, rfl⟩) ?_ hnd
    cases e : pairF (byLen (tornF E i)) with
    | none =>
      refine sv_if (k := true) (et_w (ew_or (k := true) (l := false) (et_cmp (ec_isN (ed_name 6 rfl))) fun h => by cases h)) (fun _ => ?_) fun h => by cases h
      refine sv_ret (d := .bl true) (ED.is (ed_and (ed_cmp (ec_eqI (ed_lenM (ls := (topsF E)) (f := tI) (ed_name 3 rfl) W.f_len) ed_int)) fun _ => ed_and (k := true) (ed_cmp (ec_isN (ed_name 6 rfl))) fun _ => ed_and (ed_call (fn_is_house W) (ea_cons ed_int (ea_cons (ed_name (d := lI (tornF E i)) 5 rfl) ea_nil)) ⟨7, tornF E i, rfl, ok, here, rfl⟩) fun _ => ed_one (ed_cmp (ec_eqL (ls := (topsF E).take i ++ (topsF E).drop (i + 1)) (ms := (topsF E).take i ++ (topsF E).drop (i + 1)) (ED.is (ed_call (fn_greatest W) (ea_cons ed_int (ea_cons (ed_name (d := lI (tornF E i)) 5 rfl) ea_nil)) ⟨7, tornF E i, rfl, ⟨ok, here, e⟩, rfl⟩) (by rw [h3 e])) (ED.is (ed_catL (ed_toL (n := i) (ed_name (d := lI (topsF E)) 3 rfl) (ed_name 4 rfl)) (ed_fromL (n := i + 1) (ed_name (d := lI (topsF E)) 3 rfl) (nat_cast (ed_add (ed_name 4 rfl) ed_int) rfl)) ?_) ?_)))) ?_) rfl
      · simp
        omega
      · unfold lI
        rw [List.map_append, List.map_take, List.map_drop]
      · rw [e, n28]
        simp
    | some lo =>
      obtain ⟨l, o⟩ := lo
      obtain ⟨q1, q2, q3, q4, q5, q6⟩ := h4 l o e
      have told : ∀ {p' p2 p3 : Pos} {j j' : Nat} {ρ : En} {sc : Scope} {k : Int} {d : Dt}, True := fun {_ _ _ _ _ _ _ _ _} => trivial
      refine sv_skip (et_w (ew_or (k := false) (l := false) (et_cmp (ec_isS (ed_name (d := .tup [.str "stuck", tI l, tI o]) 6 rfl) nn_tup)) fun _ => ew_or1 (ET.is (et_cmp (ec_neS (m := "stuck") (ed_ixT (ed_name (d := .tup [.str "stuck", tI l, tI o]) 6 rfl) ed_int rfl) ed_str)) (by simp)))) ?_
      refine sv_setFlt (lI ((o.filter fun t => !decide (t ∈ l)).map fun t => srtI (l ++ [t]))) 7 [("_law_thing", 9)] (fun t => !decide (t ∈ l)) (fun t => tI (srtI (l ++ [t]))) (as := o) (g := Dt.int) hnd (by kernel_rfl) (iv_tup (ed_ixT (d := tI o) (ed_name (d := .tup [.str "stuck", tI l, tI o]) 6 rfl) ed_int rfl)) (by omega) (fun t ht => ⟨_, [9], gv_name 9 hnd, by decide, et_cmp (ec_niI (ed_name 9 rfl) (ed_ixT (d := tI l) (ed_name (d := .tup [.str "stuck", tI l, tI o]) 6 rfl) ed_int rfl) (.inl rfl)), fun _ => ed_tupleL (ed_srtT (ns := l ++ [t]) (ED.is (ed_catT (ed_ixT (d := tI l) (ed_name (d := .tup [.str "stuck", tI l, tI o]) 6 rfl) ed_int rfl) (ed_tup (ea_cons (ed_name 9 rfl) ea_nil) (Nat.le_of_ble_eq_true rfl)) (by simp; omega)) (by unfold tI; rw [List.map_append]; rfl)) (by simp; omega) W.f_sorted) W.f_tuple⟩) ?_ ?_
      · unfold lI
        rw [List.map_map]
        rfl
      refine sv_ret (d := .bl true) (ED.is (ed_and (ed_cmp (ec_inT (ns := l) (ed_ixT (ed_name (d := .tup [.str "stuck", tI l, tI o]) 6 rfl) ed_int rfl) (ed_name (d := lI (tornF E i)) 5 rfl))) fun _ => ed_and (ed_cmp (ec_inT (ns := o) (ed_ixT (ed_name (d := .tup [.str "stuck", tI l, tI o]) 6 rfl) ed_int rfl) (ed_name (d := lI (tornF E i)) 5 rfl))) fun _ => ed_and (ed_cmp (ec_lt (ed_lenI (ns := l) (ed_ixT (ed_name (d := .tup [.str "stuck", tI l, tI o]) 6 rfl) ed_int rfl) W.f_len) (ed_lenI (ns := o) (ed_ixT (ed_name (d := .tup [.str "stuck", tI l, tI o]) 6 rfl) ed_int rfl) W.f_len))) fun _ => ed_one (ed_cmp (ec_eqL (ls := ((o.filter fun t => !decide (t ∈ l)).map fun t => srtI (l ++ [t])).filter fun z => decide (z ∈ tornF E i)) (ms := []) (ed_flt [("_law_lot", 8)] (fun z => decide (z ∈ tornF E i)) tI (as := (o.filter fun t => !decide (t ∈ l)).map fun t => srtI (l ++ [t])) (g := tI) hnd (by kernel_rfl) (iv_list (ed_name 7 rfl)) ?_ (fun z hz => ⟨_, [8], gv_name 8 hnd, by decide, et_cmp (ec_inT (ed_name 8 rfl) (ed_name (d := lI (tornF E i)) 5 rfl)), fun _ => ed_name 8 rfl⟩)) (ed_lst ea_nil (Nat.le_of_ble_eq_true rfl))))) ?_) rfl
      · have := List.length_filter_le (fun t => !decide (t ∈ l)) o
        rw [List.length_map]
        omega
      · have hnil : (((o.filter fun t => !decide (t ∈ l)).map fun t => srtI (l ++ [t])).filter fun z => decide (z ∈ tornF E i)) = [] := by
          rw [List.filter_eq_nil_iff]
          intro z hz
          obtain ⟨t, ht, rfl⟩ := List.mem_map.mp hz
          obtain ⟨h7, h8⟩ := List.mem_filter.mp ht
          have := q6 t h7 (by simpa using h8)
          simpa using this
        rw [hnil, decide_eq_true q1, decide_eq_true q2, decide_eq_true (by omega)]
        simp
end Gl

namespace Gl
open PySem PySem.Spec L2 PyProof.Rows
variable {g : Pg}

section
variable {S : Sx} {q : Option Addr} {ρ : En} {d da db : Dt} {e a b c : Expr} {es : List Expr} {pos : Pos} {x : Str} {i : Nat} {sts A : List Stmt} {Rn : En → Prop} {Rr : Dt → Prop}
theorem ev_cmp {op : CmpOp} {r : R2} {Ra Rb R : Dt → Prop} (ho : ∀ X, S.Has X → OpR X (compareOp op) r) (ha : EV S q a ρ Ra) (hb : EV S q b ρ Rb) (hr : ∀ da db, Ra da → Rb db → ∃ d, R d ∧ RD r da db d) (h1 : behindInMarks op b = false := by first | exact nobehind _ (by decide) (by decide) | rfl) : EV S q (.Compare a [op] [b] pos) ρ R := fun X hX P σ H w er Q k => by
  refine wE.of (pe_cmp pc_w h1) ?_
  refine ⟨fun pins s I => ?_⟩
  refine bin (X := X) pe_w pe_w (R := fun x y H2 => r x y H2 Q) (ta := wE X a) (tb := wE X b) I ?_ fun v u s2 x y H2 I2 rx ry h => ho X hX pins s2 σ H2 x y v u Q I2 rx ry h
  refine ha X hX P σ H w er _ fun v d1 H1 g1 q1 r1 => ?_
  refine hb X hX P σ H1 (w.go g1) (er.same (w.same g1)) _ fun u d2 H2 g2 q2 r2 => ?_
  obtain ⟨d, rd, h⟩ := hr d1 d2 q1 q2
  refine h P H2 v u ((w.go g1).go g2).ok (r1.same ((w.go g1).same g2)) r2 Q fun z H3 s3 r3 => ?_
  exact k z d H3 ((g1.trans g2).trans (.of s3)) rd r3
theorem ev_one {op : BoolOp} {R : Dt → Prop} (h : EV S q a ρ R) : EV S q (.BoolOp op [a] pos) ρ R := fun X hX P σ H w er Q z => wE.of (pe_one pe_w) (h X hX P σ H w er Q z)
theorem ev_orT (h : EV S q a ρ fun d => ∃ k, d = .bl k) (h2 : EV S q (.BoolOp .Or (b :: es) pos) ρ fun d => d = .bl true) : EV S q (.BoolOp .Or (a :: b :: es) pos) ρ fun d => d = .bl true := fun X hX P σ H w er Q z => by
  refine wE.of (pe_or pe_w pe_w) ?_
  refine h X hX P σ H w er _ fun v d1 H1 g1 q1 r1 => ?_
  obtain ⟨k, rfl⟩ := q1
  refine ⟨k, r1, ?_⟩
  cases k with
  | true => exact iteT (z _ _ H1 g1 rfl rfl)
  | false =>
    refine iteF ?_
    exact h2 X hX P σ H1 (w.go g1) (er.same (w.same g1)) _ fun v d H2 g2 q2 r2 => z v d H2 (g1.trans g2) q2 r2
theorem vt_val {k : Bool} (h : EV S q e ρ fun d => d = .bl k) (he : ∀ (env : Env) whole, isTrue e env whole = (do let v ← whole; standAt e.pos; holding [v] (truthy v)) := by intro _ _; rfl) : VT S q e ρ fun b => b = k := fun X hX P σ H w er Q z => by
  refine wT.of (pt_val pe_w (he X.env)) ?_
  refine h X hX P σ H w er _ fun v d H' g r rp => ?_
  subst r
  exact ⟨k, rp, z k H' g rfl⟩
theorem vt_not {k : Bool} (h : VT S q a ρ fun b => b = k) : VT S q (.UnaryOp .Not a pos) ρ fun b => b = !k := fun X hX P σ H w er Q z => by
  refine wT.of (pt_not pt_w) ?_
  refine h X hX P σ H w er _ fun b H' g r => ?_
  subst r
  exact z _ H' g rfl
theorem sv_skipV (h : VT S q c ρ fun b => b = false) (k : SV S q sts ρ Rn Rr) : SV S q (.If c A [] pos :: sts) ρ Rn Rr := sv_ifV h (fun z => by cases z) fun _ => sv_nil k
theorem ev_bi {p : Pos} {id : String} {r : List V → Hp → VK → Prop} {T : List Dt → Prop} {R : Dt → Prop} (hc : ∀ X, S.Has X → CallR X (.builtin id) r) (ha : VA S q (e :: es) ρ T) (hr : ∀ ds, T ds → ∃ d, R d ∧ RC r ds d) (hm : S.mg x = none) (hv : bootBuiltins x = some (.builtin id) := by decide +kernel) (hg : S.sc.names.lookup x = some .globalImplicit := by rfl)
    (hn : x ≠ "__name__" := by decide) (hd : (x == ("__debug__" : Str)) = false := by decide) (he : ∀ env : Env, starEach (e :: es) env = (false, eval e env) :: starEach es env := by intro _; rfl) (hpl : ∀ env : Env, (backTo pos (starEach es env)).any (·.1) = false := by intro _; rfl) :
    EV S q (.Call (.Name x p) (e :: es) [] pos) ρ R := fun X hX P σ H w er Q z => by
  refine wE.of (pe_callB (hc X hX) (hX.gl hg) (by rw [hX.mg]; exact hm) hv pa_w hn hd (he X.env) (hpl X.env)) ?_
  refine ha X hX P σ H w er _ fun vs ds H1 g1 t1 r1 => ?_
  obtain ⟨d, rd, h⟩ := hr ds t1
  exact h P H1 vs (w.go g1).ok r1 Q fun v H' s r => z v d H' (g1.trans (.of s)) rd r
theorem all2_rep {α : Type} {x : Dt} {as : List α} {ys : List Dt} (h : All2 (fun (_ : α) y => y = x) as ys) : ys = List.replicate as.length x := by
  induction h with
  | nil => rfl
  | cons r _ ih => rw [r, ih]; rfl
theorem ev_all {p : Pos} {m : Nat} (ha : EV S q a ρ fun d => d = .lst (List.replicate m (.bl true))) (hm : S.mg "all" = none) (hg : S.sc.names.lookup ("all" : Str) = some .globalImplicit := by rfl) (hs : ∀ env : Env, starEach [a] env = (false, eval a env) :: starEach [] env := by intro _; rfl) : EV S q (.Call (.Name "all" p) [a] [] pos) ρ fun d => d = .bl true :=
  ev_bi (cl_of (r := rAll) fun X hc => cr_all hc) (va_cons ha (va_of (R := fun ds => ds = []) ea_nil rfl) hs) (fun ds hds => by
    obtain ⟨d, t, rfl, rfl, rfl⟩ := hds
    refine ⟨.bl true, rfl, fun P H vs pk r0 Q z => ?_⟩
    obtain ⟨v, rfl, r⟩ := r0.at1
    obtain ⟨l, ws, rfl, g, r⟩ := rep_lst r
    rw [← List.map_replicate (f := Dt.bl)] at r
    rw [r.of_bls] at g
    exact ⟨l, _, rfl, .inl (.inl g), z _ H (Same.refl H) (by rw [show (List.replicate m true).all id = true from List.all_eq_true.mpr fun x hx => (List.mem_replicate.mp hx).2]; rfl)⟩) (he := hs) (hm := hm) (hg := hg)
theorem sv_setMap {p1 spos : Pos} {tg iter elt : Expr} {α : Type} {as : List α} {g : α → Dt} {scope : Scope} (dd : Dt) (i : Nat) (own : List (Str × Nat)) (f : α → Dt) (hn : S.N.Nodup) (ok : blkC S.N S.sc scope own = true) (hi : IV S tg iter ρ (as.map g)) (hz : as.length ≤ 100000)
    (turn : ∀ a, a ∈ as → ∃ ρ' js, GV (S.blk scope) tg js (g a) (wipeD ρ (own.map (·.2))) ρ' ∧ (∀ j ∈ js, j ∈ own.map (·.2)) ∧ ED (S.blk scope) elt ρ' (f a)) (hd : .lst (as.map f) = dd)
    (k : SV S q sts (ρ.set i (some dd)) Rn Rr) (hN : S.N[i]? = some x := by rfl) (hv : S.sc.names.lookup x = some .local := by rfl) (hkd : S.sc.kind = .function := by rfl) (hl : (p1.line == pos.line) = true := by rfl)
    (hsc : (scope.names.any fun (n, k) => n == x && (k == .local || k == .cell)) = false := by decide +kernel) (hs : ∀ (env : Env) x, foldedSetIterable iter env x = pure x := by intro _ _; rfl) : SV S q (.Assign [.Name x p1] (.ListComp elt [⟨tg, iter, [], 0⟩] scope pos) spos :: sts) ρ Rn Rr :=
  sv_setLc (as := as) (g := g) i (fun a o => o = if (fun _ => true) a = true then some (f a) else none) own hn ok hi hz (fun a ha => by
    obtain ⟨ρ', js, h1, h2, h3⟩ := turn a ha
    exact ⟨ρ', js, true, h1, h2, ei_nil, fun z => EV.of h3 rfl, fun z => by cases z⟩) (fun ys o => by
    rw [o.flt, List.filter_eq_self.mpr fun _ _ => rfl, hd]
    exact k) hN hv hkd hl hsc hs
end
theorem sc_law_right : FnScope ["_law_pot_here", "_law_many", "_law_lots", "_law_tops", "_law_back", "_law_lot", "_law_turn", "_law_thing", "_law_top"] ["_law_pot_here"] (defScope s_law_right) := ⟨rfl, rfl, rfl, by decide +kernel, rfl, by decide +kernel, by decide +kernel⟩
theorem fn_law_right (W : Wl g) : FnP g "_law_right" 16 (spV fun ds R => ds = [] ∧ R = (fun d => d = .bl true)) :=
  mkFnV (st := s_law_right) W.d_law_right W.g_law_right sc_law_right (fun _ _ _ _ _ _ us hl => match us, hl with | [_], _ => rfl) (fun ds R h => by obtain ⟨rfl, rfl⟩ := h <;> rfl) fun p ds R h => by
    obtain ⟨rfl, rfl⟩ := h
    have hnd := sc_law_right.nd
    refine sv_setV (R := fun d => ∃ n : Nat, d = .int n ∧ 1 ≤ n ∧ n ≤ 5) 1 (ev_op (Ra := fun d => d = .int 1) (Rb := drawR 5) (fun X _ => op_add) (EV.of ed_int rfl) (ev_draw W (N := []) (sc := defScope s_law_right) (k := 0) rfl (ed_name 0 rfl) ed_int (by decide) (by decide)) fun da db ha hb => ?_) (fun d hd => ?_) hnd
    · obtain ⟨i, hi, rfl⟩ := hb
      subst ha
      exact ⟨.int (1 + i), ⟨1 + i, by rw [Int.natCast_add]; rfl, by omega, by omega⟩, rd_I0 (f := fun i j => .int (i + j)) fun _ _ _ => rfl⟩
    obtain ⟨n, rfl, h1, h5⟩ := hd
    refine sv_setV (R := fun d => ∃ p, Fam n p ∧ d = lI ((every n).filter p)) 2 (ev_callV (T := fun ds => ds = [.int n]) (fn_law_house W) (va_pot (ed_name 0 rfl) (va_of (ea_cons (ed_name 1 rfl) ea_nil) rfl)) fun ds h => ⟨n, h, h1, h5, rfl⟩) (fun d hd => ?_) hnd
    obtain ⟨p, F, rfl⟩ := hd
    have hr := fam_hr h1 h5 F
    generalize (every n).filter p = lots at hr
    refine sv_setV (R := fun d => d = lI (longF lots)) 3 (ev_call (fn_greatest W) (va_cons (R := fun d => d = .int n) (EV.of (ed_name 1 rfl) rfl) (va_cons (ev_callV (R := fun d => ∃ ys : List Dt, ys.Perm (lots.map tI) ∧ d = .lst ys) (T := fun ds => ds = [lI lots]) (fn_law_mixed W) (va_pot (ed_name 0 rfl) (va_of (ea_cons (ed_name 2 rfl) ea_nil) rfl)) fun ds h => ⟨lots.map tI, h, by rw [List.length_map]; exact hr.len, rfl⟩) (va_of (R := fun ds => ds = []) ea_nil rfl))) fun ds hds => ?_) (fun d hd => ?_) hnd
    · obtain ⟨d, r, rfl, rfl, d2, r2, rfl, ⟨ys, hp, rfl⟩, rfl⟩ := hds
      obtain ⟨zs, e, hp2⟩ := perm_map hp lots rfl
      exact ⟨_, rfl, n, zs, by rw [e]; rfl, (hr.hs zs hp2).1, by rw [(hr.hs zs hp2).2]⟩
    subst hd
    refine sv_skip (ET.is (et_w (ew_or (l := false) (et_cmp (ec_neL (ls := longF lots) (ms := longF lots) (ed_name 3 rfl) (ed_flt [("_law_lot", 5)] (fun l => decide ((l.length : Int) = (lastLen lots : Int))) tI (as := lots) (g := tI) hnd (by kernel_rfl) (iv_list (ed_name 2 rfl)) (by have := hr.len; omega) (fun l hl => ⟨_, [5], gv_name 5 hnd, by decide, et_cmp (ec_eqI (ed_lenI (ed_name 5 rfl) W.f_len) (ed_lenI (ns := lots.getLastD []) (ed_ixL (ed_name 2 rfl) (ed_neg ed_int) (atI_last (by rw [List.getLast?_map, List.getLast?_eq_some_getLast hr.ne, List.getLastD_eq_getLast?, List.getLast?_eq_some_getLast hr.ne]; rfl))) W.f_len)), fun _ => ed_name 5 rfl⟩)))) fun _ => ew_or1 (ET.is (et_not (et_val (ed_call (fn_law_exchange_right W) (ea_cons (ed_name 3 rfl) ea_nil) ⟨longF lots, rfl, hr.tlen, fun l hl => by have := hr.tlot l hl; omega, hr.xr, rfl⟩))) rfl))) (by simp)) ?_
    refine sv_skipV (vt_not (k := true) (vt_val (ev_all (m := 5) (EV.mono (ev_map (fun _ y => y = .bl true) [("_law_turn", 6)] (as := List.range 5) (g := fun i => .int (i : Int)) hnd (by kernel_rfl) (iv_rangeZ ed_int (by decide) (by decide) W.f_range) (by decide) (fun i hi => ⟨_, [6], gv_name 6 hnd, by decide, ev_callV (R := fun d => d = .bl true) (T := fun ds => ds = [.int n, lI lots, lI (longF lots)]) (fn_law_heavy_right W) (va_pot (ed_name 0 rfl) (va_of (ea_cons (ed_name 1 rfl) (ea_cons (ed_name 2 rfl) (ea_cons (ed_name 3 rfl) ea_nil))) rfl)) fun ds h => ⟨n, lots, longF lots, h, by omega, hr.len, hr.tlen, hr.lot, hr.trng, hr.tlot, hr.gr, rfl⟩⟩)) fun d hd => ?_) W.f_all))) ?_
    · obtain ⟨ys, rfl, h⟩ := hd
      rw [all2_rep h]
      rfl
    refine sv_skipV (vt_not (k := true) (vt_val (ev_callV (R := fun d => d = .bl true) (T := fun ds => ds = [.int n, lI lots, lI (longF lots)]) (fn_law_thing_right W) (va_pot (ed_name 0 rfl) (va_of (ea_cons (ed_name 1 rfl) (ea_cons (ed_name 2 rfl) (ea_cons (ed_name 3 rfl) ea_nil))) rfl)) fun ds h => ⟨n, lots, longF lots, h, h1, by omega, hr.tr, rfl⟩))) ?_
    refine sv_setMap (lI ((longF lots).map (bacF n))) 4 [("_law_top", 8)] (as := longF lots) (g := tI) (fun top => tI (bacF n top)) hnd (by kernel_rfl) (iv_list (ed_name 3 rfl)) (by have := hr.tlen; omega) (fun top ht => ⟨_, [8], gv_name 8 hnd, by decide, ED.is (ed_tupleL (ed_flt [("_law_thing", 7)] (fun i => !decide ((i : Int) ∈ top)) (fun (i : Nat) => .int (i : Int)) (as := List.range n) (g := fun i => .int (i : Int)) hnd (by kernel_rfl) (iv_rangeZ (ed_name 1 rfl) (by omega) (by omega) W.f_range) (by simp; omega) (fun i hi => ⟨_, [7], gv_name 7 hnd, by decide, et_cmp (ec_niI (ed_name 7 rfl) (ed_name 8 rfl) (.inl rfl)), fun _ => ed_name 7 rfl⟩)) W.f_tuple) ?_⟩) ?_ ?_
    · unfold tI bacF ir
      rw [List.filter_map, List.map_map]
      rfl
    · unfold lI
      rw [List.map_map]
      rfl
    have H0 := (hr.hs lots (List.Perm.refl _)).1
    refine sv_skip (ET.is (et_cmp (ec_neL (ls := sortR ((longF lots).map (bacF n))) (ED.is (ed_call (fn_greatest W) (ea_cons (ed_name 1 rfl) (ea_cons (ed_call (fn_mirror W) (ea_cons (ed_name 1 rfl) (ea_cons (ed_name 2 rfl) ea_nil)) ⟨n, lots, rfl, by omega, H0, rfl⟩) ea_nil)) ⟨n, mirF n lots, rfl, hr.mr.hs, rfl⟩) (by rw [hr.mr.gre])) (ed_sortT (ed_name 4 rfl) hr.bac (by rw [List.length_map]; exact hr.tlen) W.f_sorted))) (by simp)) ?_
    exact sv_retV (ev_orT (ev_cmp (Ra := drawR 4) (Rb := fun d => d = .int 0) (fun X _ => op_gt) (ev_draw W (N := []) (sc := defScope s_law_right) (k := 0) rfl (ed_name 0 rfl) ed_int (by decide) (by decide)) (EV.of ed_int rfl) fun da db ha hb => by
      obtain ⟨i, hi, rfl⟩ := ha
      subst hb
      exact ⟨_, ⟨_, rfl⟩, rd_I0 (f := fun i j => .bl (decide (j < i))) fun _ _ _ => rfl⟩) (ev_one (ev_callV (R := fun d => d = .bl true) (T := fun ds => ds = []) (fn_law_lines_right W) (va_pot (ed_name 0 rfl) (va_of ea_nil rfl)) fun ds h => ⟨every 7, h, rfl, lr_fano, rfl⟩)))
end Gl

namespace Gl
open PySem PySem.Spec L2 PyProof.Rows
variable {g : Pg}

/-- a def that gives something new -/
def spN (G : List Dt → Dt → Prop) : Sp := fun vs H Q _ => ∃ (P : Addr → Bool) (ds : List Dt) (d : Dt), Pok P H ∧ RepL (hid P H) ds vs ∧ G ds d ∧ ∀ p o H1, Same H H1 → H1 p = none → Cont (hid P H1) d o → Q (.ref p) (upd H1 p o)
def SN (S : Sx) (sts : List Stmt) (ρ : En) (c : Dt) : Prop := ∀ X, S.Has X → ∀ (P : Addr → Bool) (σ : L2.St) (H : Hp), Pok P H → ERep (hid P H) σ ρ →
  ∀ E : Ends, (∀ p o H1, Same H H1 → H1 p = none → Cont (hid P H1) c o → E.rt (.ref p) (upd H1 p o)) → wSs X sts E σ H
section
variable {S : Sx} {q : Option Addr} {ρ : En} {d c : Dt} {e : Expr} {es : List Expr} {pos p p1 : Pos} {x y : Str} {i : Nat} {sts : List Stmt}
theorem sn_set (i : Nat) (h : ED S e ρ d) (k : SN S sts (ρ.set i (some d)) c) (hn : S.N.Nodup) (hN : S.N[i]? = some x := by rfl) (hv : Loc S.sc x := by first | exact Or.inl rfl | exact Or.inr rfl) (hf : S.fn x = true ∨ S.sc.names.lookup x = some .local := by first | exact .inl rfl | exact .inr rfl)
    (hs : ∀ env : Env, env.scope = S.sc → swapsWith e (some (.Name x p1)) pos.line env = pure false := by first | (intro _ _; rfl) | (intro env he; cases env; subst he; rfl)) : SN S (.Assign [.Name x p1] e pos :: sts) ρ c := fun X hX P σ H w er E rt => by
  refine wSs.of (pss_cons ps_w pss_w) ?_
  refine wS.of (ps_set (i := i) (by rw [hX.N]; exact hn) (by rw [hX.N]; exact hN) (by rw [hX.sc]; exact hv) pe_w (hs X.env hX.sc) (by rw [hX.sc]; exact hf.imp (hX.fn x) id)) ?_
  refine h X hX P σ H w er _ fun v H1 s1 r1 => ?_
  exact k X hX P _ H1 (w.same s1) ((er.same s1.hid).set i r1) E fun p o H2 s2 n ct => rt p o H2 (s1.trans s2) n ct
theorem sn_ret (h : EN S e ρ c) : SN S (.Return (some e) pos :: sts) ρ c := fun X hX P σ H w er E rt => by
  refine wSs.of (pss_cons ps_w pss_w) ?_
  refine wS.of (ps_ret pe_w) ?_
  exact h X hX P σ H w er _ fun p o H1 s n ct => rt p o H1 s n ct
theorem mkFnN {st : Stmt} {N ps : List Str} {k : Nat} {G : List Dt → Dt → Prop} (hf : ∃ fd, FunD g.K x x (defArgs st) (defBody st) (defScope st) [] [] (He.ga g.K x) fd) (hm : g.mg x = some (.ref (He.ga g.K x))) (sc : FnScope N ps (defScope st))
    (hb : ∀ (kV doc pm : Value) (an : Option Addr) (cdv ct : Value) (us : List Value), us.length = ps.length → bindArgs (PySem.W.fnOf x x (defArgs st) (defBody st) (defScope st) .none kV doc pm an cdv ct) ⟨us, []⟩ = pure (ps.zip us))
    (len : ∀ ds d, G ds d → ds.length = ps.length) (body : ∀ ds d, G ds d → SN (g.S N (defScope st) k) (defBody st) (startD N ds) d) : FnP g x (k + 1) (spN G) := by
  obtain ⟨fd, F⟩ := hf
  refine ⟨_, fd, ps, hm, F.kp, F.ok sc (fun vs H Q E h => ?_) (fun cdv A outer s H vs Q E hr h => ?_), F.bindsN hb⟩
  · obtain ⟨P, ds, d, _, r, hG, _⟩ := h
    rw [r.length, len ds d hG]
  · obtain ⟨P, ds, d, pk, r, hG, k⟩ := h
    refine ⟨wSs _ (defBody st), pss_w, ?_⟩
    refine body ds d hG _ ?has P _ H pk r.start _ fun p o H' s n ct => ?_
    case has => exact ⟨rfl, rfl, rfl, rfl, rfl, rfl, rfl, fun _ _ => rfl, hr, rfl⟩
    exact k p o H' s n ct
theorem potN (W : Wl g) : FnP g "_law_pot" 2 (spN fun ds d => ∃ ns : List Int, ds = [.ro g.K ns, .int 0] ∧ d = .lst [.int (potA ns), .int (potB ns)]) :=
  mkFnN (st := s_law_pot) W.d_law_pot W.g_law_pot sc_law_pot (fun _ _ _ _ _ _ us hl => match us, hl with | [_, _], _ => rfl) (fun ds d h => by obtain ⟨ns, rfl, rfl⟩ := h <;> rfl) fun ds d h => by
    obtain ⟨ns, rfl, rfl⟩ := h
    refine sn_set (d := .int (potC ns)) 2 (ED.is (ed_if (d := .int (potC ns)) (et_cmp (ec_lt (ed_name 1 rfl) (ed_lenRo rfl (ed_name 0 rfl) W.f_len))) (fun h => ?_) fun h => ?_) rfl) ?_ sc_law_pot.nd
    · have h0 : 0 < (ns.length : Int) := by simpa using h
      have h1 : atI ns 0 = some (ns.headD 0) := by
        cases ns with
        | nil => simp at h0
        | cons x r => exact atI_nat (i := 0) rfl
      refine ED.is (ed_absI (ed_ixRo rfl (ed_name 0 rfl) (ed_name 1 rfl) h1) W.f_abs) ?_
      unfold potC
      rw [if_pos h]
    · refine ED.is (ed_add (ed_mul ed_int (ed_name 1 rfl) (.inl (by decide))) ed_int) ?_
      unfold potC
      (rw [if_neg (by rw [h]; exact Bool.false_ne_true)])
    · exact sn_ret (en_lst (ea_cons (ed_max2 ed_int (ed_sub (ed_name 2 rfl) (ed_pow ed_int ed_int ⟨by decide, by decide, by decide⟩)) W.f_max) (ea_cons (ed_add (ed_mod (ed_intI (ed_add (ed_add (ed_mul (ed_mod (ed_intI (ed_name 2 rfl) W.f_int) ed_int (by decide)) ed_int (.inr (by decide))) (ed_mul ed_int (ed_name 1 rfl) (.inl (by decide)))) ed_int) W.f_int) ed_int (by decide)) ed_int) ea_nil)) (Nat.le_of_ble_eq_true rfl))
/-- a def with a new pot that another def has made -/
theorem ed_newPot {p2 pos2 : Pos} {k1 k2 : Nat} {G : List Dt → (Dt → Prop) → Prop} {G2 : List Dt → Dt → Prop} {a b : Int} {ds : List Dt} (F1 : FnP S.pg x k1 (spV G)) (F2 : FnP S.pg y k2 (spN G2)) (ha : EA S (e :: es) ρ ds) (h2 : G2 ds (.lst [.int a, .int b])) (ha0 : 0 ≤ a) (hb0 : 0 ≤ b) (hb1 : b < 4294967296) (hG : G [] fun d => d = .bl true)
    (hk : k1 ≤ S.k := by exact Nat.le_of_ble_eq_true rfl) (hk2 : k2 ≤ S.k := by exact Nat.le_of_ble_eq_true rfl) (hg : S.sc.names.lookup x = some .globalImplicit := by rfl) (hg2 : S.sc.names.lookup y = some .globalImplicit := by rfl) (hd : (x == ("__debug__" : Str)) = false := by decide) (hd2 : (y == ("__debug__" : Str)) = false := by decide)
    (he2 : ∀ env : Env, starEach (e :: es) env = (false, eval e env) :: starEach es env := by intro _; rfl) (hpl2 : ∀ env : Env, (backTo pos2 (starEach es env)).any (·.1) = false := by intro _; rfl) : ED S (.Call (.Name x p) [.Call (.Name y p2) (e :: es) [] pos2] [] pos) ρ (.bl true) := fun X hX P σ H w er Q z => by
  obtain ⟨fa, fd, ps, h1, h3, h4, h5⟩ := F1.ex
  obtain ⟨fb, fe, qs, k1, k3, k4, k5⟩ := F2.ex
  have he : ∀ env : Env, starEach [.Call (.Name y p2) (e :: es) [] pos2] env = (false, eval (.Call (.Name y p2) (e :: es) [] pos2) env) :: starEach [] env := fun _ => rfl
  refine wE.of (pe_call (hX.fnok h4) (hX.room.mono hk) (hX.gl hg) (by rw [hX.mg]; exact h1) (by rw [hX.K]; exact h3) (by rw [hX.K]; exact h5) .nil pass0 (pa_cons pe_w pa_nil (he X.env)) hd (he X.env) rfl) ?_
  refine wE.of (pe_call (hX.fnok k4) (hX.room.mono hk2) (hX.gl hg2) (by rw [hX.mg]; exact k1) (by rw [hX.K]; exact k3) (by rw [hX.K]; exact k5) .nil pass0 pa_w hd2 (he2 X.env) (hpl2 X.env)) ?_
  refine ha X hX P σ H w er _ fun vs H1 s1 r1 => ?_
  show spN G2 (vs ++ []) H1 _ _
  rw [List.append_nil]
  refine ⟨P, ds, _, w.same s1, r1, h2, fun pt o H2 s2 n ct => ?_⟩
  obtain ⟨us, rfl, v1, r, rfl, e1, v2, r2, rfl, e2, e3⟩ := ct
  rw [show r2 = [] from e3, show v1 = .int a from e1, show v2 = .int b from e2]
  unfold spV
  have w2 : Pok P H2 := (w.same s1).same s2
  have hpP : P pt = false := w2.no n
  have hat : upd H2 pt (.lst [.int a, .int b]) pt = some (.lst [.int a, .int b]) := upd_same
  have w3 : Pok P (upd H2 pt (.lst [.int a, .int b])) := w2.same (same_new n)
  have w4 : Wd (also P pt) (some pt) (upd H2 pt (.lst [.int a, .int b])) := by
    have w5 : Wd (also P pt) none (upd H2 pt (.lst [.int a, .int b])) := also_wd ⟨w3, fun p z => by cases z⟩ hat
    refine ⟨w5.ok, fun p z => ?_⟩
    injection z with z
    subst z
    exact ⟨also_yes, a, b, ha0, hb0, hb1, hat⟩
  refine ⟨also P pt, pt, [], (fun d => d = .bl true), w4, ⟨.ref pt, [], rfl, rfl, rfl⟩, hG, fun v d H' g r rp => ?_⟩
  rw [show d = .bl true from r] at rp
  refine z v H' (fun c u hc => ?_) rp
  have hc2 := s2 c u (s1 c u hc)
  exact g.keep c u (fun e => by injection e with e; rw [e, n] at hc2; cases hc2) (same_new n c u hc2)
end
theorem sc_law : FnScope ["_law_script", "_law_k"] ["_law_script"] (defScope s_law) := ⟨rfl, rfl, rfl, by decide +kernel, rfl, by decide +kernel, by decide +kernel⟩
def gLaw (K : PySem.W.Frag) : List Dt → Dt → Prop := fun ds d => ∃ ns : List Int, ds = [.ro K ns] ∧ d = .bl true
theorem law_body (W : Wl g) (ds : List Dt) (d : Dt) (h : gLaw g.K ds d) : SV (g.S ["_law_script", "_law_k"] (defScope s_law) 16) none (defBody s_law) (startD ["_law_script", "_law_k"] ds) (fun _ => d = .non) (fun z => z = d) := by
  obtain ⟨ns, rfl, rfl⟩ := h
  refine sv_ret (ED.is (ed_allM (as := List.range 1) (f := fun _ => true) (ed_map [("_law_k", 1)] (as := List.range 1) (g := fun (i : Nat) => .int (i : Int)) (fun _ => .bl true) sc_law.nd (by kernel_rfl) (iv_rangeZ (m := 1) (ED.is (ed_max2 ed_int (ed_min2 ed_int (ed_lenRo rfl (ed_name 0 rfl) W.f_len) W.f_min) W.f_max) (congrArg Dt.int (by split <;> split <;> omega))) (by decide) (by decide) W.f_range) (by decide) (fun i hi => ⟨_, [1], gv_name 1 sc_law.nd, by decide, ?_⟩)) W.f_all) rfl) rfl
  have hi0 : i = 0 := by
    have := List.mem_range.mp hi
    omega
  subst hi0
  exact ed_newPot (fn_law_right W) (potN W) (ea_cons (ed_name 0 rfl) (ea_cons (ed_name 1 rfl) ea_nil)) ⟨ns, rfl, rfl⟩ (potA_ok ns) (potB_ok ns).1 (potB_ok ns).2 ⟨rfl, rfl⟩
theorem law_ok {P : Program} {w : World} {K : PySem.W.Frag} {mg : Str → Option Value} {base : Heap} {fd : FuncData} (F : FunD K "law" "law" (defArgs s_law) (defBody s_law) (defScope s_law) [] [] (He.ga K "law") fd) (W : Wl ⟨P, w, K, mg, base⟩) : FnOk P w K mg base CX0 17 (He.ga K "law") fd ["_law_script"] (spP (gLaw K)) := by
  refine F.ok sc_law (fun vs H Q E h => ?_) (fun cdv A outer s H vs Q E hr h => ?_)
  · obtain ⟨P, ds, d, _, r, hG, _⟩ := h
    obtain ⟨ns, rfl, rfl⟩ := hG
    exact r.length
  · obtain ⟨P, ds, d, pk, r, hG, k⟩ := h
    refine ⟨wSs _ (defBody s_law), pss_w, ?_⟩
    refine law_body W ds d hG _ ?has P _ H ⟨pk, fun p z => by cases z⟩ r.start _ (fun σ' ρ' H' go _ e => ?_) fun v z H' go rp e => ?_
    case has => exact ⟨rfl, rfl, rfl, rfl, rfl, rfl, rfl, fun _ _ => rfl, hr, rfl⟩
    · rw [e] at k
      exact k .non H' go.none rfl
    · rw [show z = d from e] at rp
      exact k v H' go.none rp
theorem law_in {K : PySem.W.Frag} {H : Hp} {a : Addr} {ns : List Int} (h : SqL K H a (ns.map V.int)) : spP (gLaw K) [.ref a] H (fun v _ => v = .bl true) fun _ _ _ => False := by
  have e : hid (fun _ => false) H = H := funext fun b => hid_no rfl
  refine ⟨fun _ => false, [.ro K ns], .bl true, (fun b hb => by cases hb), ⟨.ref a, [], rfl, ⟨a, rfl, ?_⟩, rfl⟩, ⟨ns, rfl, rfl⟩, fun v H' _ r => r⟩
  rw [e]
  exact h

end Gl

open PySem PySem.W PyProof.Rows PySem.Calls
theorem PySem.Challenge.cw_onecrest_k68_whole_greatest_lots_holds : PySem.Challenge.rw_onecrest_k68_whole_greatest_lots.Holds := by
  w_on; o_law
  refine HandSHeadRun.head_any (r := Gl.R) (q := Gl.qv) (H := Gl.hk) (ob := Gl.ob) (M := 100000) (loose := Gl.loose) (d := HandSHeadRun.topDef Gl.R.prog 104) (kwd := []) Gl.ob_eq
    (by kernel_rfl) (fun s => by kernel_rfl) Gl.run (by kernel_rfl) (by kernel_rfl) (by kernel_rfl) (by rfl) (by first | assumption | decide +kernel) (by decide +kernel) ⟨rfl, rfl, rfl, rfl, rfl, by decide +kernel⟩ ?hw ?hc
  case hw => w_witness2
  case hc =>
    refine L2.walk_ofE (l := PySem.Challenge.rw_onecrest_k68_whole_greatest_lots) (n := 63) (k := 17) (x := "_law_script") (CX := L2.CX0) rfl (by decide) (by kernel_rfl) ⟨rfl, by decide, by decide⟩ ?F (fun _ _ _ _ z => z)
    intro w mg fa h Y G hmg0
    obtain ⟨K, KX, c⟩ := Y
    have e : (HandSHeadRun.topDef Gl.R.prog 104).name = ("law" : PySem.Str) := by kernel_rfl
    rw [e] at hmg0
    have W0 : Gl.Wl ⟨PySem.Challenge.rw_onecrest_k68_whole_greatest_lots.prog, w, K, mg, h⟩ := ⟨c, h, KX, G⟩
    obtain ⟨fd, F⟩ := W0.d_law
    have ea := hmg0.symm.trans W0.g_law
    injection ea with ea
    injection ea with ea
    subst ea
    have b := L2.FunD.bindsA (ps := ["_law_script"]) F fun _ _ _ _ _ _ us hl => match us, hl with | [_], _ => rfl
    exact ⟨K, fd, Gl.spP (Gl.gLaw K), KX, fun s v => b s [v] rfl, fun H a ns hl _ hS => Gl.law_in hS, fun base _ _ => Gl.law_ok F ⟨c, h, KX, G⟩⟩
