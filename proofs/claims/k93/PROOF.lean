import PyProof.Rows.All
import Wide.All
import OpenK.AllK
import Wide.FinOn
import KE.KStateDown
import Lean
import HandS.Base
import HandS.Call
import HandS.Ends
import HandS.More
import HandS.Words
import HandS.WordsExc
import HandS.Defaults
import HandS.Head0
import HandS.Head1
import HandS.Head2
import HandS.HeadEnd
import HandS.HeadHook1
import HandS.HeadHook2
import HandS.HeadHook3
import HandS.HeadHook4
import PySem.Str
import PyProof.Dict
import PySem.Builtin.Tuple.Common
import KE.DataEq
import KE.DataMinMax
import KE.SortData
import HandS.ForMost
import HandS.Zip
import HandS.Conv
import HandS.IsInst
import HandS.TupAny
import HandS.TupLe
import HandS.Style
import HandS.Star
import HandS.Flow
import HandS.GenList
import HandS.TupSets
import HandS.DictTup
import HandS.Iter
import HandS.Dict
import HandS.Strs
import KE.GoesMore
import KE.KeyNested
import PySem.Challenge.RW_throwshelves_k93_whole_counts_and_the_or
section
set_option Elab.async false
set_option linter.all false
set_option maxRecDepth 100000
set_option maxHeartbeats 0
namespace K93
open PySem PySem.Spec PyProof.Rows L2
def top (i : Nat) : Stmt := PySem.Challenge.pw_throwshelves_k93_whole_counts_and_the_or.main.body.getD i (.Pass ⟨0, 0, 0, 0⟩)
def dd_2 : He.DefD := ⟨("is_integer", none), "is_integer", "is_integer", defArgs (top 2), defBody (top 2), defScope (top 2), [], []⟩
def dd_3 : He.DefD := ⟨("is_number", none), "is_number", "is_number", defArgs (top 3), defBody (top 3), defScope (top 3), [], []⟩
def dd_4 : He.DefD := ⟨("is_index", none), "is_index", "is_index", defArgs (top 4), defBody (top 4), defScope (top 4), [], []⟩
def dd_5 : He.DefD := ⟨("is_size", none), "is_size", "is_size", defArgs (top 5), defBody (top 5), defScope (top 5), [], []⟩
def dd_6 : He.DefD := ⟨("is_tuple_of", none), "is_tuple_of", "is_tuple_of", defArgs (top 6), defBody (top 6), defScope (top 6), [], []⟩
def dd_7 : He.DefD := ⟨("is_prime", none), "is_prime", "is_prime", defArgs (top 7), defBody (top 7), defScope (top 7), [], []⟩
def dd_8 : He.DefD := ⟨("is_stretch", none), "is_stretch", "is_stretch", defArgs (top 8), defBody (top 8), defScope (top 8), [], []⟩
def dd_10 : He.DefD := ⟨("rank_in", none), "rank_in", "rank_in", defArgs (top 10), defBody (top 10), defScope (top 10), [], []⟩
def dd_18 : He.DefD := ⟨("want", none), "want", "want", defArgs (top 18), defBody (top 18), defScope (top 18), [.int (-1)], []⟩
def dd_19 : He.DefD := ⟨("want_prime", none), "want_prime", "want_prime", defArgs (top 19), defBody (top 19), defScope (top 19), [], []⟩
def dd_20 : He.DefD := ⟨("want_size", none), "want_size", "want_size", defArgs (top 20), defBody (top 20), defScope (top 20), [], []⟩
def dd_22 : He.DefD := ⟨("form_fault", none), "form_fault", "form_fault", defArgs (top 22), defBody (top 22), defScope (top 22), [], []⟩
def dd_23 : He.DefD := ⟨("is_pattern_by", none), "is_pattern_by", "is_pattern_by", defArgs (top 23), defBody (top 23), defScope (top 23), [], []⟩
def dd_24 : He.DefD := ⟨("lands_by", none), "lands_by", "lands_by", defArgs (top 24), defBody (top 24), defScope (top 24), [], []⟩
def dd_25 : He.DefD := ⟨("balls_by", none), "balls_by", "balls_by", defArgs (top 25), defBody (top 25), defScope (top 25), [], []⟩
def dd_26 : He.DefD := ⟨("swapped_by", none), "swapped_by", "swapped_by", defArgs (top 26), defBody (top 26), defScope (top 26), [], []⟩
def dd_27 : He.DefD := ⟨("pairs_by", none), "pairs_by", "pairs_by", defArgs (top 27), defBody (top 27), defScope (top 27), [], []⟩
def dd_28 : He.DefD := ⟨("is_rise", none), "is_rise", "is_rise", defArgs (top 28), defBody (top 28), defScope (top 28), [], []⟩
def dd_29 : He.DefD := ⟨("depth_by", none), "depth_by", "depth_by", defArgs (top 29), defBody (top 29), defScope (top 29), [], []⟩
def dd_31 : He.DefD := ⟨("is_peer", none), "is_peer", "is_peer", defArgs (top 31), defBody (top 31), defScope (top 31), [], []⟩
def dd_32 : He.DefD := ⟨("want_peer", none), "want_peer", "want_peer", defArgs (top 32), defBody (top 32), defScope (top 32), [.str "other"], []⟩
def dd_33 : He.DefD := ⟨("bar_by", none), "bar_by", "bar_by", defArgs (top 33), defBody (top 33), defScope (top 33), [], []⟩
def dd_34 : He.DefD := ⟨("is_below_by", none), "is_below_by", "is_below_by", defArgs (top 34), defBody (top 34), defScope (top 34), [], []⟩
def dd_35 : He.DefD := ⟨("next_pair", none), "next_pair", "next_pair", defArgs (top 35), defBody (top 35), defScope (top 35), [], []⟩
def dd_36 : He.DefD := ⟨("chain_by", none), "chain_by", "chain_by", defArgs (top 36), defBody (top 36), defScope (top 36), [], []⟩
def dd_38 : He.DefD := ⟨("lies_below", none), "lies_below", "lies_below", defArgs (top 38), defBody (top 38), defScope (top 38), [], []⟩
def dd_39 : He.DefD := ⟨("barring_stretch", none), "barring_stretch", "barring_stretch", defArgs (top 39), defBody (top 39), defScope (top 39), [], []⟩
def dd_40 : He.DefD := ⟨("chain_to", none), "chain_to", "chain_to", defArgs (top 40), defBody (top 40), defScope (top 40), [], []⟩
def dd_42 : He.DefD := ⟨("inverse_in", none), "inverse_in", "inverse_in", defArgs (top 42), defBody (top 42), defScope (top 42), [], []⟩
def dd_43 : He.DefD := ⟨("times_by", none), "times_by", "times_by", defArgs (top 43), defBody (top 43), defScope (top 43), [], []⟩
def dd_44 : He.DefD := ⟨("less_times", none), "less_times", "less_times", defArgs (top 44), defBody (top 44), defScope (top 44), [], []⟩
def dd_46 : He.DefD := ⟨("cleared", none), "cleared", "cleared", defArgs (top 46), defBody (top 46), defScope (top 46), [], []⟩
def dd_47 : He.DefD := ⟨("throw_in", none), "throw_in", "throw_in", defArgs (top 47), defBody (top 47), defScope (top 47), [], []⟩
def dd_48 : He.DefD := ⟨("throws_in", none), "throws_in", "throws_in", defArgs (top 48), defBody (top 48), defScope (top 48), [], []⟩
def dd_50 : He.DefD := ⟨("pattern_of", none), "pattern_of", "pattern_of", defArgs (top 50), defBody (top 50), defScope (top 50), [], []⟩
def dd_54 : He.DefD := ⟨("spot_without", none), "spot_without", "spot_without", defArgs (top 54), defBody (top 54), defScope (top 54), [], []⟩
def dd_55 : He.DefD := ⟨("without_shelf", none), "without_shelf", "without_shelf", defArgs (top 55), defBody (top 55), defScope (top 55), [], []⟩
def dd_56 : He.DefD := ⟨("are_nested_at", none), "are_nested_at", "are_nested_at", defArgs (top 56), defBody (top 56), defScope (top 56), [], []⟩
def dd_57 : He.DefD := ⟨("next_swapped", none), "next_swapped", "next_swapped", defArgs (top 57), defBody (top 57), defScope (top 57), [], []⟩
def dd_62 : He.DefD := ⟨("ended_by", none), "ended_by", "ended_by", defArgs (top 62), defBody (top 62), defScope (top 62), [], []⟩
def dd_63 : He.DefD := ⟨("factor_at", none), "factor_at", "factor_at", defArgs (top 63), defBody (top 63), defScope (top 63), [], []⟩
def dd_64 : He.DefD := ⟨("both_sum", none), "both_sum", "both_sum", defArgs (top 64), defBody (top 64), defScope (top 64), [], []⟩
def dd_65 : He.DefD := ⟨("changed_spot", none), "changed_spot", "changed_spot", defArgs (top 65), defBody (top 65), defScope (top 65), [], []⟩
def dd_66 : He.DefD := ⟨("places_changed", none), "places_changed", "places_changed", defArgs (top 66), defBody (top 66), defScope (top 66), [], []⟩
def dd_67 : He.DefD := ⟨("step_at", none), "step_at", "step_at", defArgs (top 67), defBody (top 67), defScope (top 67), [], []⟩
def dd_68 : He.DefD := ⟨("least_turn", none), "least_turn", "least_turn", defArgs (top 68), defBody (top 68), defScope (top 68), [], []⟩
def dd_69 : He.DefD := ⟨("count_in", none), "count_in", "count_in", defArgs (top 69), defBody (top 69), defScope (top 69), [], []⟩
def dd_70 : He.DefD := ⟨("step_count", none), "step_count", "step_count", defArgs (top 70), defBody (top 70), defScope (top 70), [], []⟩
def dd_71 : He.DefD := ⟨("value_of", none), "value_of", "value_of", defArgs (top 71), defBody (top 71), defScope (top 71), [], []⟩
def dd_72 : He.DefD := ⟨("times_over", none), "times_over", "times_over", defArgs (top 72), defBody (top 72), defScope (top 72), [], []⟩
def dd_74 : He.DefD := ⟨("count_polynomial", none), "count_polynomial", "count_polynomial", defArgs (top 74), defBody (top 74), defScope (top 74), [], []⟩
def dd_75 : He.DefD := ⟨("book_count", none), "book_count", "book_count", defArgs (top 75), defBody (top 75), defScope (top 75), [], []⟩
def dd_76 : He.DefD := ⟨("total_by", none), "total_by", "total_by", defArgs (top 76), defBody (top 76), defScope (top 76), [], []⟩
def dd_77 : He.DefD := ⟨("total_count", none), "total_count", "total_count", defArgs (top 77), defBody (top 77), defScope (top 77), [], []⟩
def dd_79 : He.DefD := ⟨("choices", none), "choices", "choices", defArgs (top 79), defBody (top 79), defScope (top 79), [], []⟩
def dd_80 : He.DefD := ⟨("falls_by", none), "falls_by", "falls_by", defArgs (top 80), defBody (top 80), defScope (top 80), [], []⟩
def dd_81 : He.DefD := ⟨("count_by", none), "count_by", "count_by", defArgs (top 81), defBody (top 81), defScope (top 81), [], []⟩
def dd_82 : He.DefD := ⟨("pattern_count", none), "pattern_count", "pattern_count", defArgs (top 82), defBody (top 82), defScope (top 82), [], []⟩
def dd_83 : He.DefD := ⟨("next_throws", none), "next_throws", "next_throws", defArgs (top 83), defBody (top 83), defScope (top 83), [], []⟩
def dd_84 : He.DefD := ⟨("patterns_of", none), "patterns_of", "patterns_of", defArgs (top 84), defBody (top 84), defScope (top 84), [], []⟩
def dd_86 : He.DefD := ⟨("rows_for", none), "rows_for", "rows_for", defArgs (top 86), defBody (top 86), defScope (top 86), [], []⟩
def dd_87 : He.DefD := ⟨("rows_led", none), "rows_led", "rows_led", defArgs (top 87), defBody (top 87), defScope (top 87), [], []⟩
def dd_88 : He.DefD := ⟨("leads_of", none), "leads_of", "leads_of", defArgs (top 88), defBody (top 88), defScope (top 88), [], []⟩
def dd_89 : He.DefD := ⟨("books_by", none), "books_by", "books_by", defArgs (top 89), defBody (top 89), defScope (top 89), [], []⟩
def dd_90 : He.DefD := ⟨("want_kind", none), "want_kind", "want_kind", defArgs (top 90), defBody (top 90), defScope (top 90), [], []⟩
def dd_91 : He.DefD := ⟨("all_books", none), "all_books", "all_books", defArgs (top 91), defBody (top 91), defScope (top 91), [], []⟩
def dd_92 : He.DefD := ⟨("books_of", none), "books_of", "books_of", defArgs (top 92), defBody (top 92), defScope (top 92), [], []⟩
def dd_96 : He.DefD := ⟨("order_paper", none), "order_paper", "order_paper", defArgs (top 96), defBody (top 96), defScope (top 96), [], []⟩
def dd_97 : He.DefD := ⟨("stop_unless", none), "stop_unless", "stop_unless", defArgs (top 97), defBody (top 97), defScope (top 97), [.int (-1)], []⟩
def dd_98 : He.DefD := ⟨("is_headed", none), "is_headed", "is_headed", defArgs (top 98), defBody (top 98), defScope (top 98), [], []⟩
def dd_99 : He.DefD := ⟨("is_swap_pair", none), "is_swap_pair", "is_swap_pair", defArgs (top 99), defBody (top 99), defScope (top 99), [], []⟩
def dd_100 : He.DefD := ⟨("swaps_end", none), "swaps_end", "swaps_end", defArgs (top 100), defBody (top 100), defScope (top 100), [], []⟩
def dd_101 : He.DefD := ⟨("lets_below", none), "lets_below", "lets_below", defArgs (top 101), defBody (top 101), defScope (top 101), [], []⟩
def dd_103 : He.DefD := ⟨("balls_of", none), "balls_of", "balls_of", defArgs (top 103), defBody (top 103), defScope (top 103), [], []⟩
def dd_105 : He.DefD := ⟨("want_pair", none), "want_pair", "want_pair", defArgs (top 105), defBody (top 105), defScope (top 105), [], []⟩
def dd_106 : He.DefD := ⟨("swapped", none), "swapped", "swapped", defArgs (top 106), defBody (top 106), defScope (top 106), [], []⟩
def dd_107 : He.DefD := ⟨("lowering_swaps", none), "lowering_swaps", "lowering_swaps", defArgs (top 107), defBody (top 107), defScope (top 107), [], []⟩
def dd_108 : He.DefD := ⟨("depth_of", none), "depth_of", "depth_of", defArgs (top 108), defBody (top 108), defScope (top 108), [], []⟩
def dd_110 : He.DefD := ⟨("_law_source", none), "_law_source", "_law_source", defArgs (top 110), defBody (top 110), defScope (top 110), [], []⟩
def dd_111 : He.DefD := ⟨("_law_draw", none), "_law_draw", "_law_draw", defArgs (top 111), defBody (top 111), defScope (top 111), [], []⟩
def dd_112 : He.DefD := ⟨("_law_rows", none), "_law_rows", "_law_rows", defArgs (top 112), defBody (top 112), defScope (top 112), [], []⟩
def dd_113 : He.DefD := ⟨("_law_less", none), "_law_less", "_law_less", defArgs (top 113), defBody (top 113), defScope (top 113), [], []⟩
def dd_114 : He.DefD := ⟨("_law_columns", none), "_law_columns", "_law_columns", defArgs (top 114), defBody (top 114), defScope (top 114), [], []⟩
def dd_115 : He.DefD := ⟨("_law_rank", none), "_law_rank", "_law_rank", defArgs (top 115), defBody (top 115), defScope (top 115), [], []⟩
def dd_116 : He.DefD := ⟨("_law_is_new", none), "_law_is_new", "_law_is_new", defArgs (top 116), defBody (top 116), defScope (top 116), [], []⟩
def dd_117 : He.DefD := ⟨("_law_throws", none), "_law_throws", "_law_throws", defArgs (top 117), defBody (top 117), defScope (top 117), [], []⟩
def dd_118 : He.DefD := ⟨("_law_within", none), "_law_within", "_law_within", defArgs (top 118), defBody (top 118), defScope (top 118), [], []⟩
def dd_119 : He.DefD := ⟨("_law_lands", none), "_law_lands", "_law_lands", defArgs (top 119), defBody (top 119), defScope (top 119), [], []⟩
def dd_120 : He.DefD := ⟨("_law_depth", none), "_law_depth", "_law_depth", defArgs (top 120), defBody (top 120), defScope (top 120), [], []⟩
def dd_121 : He.DefD := ⟨("_law_order", none), "_law_order", "_law_order", defArgs (top 121), defBody (top 121), defScope (top 121), [], []⟩
def dd_122 : He.DefD := ⟨("_law_pattern", none), "_law_pattern", "_law_pattern", defArgs (top 122), defBody (top 122), defScope (top 122), [], []⟩
def dd_123 : He.DefD := ⟨("_law_swapped", none), "_law_swapped", "_law_swapped", defArgs (top 123), defBody (top 123), defScope (top 123), [], []⟩
def dd_124 : He.DefD := ⟨("_law_lowering", none), "_law_lowering", "_law_lowering", defArgs (top 124), defBody (top 124), defScope (top 124), [], []⟩
def dd_125 : He.DefD := ⟨("_law_is_above", none), "_law_is_above", "_law_is_above", defArgs (top 125), defBody (top 125), defScope (top 125), [], []⟩
def dd_126 : He.DefD := ⟨("_law_order_right", none), "_law_order_right", "_law_order_right", defArgs (top 126), defBody (top 126), defScope (top 126), [], []⟩
def dd_127 : He.DefD := ⟨("_law_counts_right", none), "_law_counts_right", "_law_counts_right", defArgs (top 127), defBody (top 127), defScope (top 127), [], []⟩
def dd_128 : He.DefD := ⟨("law", none), "law", "law", defArgs (top 128), defBody (top 128), defScope (top 128), [], []⟩
def fn : List He.DefD := [dd_2, dd_3, dd_4, dd_5, dd_6, dd_7, dd_8, dd_10, dd_18, dd_19, dd_20, dd_22, dd_23, dd_24, dd_25, dd_26, dd_27, dd_28, dd_29, dd_31, dd_32, dd_33, dd_34, dd_35, dd_36, dd_38, dd_39, dd_40, dd_42, dd_43, dd_44, dd_46, dd_47, dd_48, dd_50, dd_54, dd_55, dd_56, dd_57, dd_62, dd_63, dd_64, dd_65, dd_66, dd_67, dd_68, dd_69, dd_70, dd_71, dd_72, dd_74, dd_75, dd_76, dd_77, dd_79, dd_80, dd_81, dd_82, dd_83, dd_84, dd_86, dd_87, dd_88, dd_89, dd_90, dd_91, dd_92, dd_96, dd_97, dd_98, dd_99, dd_100, dd_101, dd_103, dd_105, dd_106, dd_107, dd_108, dd_110, dd_111, dd_112, dd_113, dd_114, dd_115, dd_116, dd_117, dd_118, dd_119, dd_120, dd_121, dd_122, dd_123, dd_124, dd_125, dd_126, dd_127, dd_128]
def fa : List He.Fa := [.glo "is_integer", .glo "is_number", .glo "is_index", .glo "is_size", .glo "is_tuple_of", .glo "is_prime", .glo "is_stretch", .glo "rank_in", .glo "want", .glo "want_prime", .glo "want_size", .glo "form_fault", .glo "is_pattern_by", .glo "lands_by", .glo "balls_by", .glo "swapped_by", .glo "pairs_by", .glo "is_rise", .glo "depth_by", .glo "is_peer", .glo "want_peer", .glo "bar_by", .glo "is_below_by", .glo "next_pair", .glo "chain_by", .glo "lies_below", .glo "barring_stretch", .glo "chain_to", .glo "inverse_in", .glo "times_by", .glo "less_times", .glo "cleared", .glo "throw_in", .glo "throws_in", .glo "pattern_of", .glo "spot_without", .glo "without_shelf", .glo "are_nested_at", .glo "next_swapped", .glo "ended_by", .glo "factor_at", .glo "both_sum", .glo "changed_spot", .glo "places_changed", .glo "step_at", .glo "least_turn", .glo "count_in", .glo "step_count", .glo "value_of", .glo "times_over", .glo "count_polynomial", .glo "book_count", .glo "total_by", .glo "total_count", .glo "choices", .glo "falls_by", .glo "count_by", .glo "pattern_count", .glo "next_throws", .glo "patterns_of", .glo "rows_for", .glo "rows_led", .glo "leads_of", .glo "books_by", .glo "want_kind", .glo "all_books", .glo "books_of", .glo "order_paper", .glo "stop_unless", .glo "is_headed", .glo "is_swap_pair", .glo "swaps_end", .glo "lets_below", .glo "balls_of", .glo "want_pair", .glo "swapped", .glo "lowering_swaps", .glo "depth_of", .glo "_law_source", .glo "_law_draw", .glo "_law_rows", .glo "_law_less", .glo "_law_columns", .glo "_law_rank", .glo "_law_is_new", .glo "_law_throws", .glo "_law_within", .glo "_law_lands", .glo "_law_depth", .glo "_law_order", .glo "_law_pattern", .glo "_law_swapped", .glo "_law_lowering", .glo "_law_is_above", .glo "_law_order_right", .glo "_law_counts_right", .glo "law", .free "all", .free "bool", .free "enumerate", .free "int", .free "isinstance", .free "len", .free "list", .free "max", .free "min", .free "range", .free "set", .free "sorted", .free "str", .free "sum", .free "tuple", .free "zip", .str "REST" "rest", .str "FULL" "full", .str "ONE" "one", .str "BOTH" "both", .str "CHANGED" "turned", .str "SWAPS" "swaps", .str "STRETCH" "stretch", .glo "PRIMES"]
def exP (K : PySem.W.Frag) : Bool := He.tupB K "PRIMES" [.int 2, .int 3, .int 5, .int 7, .int 11, .int 13] && (match K.lookup (He.ga K "PRIMES") with | some ⟨_, none, _, _⟩ => true | _ => false)
end K93
end
section
set_option Elab.async false
set_option linter.all false
set_option maxRecDepth 100000
set_option maxHeartbeats 0
namespace K93
open PySem PySem.Spec PyProof.Rows L2
abbrev R : PySem.W.OpenRow := PySem.W.OpenLaw.row PySem.Challenge.rw_throwshelves_k93_whole_counts_and_the_or
def asM (g : Addr → Option Obj) : List Addr := mainGlobals :: (match g mainGlobals with
  | some o => (He.refsD o).flatMap fun a => a :: (match g a with
    | some o => He.refsD o
    | none => [])
  | none => [])
def obsM (g : Addr → Option Obj) (K : PySem.W.Frag) : He.AlD × Bool := (He.obsD fa fn K, exP K)
def hk : PySem.W.Hook where
  α := He.AlD × Bool
  obs := fun s => obsM s.heap.get? (He.frG s.heap.get? (asM s.heap.get?))
  val := fun _ => (He.valD fn, true)
  says := fun _ h => ∃ K : PySem.W.Frag, K.In h ∧ He.SaysD fa fn K ∧ exP K = true
  of := fun _ _ e => ⟨_, He.frG_in, congrArg (fun z : He.AlD × Bool => z.1) e, congrArg (fun z : He.AlD × Bool => z.2) e⟩
  keeps := fun _ _ _ ⟨K, hK, c⟩ k => ⟨K, PySem.W.Frag.In.keeps hK k, c⟩
def ob (s : PySem.W.SharedT) : He.AlD × Bool := obsM (HandSHeadRun.getT s) (He.frG (HandSHeadRun.getT s) (asM (HandSHeadRun.getT s)))
theorem ob_eq (s : PySem.W.SharedT) : ob s = hk.obs s.abs := by
  have e : HandSHeadRun.getT s = s.abs.heap.get? := funext (HandSHeadRun.getT_eq s)
  unfold ob
  rw [e]
  rfl
def nm0 : List PySem.Str := ["PRIMES", "is_integer", "is_number", "is_index", "is_size", "is_tuple_of", "is_prime", "is_stretch", "rank_in", "RingError", "PaperError", "ShelfError", "InvalidPaper", "NotUsable", "want", "want_prime", "want_size", "form_fault", "is_pattern_by", "lands_by"]
def nm1 : List PySem.Str := ["balls_by", "swapped_by", "pairs_by", "is_rise", "depth_by", "is_peer", "want_peer", "bar_by", "is_below_by", "next_pair", "chain_by", "lies_below", "barring_stretch", "chain_to", "inverse_in", "times_by", "less_times", "cleared", "throw_in", "throws_in"]
def nm2 : List PySem.Str := ["pattern_of", "REST", "FULL", "spot_without", "without_shelf", "are_nested_at", "next_swapped", "ONE", "BOTH", "CHANGED", "ended_by", "factor_at", "both_sum", "changed_spot", "places_changed", "step_at", "least_turn", "count_in", "step_count", "value_of"]
def nm3 : List PySem.Str := ["times_over", "count_polynomial", "book_count", "total_by", "total_count", "choices", "falls_by", "count_by", "pattern_count", "next_throws", "patterns_of", "rows_for", "rows_led", "leads_of", "books_by", "want_kind", "all_books", "books_of", "SWAPS", "STRETCH"]
def nm4 : List PySem.Str := ["order_paper", "stop_unless", "is_headed", "is_swap_pair", "swaps_end", "lets_below", "balls_of", "want_pair", "swapped", "lowering_swaps", "depth_of", "_law_source", "_law_draw", "_law_rows", "_law_less", "_law_columns", "_law_rank", "_law_is_new", "_law_throws", "_law_within"]
def nm5 : List PySem.Str := ["_law_lands", "_law_depth", "_law_order", "_law_pattern", "_law_swapped", "_law_lowering", "_law_is_above", "_law_order_right", "_law_counts_right"]
def loose : List PySem.Str := nm0 ++ nm1 ++ nm2 ++ nm3 ++ nm4 ++ nm5
theorem run (w : World) : HandSHeadRun.RunEq R (PySem.W.view R.prog [128]) hk ob 6000 loose w := by
  intro os
  kernel_rfl
end K93
end
section
set_option linter.all false
set_option maxRecDepth 100000
/-! EvSem: values, cells, combinators: what each construct of the program computes. Plain Lean, no model in sight. -/
namespace Ev
noncomputable section
open PySem (Str)

inductive Va where
  | non
  | bl (b : Bool)
  | int (i : Int)
  | str (x : Str)
  | tup (xs : List Va)
  | lst (xs : List Va)
  | ref (n : Nat)

inductive Cell where
  | lst (xs : List Va)
  | dI (kvs : List (Int × Va))
  | dT (kvs : List (List Int × Va))
  | hid

abbrev Hv := List Cell
abbrev Sv := List (Option Va)
abbrev EM := Sv → Hv → Option (Va × Hv)
abbrev AM := Sv → Hv → Option (List Va × Hv)
abbrev BM := Sv → Hv → Option (Bool × Hv)

/-! ### small things -/
def ilt : Int → Int → Bool
  | .ofNat m, .ofNat n => Nat.blt m n
  | .ofNat _, .negSucc _ => false
  | .negSucc _, .ofNat _ => true
  | .negSucc m, .negSucc n => Nat.blt n m
def ile (i j : Int) : Bool := !ilt j i
def ieq : Int → Int → Bool
  | .ofNat m, .ofNat n => Nat.beq m n
  | .negSucc m, .negSucc n => Nat.beq m n
  | _, _ => false
theorem ilt_eq (i j : Int) : ilt i j = decide (i < j) := by
  rw [Bool.eq_iff_iff, decide_eq_true_iff]
  cases i <;> cases j <;> simp only [ilt, Nat.blt_eq, Bool.false_eq_true, false_iff, true_iff]
  · exact Int.ofNat_lt.symm
  · exact Int.not_lt.mpr (Int.le_of_lt (Int.lt_of_lt_of_le (Int.negSucc_lt_zero _) (Int.natCast_nonneg _)))
  · exact Int.lt_of_lt_of_le (Int.negSucc_lt_zero _) (Int.natCast_nonneg _)
  · rename_i m n
    have e1 : Int.negSucc m = -(m : Int) - 1 := by omega
    have e2 : Int.negSucc n = -(n : Int) - 1 := by omega
    omega
theorem ile_eq (i j : Int) : ile i j = decide (i ≤ j) := by
  unfold ile
  rw [ilt_eq, Bool.eq_iff_iff, Bool.not_eq_true', decide_eq_false_iff_not, decide_eq_true_iff]
  omega
theorem ieq_eq (i j : Int) : ieq i j = decide (i = j) := by
  rw [Bool.eq_iff_iff, decide_eq_true_iff]
  cases i <;> cases j <;> simp [ieq, Nat.beq_eq] <;> omega

def isP : Va → Bool
  | .ref _ => false
  | _ => true
def allP : List Va → Bool
  | [] => true
  | x :: xs => match isP x with
    | true => allP xs
    | false => false
/-- shorter than n -/
def short {α : Type} : Nat → List α → Bool
  | 0, _ => false
  | _ + 1, [] => true
  | n + 1, _ :: xs => short n xs

mutual
/-- equality as Python has it: True is 1 -/
def veq : Va → Va → Bool
  | .non, .non => true
  | .bl a, .bl b => a == b
  | .bl a, .int j => ieq (match a with | true => 1 | false => 0) j
  | .int i, .bl b => ieq i (match b with | true => 1 | false => 0)
  | .int i, .int j => ieq i j
  | .str x, .str y => x == y
  | .lst xs, .lst ys => veqs xs ys
  | .tup xs, .tup ys => veqs xs ys
  | _, _ => false
def veqs : List Va → List Va → Bool
  | [], [] => true
  | x :: xs, y :: ys => match veq x y with
    | true => veqs xs ys
    | false => false
  | _, _ => false
end
mutual
/-- pure, and nested at most so deep -/
def dle : Nat → Va → Bool
  | _, .non => true
  | _, .bl _ => true
  | _, .int _ => true
  | _, .str _ => true
  | 0, _ => false
  | n + 1, .tup xs => dles n xs
  | n + 1, .lst xs => dles n xs
  | _, .ref _ => false
def dles : Nat → List Va → Bool
  | _, [] => true
  | n, x :: xs => match dle n x with
    | true => dles n xs
    | false => false
end

/-- the slot n (by the recursor: the kernel is quick at it) -/
noncomputable def nth (σ : Sv) : Nat → Option Va := List.rec (motive := fun _ => Nat → Option Va) (fun _ => none) (fun x _ ih n => Nat.casesOn n x fun m => ih m) σ
def cellAt : Hv → Nat → Option Cell
  | [], _ => none
  | x :: _, 0 => some x
  | _ :: xs, n + 1 => cellAt xs n
/-- an item by an index of any sign -/
def natIx (n : Nat) (i : Int) : Option Nat := match i with
  | .ofNat m => match Nat.blt m n with
    | true => some m
    | false => none
  | .negSucc m => match Nat.blt m n with
    | true => some (n - (m + 1))
    | false => none
def itemAt : List Va → Nat → Option Va
  | [], _ => none
  | x :: _, 0 => some x
  | _ :: xs, n + 1 => itemAt xs n
def itemI (xs : List Va) (i : Int) : Option Va := match natIx xs.length i with
  | some j => itemAt xs j
  | none => none
/-- where a slice's end stands -/
def sEnd (n : Nat) : Int → Nat
  | .ofNat m => match Nat.ble m n with
    | true => m
    | false => n
  | .negSucc m => n - (m + 1)
def cut (xs : List Va) (lo hi : Option Int) : List Va :=
  let n := xs.length
  let a := match lo with | none => 0 | some i => sEnd n i
  let b := match hi with | none => n | some i => sEnd n i
  (xs.drop a).take (b - a)
def rngFrom (lo : Int) : Nat → List Va
  | 0 => []
  | n + 1 => .int lo :: rngFrom (lo + 1) n
/-- the intsV of range(lo, hi), if both ends are near -/
def rng (lo hi : Int) : Option (List Va) := match Nat.blt lo.natAbs 1000000, Nat.blt hi.natAbs 1000000 with
  | true, true => some (rngFrom lo (hi - lo).toNat)
  | _, _ => none

/-! ### names, constants -/
def xV (i : Nat) : EM := fun σ h => match nth σ i with
  | some v => some (v, h)
  | none => none
def xC (v : Va) : EM := fun _ h => some (v, h)

/-! ### two intsV -/
def xII (a b : EM) (g : Int → Int → Option Va) : EM := fun σ h => match a σ h with
  | some (.int i, h1) => match b σ h1 with
    | some (.int j, h2) => match g i j with
      | some v => some (v, h2)
      | none => none
    | _ => none
  | _ => none
def small64 (i : Int) : Bool := Nat.blt i.natAbs 18446744073709551616
def gAdd (i j : Int) : Option Va := some (.int (i + j))
def gSub (i j : Int) : Option Va := some (.int (i - j))
def gMul (i j : Int) : Option Va := match small64 i with
  | true => some (.int (i * j))
  | false => match small64 j with
    | true => some (.int (i * j))
    | false => none
def gDiv (i j : Int) : Option Va := match ilt 0 j, ilt j 1073741824 with
  | true, true => some (.int (i / j))
  | _, _ => none
def gMod (i j : Int) : Option Va := match ilt 0 j with
  | true => some (.int (i % j))
  | false => none
def gPow (i j : Int) : Option Va := match small64 i, j with
  | true, .ofNat m => match Nat.ble m 100 with
    | true => some (.int (i ^ m))
    | false => none
  | _, _ => none
def gLt (i j : Int) : Option Va := some (.bl (ilt i j))
def gLe (i j : Int) : Option Va := some (.bl (ile i j))
def gGt (i j : Int) : Option Va := some (.bl (ilt j i))
def gGe (i j : Int) : Option Va := some (.bl (ile j i))
/-- min(i, j) -/
def gMin2 (i j : Int) : Option Va := match ilt j i with
  | true => some (.int j)
  | false => some (.int i)
abbrev xAdd (a b : EM) : EM := xII a b gAdd
abbrev xSub (a b : EM) : EM := xII a b gSub
abbrev xMul (a b : EM) : EM := xII a b gMul
abbrev xDiv (a b : EM) : EM := xII a b gDiv
abbrev xMod (a b : EM) : EM := xII a b gMod
abbrev xPow (a b : EM) : EM := xII a b gPow
abbrev xLt (a b : EM) : EM := xII a b gLt
abbrev xLe (a b : EM) : EM := xII a b gLe
abbrev xGt (a b : EM) : EM := xII a b gGt
abbrev xGe (a b : EM) : EM := xII a b gGe
/-- a op b op' c of intsV -/
def xChain (f g : Int → Int → Bool) (a b c : EM) : EM := fun σ h => match a σ h with
  | some (.int i, h1) => match b σ h1 with
    | some (.int j, h2) => match f i j with
      | true => match c σ h2 with
        | some (.int k, h3) => some (.bl (g j k), h3)
        | _ => none
      | false => some (.bl false, h2)
    | _ => none
  | _ => none

/-! ### any two values -/
def xVV (a b : EM) (g : Va → Va → Option Va) : EM := fun σ h => match a σ h with
  | some (v, h1) => match b σ h1 with
    | some (u, h2) => match g v u with
      | some w => some (w, h2)
      | none => none
    | none => none
  | none => none
def gEq (v u : Va) : Option Va := match dle 8 v, dle 8 u with
  | true, true => some (.bl (veq v u))
  | _, _ => none
def gNe (v u : Va) : Option Va := match dle 8 v, dle 8 u with
  | true, true => some (.bl (!veq v u))
  | _, _ => none
def inL (v : Va) : List Va → Bool
  | [] => false
  | x :: xs => match veq x v with
    | true => true
    | false => inL v xs
def gIn (v u : Va) : Option Va := match dle 8 v, dle 8 u with
  | true, true => match u with
    | .tup xs => some (.bl (inL v xs))
    | .lst xs => some (.bl (inL v xs))
    | _ => none
  | _, _ => none
def gNin (v u : Va) : Option Va := match gIn v u with
  | some (.bl b) => some (.bl (!b))
  | _ => none
def isNon : Va → Bool
  | .non => true
  | _ => false
def gIsN (v u : Va) : Option Va := match u with
  | .non => some (.bl (isNon v))
  | _ => none
def gNotN (v u : Va) : Option Va := match u with
  | .non => some (.bl (!isNon v))
  | _ => none
def gNotB (v u : Va) : Option Va := match v, u with
  | .bl a, .bl b => some (.bl (a != b))
  | _, _ => none
def gCatT (v u : Va) : Option Va := match v, u with
  | .tup xs, .tup ys => match short 1000000 xs, short 1000000 ys with
    | true, true => some (.tup (xs ++ ys))
    | _, _ => none
  | _, _ => none
def gCatL (v u : Va) : Option Va := match v, u with
  | .lst xs, .lst ys => match short 1000000 xs, short 1000000 ys with
    | true, true => some (.lst (xs ++ ys))
    | _, _ => none
  | _, _ => none
/-- the operator may read a cell -/
def xVH (a b : EM) (g : Hv → Va → Va → Option Va) : EM := fun σ h => match a σ h with
  | some (v, h1) => match b σ h1 with
    | some (u, h2) => match g h2 v u with
      | some w => some (w, h2)
      | none => none
    | none => none
  | none => none
def gIx (h : Hv) (v u : Va) : Option Va := match u with
  | .int i => match v with
    | .tup xs => itemI xs i
    | .lst xs => itemI xs i
    | .ref n => match cellAt h n with
      | some (.lst xs) => itemI xs i
      | _ => none
    | _ => none
  | _ => none
abbrev xIx (a b : EM) : EM := xVH a b gIx

/-! ### bools -/
abbrev TM := BM
def tV (e : EM) : BM := fun σ h => match e σ h with
  | some (.bl b, h1) => some (b, h1)
  | _ => none
def tAnd (a b : BM) : BM := fun σ h => match a σ h with
  | some (true, h1) => b σ h1
  | some (false, h1) => some (false, h1)
  | none => none
def tOr (a b : BM) : BM := fun σ h => match a σ h with
  | some (true, h1) => some (true, h1)
  | some (false, h1) => b σ h1
  | none => none
def tNot (a : BM) : BM := fun σ h => match a σ h with
  | some (b, h1) => some (!b, h1)
  | none => none
def xAnd (a b : EM) : EM := fun σ h => match a σ h with
  | some (.bl true, h1) => b σ h1
  | some (.bl false, h1) => some (.bl false, h1)
  | _ => none
def xOr (a b : EM) : EM := fun σ h => match a σ h with
  | some (.bl true, h1) => some (.bl true, h1)
  | some (.bl false, h1) => b σ h1
  | _ => none
def xNot (a : EM) : EM := fun σ h => match a σ h with
  | some (.bl b, h1) => some (.bl (!b), h1)
  | _ => none
def xIf (t : BM) (a b : EM) : EM := fun σ h => match t σ h with
  | some (true, h1) => a σ h1
  | some (false, h1) => b σ h1
  | none => none

/-! ### written lists -/
def aNil : AM := fun _ h => some ([], h)
def aCons (e : EM) (r : AM) : AM := fun σ h => match e σ h with
  | some (v, h1) => match r σ h1 with
    | some (vs, h2) => some (v :: vs, h2)
    | none => none
  | none => none
/-- *e -/
def aStar (e : EM) (r : AM) : AM := fun σ h => match e σ h with
  | some (.tup xs, h1) => match r σ h1 with
    | some (vs, h2) => some (xs ++ vs, h2)
    | none => none
  | some (.lst xs, h1) => match r σ h1 with
    | some (vs, h2) => some (xs ++ vs, h2)
    | none => none
  | _ => none
def xTup (a : AM) : EM := fun σ h => match a σ h with
  | some (vs, h1) => match allP vs, short 1000000 vs with
    | true, true => some (.tup vs, h1)
    | _, _ => none
  | none => none
def xLst (a : AM) : EM := fun σ h => match a σ h with
  | some (vs, h1) => match allP vs, short 1000000 vs with
    | true, true => some (.lst vs, h1)
    | _, _ => none
  | none => none
/-- .. a list that will change -/
def xNewL (a : AM) : EM := fun σ h => match a σ h with
  | some (vs, h1) => match allP vs, short 1000000 vs with
    | true, true => some (.ref h1.length, h1 ++ [.lst vs])
    | _, _ => none
  | none => none
def xNewDI : EM := fun _ h => some (.ref h.length, h ++ [.dI []])
def xNewDT : EM := fun _ h => some (.ref h.length, h ++ [.dT []])

/-! ### one value -/
def xU (e : EM) (g : Hv → Va → Option Va) : EM := fun σ h => match e σ h with
  | some (v, h1) => match g h1 v with
    | some w => some (w, h1)
    | none => none
  | none => none
def gNeg (_ : Hv) (v : Va) : Option Va := match v with
  | .int i => some (.int (-i))
  | _ => none
def gLen (h : Hv) (v : Va) : Option Va := match v with
  | .tup xs => some (.int (xs.length : Nat))
  | .lst xs => some (.int (xs.length : Nat))
  | .ref n => match cellAt h n with
    | some (.lst xs) => some (.int (xs.length : Nat))
    | _ => none
  | _ => none
def gInt (_ : Hv) (v : Va) : Option Va := match v with
  | .int i => some (.int i)
  | _ => none
inductive Ty where
  | int | bool | tuple | str
def isTy : Ty → Va → Option Bool
  | .int, .int _ => some true
  | .int, .bl _ => some true
  | .int, .str _ => some false
  | .int, .tup _ => some false
  | .int, .non => some false
  | .bool, .int _ => some false
  | .bool, .bl _ => some true
  | .tuple, .tup _ => some true
  | .tuple, .int _ => some false
  | .str, .str _ => some true
  | .str, .tup _ => some false
  | .str, .int _ => some false
  | _, _ => none
def gIsi (t : Ty) (_ : Hv) (v : Va) : Option Va := match isTy t v with
  | some b => some (.bl b)
  | none => none
def sumI : List Va → Option Int
  | [] => some 0
  | .int i :: xs => match sumI xs with
    | some n => some (i + n)
    | none => none
  | _ :: _ => none
def itemsOf (h : Hv) (v : Va) : Option (List Va) := match v with
  | .tup xs => some xs
  | .lst xs => some xs
  | .ref n => match cellAt h n with
    | some (.lst xs) => some xs
    | _ => none
  | _ => none
def gSum (h : Hv) (v : Va) : Option Va := match itemsOf h v with
  | some xs => match sumI xs with
    | some n => some (.int n)
    | none => none
  | none => none
def allB : List Va → Option Bool
  | [] => some true
  | .bl b :: xs => match allB xs with
    | some c => some (b && c)
    | none => none
  | _ :: _ => none
/-- a list's items -/
def listOf (h : Hv) (v : Va) : Option (List Va) := match v with
  | .lst xs => some xs
  | .ref n => match cellAt h n with
    | some (.lst xs) => some xs
    | _ => none
  | _ => none
def gAll (h : Hv) (v : Va) : Option Va := match listOf h v with
  | some xs => match allB xs with
    | some b => some (.bl b)
    | none => none
  | none => none
mutual
/-- compared: intsV and tuples of such -/
def vcmp : Va → Va → Option Ordering
  | .int i, .int j => match ilt i j with
    | true => some .lt
    | false => match ieq i j with
      | true => some .eq
      | false => some .gt
  | .tup xs, .tup ys => vcmps xs ys
  | _, _ => none
def vcmps : List Va → List Va → Option Ordering
  | [], [] => some .eq
  | [], _ :: _ => some .lt
  | _ :: _, [] => some .gt
  | x :: xs, y :: ys => match vcmp x y with
    | some .eq => vcmps xs ys
    | r => r
end
mutual
/-- one shape: intsV, or tuples of equal shapes -/
def shp : Va → Va → Bool
  | .int _, .int _ => true
  | .tup xs, .tup ys => shps xs ys
  | _, _ => false
def shps : List Va → List Va → Bool
  | [], [] => true
  | x :: xs, y :: ys => match shp x y with
    | true => shps xs ys
    | false => false
  | _, _ => false
end
def shpAll (x : Va) : List Va → Bool
  | [] => true
  | y :: ys => match shp x y with
    | true => shpAll x ys
    | false => false
def minV (a : Va) : List Va → Va
  | [] => a
  | y :: ys => match vcmp y a with
    | some .lt => minV y ys
    | _ => minV a ys
def maxV (a : Va) : List Va → Va
  | [] => a
  | y :: ys => match vcmp a y with
    | some .lt => maxV y ys
    | _ => maxV a ys
def gMin (h : Hv) (v : Va) : Option Va := match itemsOf h v with
  | some (x :: xs) => match shpAll x (x :: xs), dles 7 (x :: xs) with
    | true, true => some (minV x xs)
    | _, _ => none
  | _ => none
def gMax (h : Hv) (v : Va) : Option Va := match itemsOf h v with
  | some (x :: xs) => match shpAll x (x :: xs), dles 7 (x :: xs) with
    | true, true => some (maxV x xs)
    | _, _ => none
  | _ => none
/-- put into an ascending list -/
def insV (x : Va) : List Va → List Va
  | [] => [x]
  | y :: ys => match vcmp x y with
    | some .lt => x :: y :: ys
    | _ => y :: insV x ys
def sortV : List Va → List Va
  | [] => []
  | x :: xs => insV x (sortV xs)
/-- strictly ascending -/
def ascV : List Va → Bool
  | x :: y :: r => match vcmp x y with
    | some .lt => ascV (y :: r)
    | _ => false
  | _ => true
/-- sorted(xs): the items of one shape, tuples of something, no two alike -/
def gSorted (h : Hv) (v : Va) : Option Va := match listOf h v with
  | some (.tup (z :: zs) :: xs) => match shpAll (.tup (z :: zs)) (.tup (z :: zs) :: xs), dles 7 (.tup (z :: zs) :: xs), short 1000 xs with
    | true, true, true => match ascV (sortV (.tup (z :: zs) :: xs)) with
      | true => some (.lst (sortV (.tup (z :: zs) :: xs)))
      | false => none
    | _, _, _ => none
  | _ => none
mutual
/-- the hash: ints, tuples of such -/
def vhash : Va → Option Int
  | .int i => some (PySem.hashInt i)
  | .tup xs => match vhashs xs with
    | some hs => some (PySem.reduceHash (PySem.Builtin.Tuple.tupleHashOf hs))
    | none => none
  | _ => none
def vhashs : List Va → Option (List Int)
  | [] => some []
  | x :: xs => match vhash x with
    | some h => match vhashs xs with
      | some hs => some (h :: hs)
      | none => none
    | none => none
end
def hfresh (h : Int) : List Int → Bool
  | [] => true
  | k :: ks => match ieq k h with
    | true => false
    | false => hfresh h ks
def hdist : List Int → Bool
  | [] => true
  | k :: ks => match hfresh k ks with
    | true => hdist ks
    | false => false
/-- sorted(set(xs)): no two hash alike -/
def gSortSet (h : Hv) (v : Va) : Option Va := match listOf h v with
  | some xs => match vhashs xs with
    | some hs => match hdist hs, short 63 xs with
      | true, true => gSorted h v
      | _, _ => none
    | none => none
  | none => none
def gTupOf (h : Hv) (v : Va) : Option Va := match itemsOf h v with
  | some xs => some (.tup xs)
  | none => none
def gLstOf (h : Hv) (v : Va) : Option Va := match itemsOf h v with
  | some xs => some (.lst xs)
  | none => none
/-- list(e), that will change -/
def xCellOf (e : EM) : EM := fun σ h => match e σ h with
  | some (v, h1) => match itemsOf h1 v with
    | some xs => some (.ref h1.length, h1 ++ [.lst xs])
    | none => none
  | none => none
/-- list(range(a, b)) -/
def xLstRg (a b : EM) : EM := fun σ h => match a σ h with
  | some (.int i, h1) => match b σ h1 with
    | some (.int j, h2) => match rng i j with
      | some xs => some (.lst xs, h2)
      | none => none
    | _ => none
  | _ => none
/-- what an end of a slice comes to -/
def ends (m : Option EM) (σ : Sv) (h : Hv) : Option (Option Int × Hv) := match m with
  | none => some (none, h)
  | some a => match a σ h with
    | some (.int i, h2) => some (some i, h2)
    | _ => none
/-- e[lo:hi] -/
def xSl (e : EM) (lo hi : Option EM) : EM := fun σ h => match e σ h with
  | some (v, h1) => match ends lo σ h1 with
    | some (l, h2) => match ends hi σ h2 with
      | some (u, h3) => match v with
        | .tup xs => some (.tup (cut xs l u), h3)
        | .lst xs => some (.lst (cut xs l u), h3)
        | _ => none
      | none => none
    | none => none
  | none => none
/-- e[::-1] -/
def gRev (_ : Hv) (v : Va) : Option Va := match v with
  | .tup xs => some (.tup xs.reverse)
  | .lst xs => some (.lst xs.reverse)
  | _ => none
def idxOf (x : Va) : List Va → Nat → Option Nat
  | [], _ => none
  | y :: ys, k => match veq y x with
    | true => some k
    | false => idxOf x ys (k + 1)
/-- t.index(x) -/
def gIndex (v u : Va) : Option Va := match v, u with
  | .tup xs, .int i => match dles 0 xs with
    | true => match idxOf (.int i) xs 0 with
      | some k => some (.int (k : Nat))
      | none => none
    | false => none
  | _, _ => none

/-! ### dicts -/
def intsV : List Va → Option (List Int)
  | [] => some []
  | .int i :: xs => match intsV xs with
    | some is => some (i :: is)
    | none => none
  | _ :: _ => none
def ieqs : List Int → List Int → Bool
  | [], [] => true
  | i :: is, j :: js => match ieq i j with
    | true => ieqs is js
    | false => false
  | _, _ => false
def getI (k : Int) : List (Int × Va) → Option Va
  | [] => none
  | (j, v) :: r => match ieq j k with
    | true => some v
    | false => getI k r
def getT (k : List Int) : List (List Int × Va) → Option Va
  | [] => none
  | (j, v) :: r => match ieqs j k with
    | true => some v
    | false => getT k r
def repI (k : Int) (v : Va) : List (Int × Va) → List (Int × Va)
  | [] => []
  | (j, u) :: r => (j, match ieq j k with | true => v | false => u) :: repI k v r
def repT (k : List Int) (v : Va) : List (List Int × Va) → List (List Int × Va)
  | [] => []
  | (j, u) :: r => (j, match ieqs j k with | true => v | false => u) :: repT k v r
def putI (k : Int) (v : Va) (r : List (Int × Va)) : List (Int × Va) := match getI k r with
  | some _ => repI k v r
  | none => r ++ [(k, v)]
def putT (k : List Int) (v : Va) (r : List (List Int × Va)) : List (List Int × Va) := match getT k r with
  | some _ => repT k v r
  | none => r ++ [(k, v)]
/-- what stands under a key of the dict n: some (some v), some none: nothing -/
def dLook (h : Hv) (d k : Va) : Option (Option Va) := match d with
  | .ref n => match cellAt h n with
    | some (.dI kvs) => match k with
      | .int i => some (getI i kvs)
      | _ => none
    | some (.dT kvs) => match k with
      | .tup xs => match intsV xs with
        | some is => some (getT is kvs)
        | none => none
      | _ => none
    | _ => none
  | _ => none
def gDget (h : Hv) (d k : Va) : Option Va := match dLook h d k with
  | some (some v) => some v
  | _ => none
def gDin (h : Hv) (k d : Va) : Option Va := match dLook h d k with
  | some (some _) => some (.bl true)
  | some none => some (.bl false)
  | none => none
def gDnin (h : Hv) (k d : Va) : Option Va := match dLook h d k with
  | some (some _) => some (.bl false)
  | some none => some (.bl true)
  | none => none
/-- a dict whose keys are tuples -/
def isDT (h : Hv) (v : Va) : Bool := match v with
  | .ref n => match cellAt h n with
    | some (.dT _) => true
    | _ => false
  | _ => false
/-- d.get(k, x) -/
def xGet (d k x : EM) : EM := fun σ h => match d σ h with
  | some (dv, h1) => match isDT h1 dv with
    | true => match k σ h1 with
      | some (kv, h2) => match x σ h2 with
        | some (xv, h3) => match isDT h3 dv, dLook h3 dv kv with
          | true, some (some v) => some (v, h3)
          | true, some none => some (xv, h3)
          | _, _ => none
        | none => none
      | none => none
    | false => none
  | none => none
def setC : Hv → Nat → Cell → Hv
  | [], _, _ => []
  | _ :: r, 0, c => c :: r
  | x :: r, n + 1, c => x :: setC r n c

/-! ### what is walked -/
def iR1 (e : EM) : AM := fun σ h => match e σ h with
  | some (.int j, h1) => match rng 0 j with
    | some xs => some (xs, h1)
    | none => none
  | _ => none
def iR2 (a b : EM) : AM := fun σ h => match a σ h with
  | some (.int i, h1) => match b σ h1 with
    | some (.int j, h2) => match rng i j with
      | some xs => some (xs, h2)
      | none => none
    | _ => none
  | _ => none
def iVal (e : EM) : AM := fun σ h => match e σ h with
  | some (.tup xs, h1) => some (xs, h1)
  | some (.lst xs, h1) => some (xs, h1)
  | _ => none
def numb (k : Nat) : List Va → List Va
  | [] => []
  | x :: xs => .tup [.int (k : Nat), x] :: numb (k + 1) xs
def iEnum (e : EM) : AM := fun σ h => match e σ h with
  | some (.tup xs, h1) => some (numb 0 xs, h1)
  | some (.lst xs, h1) => some (numb 0 xs, h1)
  | _ => none
def zipT : List Va → List Va → List Va
  | x :: xs, y :: ys => .tup [x, y] :: zipT xs ys
  | _, _ => []
def iZip (a b : EM) : AM := fun σ h => match a σ h with
  | some (.tup xs, h1) => match b σ h1 with
    | some (.tup ys, h2) => some (zipT xs ys, h2)
    | _ => none
  | some (.lst xs, h1) => match b σ h1 with
    | some (.lst ys, h2) => some (zipT xs ys, h2)
    | _ => none
  | _ => none
/-- the keys of a dict whose keys are tuples -/
def iKeys (e : EM) : AM := fun σ h => match e σ h with
  | some (.ref n, h1) => match cellAt h1 n with
    | some (.dT kvs) => some (kvs.map fun p => .tup (p.1.map .int), h1)
    | _ => none
  | _ => none

/-! ### targets -/
abbrev Bd := Va → Sv → Option Sv
def bN (i : Nat) : Bd := fun v σ => some (σ.set i (some v))
def bNs : List Nat → List Va → Sv → Option Sv
  | [], [], σ => some σ
  | i :: is, v :: vs, σ => bNs is vs (σ.set i (some v))
  | _, _, _ => none
def bT (is : List Nat) : Bd := fun v σ => match v with
  | .tup xs => bNs is xs σ
  | _ => none

/-! ### list comprehensions -/
def wip (σ : Sv) : List Nat → Sv
  | [] => σ
  | v :: vs => (wip σ vs).set v none
def tYes : BM := fun _ h => some (true, h)
def lcGo (own : List Nat) (bd : Bd) (tt : BM) (el : EM) (σ : Sv) : List Va → Hv → Option (List Va × Hv)
  | [], h => some ([], h)
  | x :: xs, h => match bd x (wip σ own) with
    | none => none
    | some σ1 => match tt σ1 h with
      | none => none
      | some (false, h1) => lcGo own bd tt el σ xs h1
      | some (true, h1) => match el σ1 h1 with
        | none => none
        | some (y, h2) => match isP y with
          | false => none
          | true => match lcGo own bd tt el σ xs h2 with
            | none => none
            | some (ys, h3) => some (y :: ys, h3)
def xLC (own : List Nat) (it : AM) (bd : Bd) (tt : BM) (el : EM) : EM := fun σ h => match it σ h with
  | some (xs, h1) => match short 1000000 xs with
    | true => match lcGo own bd tt el σ xs h1 with
      | some (ys, h2) => some (.lst ys, h2)
      | none => none
    | false => none
  | none => none
/-- two clauses: own1 the second target's names -/
def lc2Go (own own1 : List Nat) (bd : Bd) (it1 : AM) (bd1 : Bd) (tt1 : BM) (el : EM) (σ : Sv) : List Va → Hv → Option (List Va × Hv)
  | [], h => some ([], h)
  | x :: xs, h => match bd x (wip σ own) with
    | none => none
    | some σ1 => match it1 σ1 h with
      | none => none
      | some (zs, h1) => match short 1000000 zs with
        | false => none
        | true => match lcGo own1 bd1 tt1 el σ1 zs h1 with
          | none => none
          | some (ys, h2) => match lc2Go own own1 bd it1 bd1 tt1 el σ xs h2 with
            | none => none
            | some (ys2, h3) => some (ys ++ ys2, h3)
def xLC2 (own own1 : List Nat) (it : AM) (bd : Bd) (it1 : AM) (bd1 : Bd) (tt1 : BM) (el : EM) : EM := fun σ h => match it σ h with
  | some (xs, h1) => match lc2Go own own1 bd it1 bd1 tt1 el σ xs h1 with
    | some (ys, h2) => match short 1000000 ys with
      | true => some (.lst ys, h2)
      | false => none
    | none => none
  | none => none

/-- over the keys of the dict in slot i, which is locked meanwhile -/
def xLCK (own : List Nat) (i : Nat) (bd : Bd) (tt : BM) (el : EM) : EM := fun σ h => match nth σ i with
  | some (.ref n) => match cellAt h n with
    | some (.dT kvs) => match short 1000000 kvs with
      | true => match lcGo own bd tt el σ (kvs.map fun p => .tup (p.1.map .int)) (setC h n .hid) with
        | some (ys, h2) => match cellAt h2 n with
          | some .hid => some (.lst ys, setC h2 n (.dT kvs))
          | _ => none
        | none => none
      | false => none
    | _ => none
  | _ => none

/-! ### statements -/
inductive Fl where
  | nx (σ : Sv) (h : Hv)
  | rt (v : Va) (h : Hv)
abbrev SM := Sv → Hv → Option Fl
def sNil : SM := fun σ h => some (.nx σ h)
def sSeq (a b : SM) : SM := fun σ h => match a σ h with
  | some (.nx σ1 h1) => b σ1 h1
  | r => r
def sNever : SM := fun _ _ => none
def sSet (i : Nat) (e : EM) : SM := fun σ h => match e σ h with
  | some (v, h1) => some (.nx (σ.set i (some v)) h1)
  | none => none
/-- a, b = x, y -/
def sPar (i j : Nat) (a b : EM) : SM := fun σ h => match a σ h with
  | some (v, h1) => match b σ h1 with
    | some (u, h2) => some (.nx ((σ.set i (some v)).set j (some u)) h2)
    | none => none
  | none => none
/-- a, b, .. = e -/
def sUnp (is : List Nat) (e : EM) : SM := fun σ h => match e σ h with
  | some (v, h1) => match bT is v σ with
    | some σ1 => some (.nx σ1 h1)
    | none => none
  | none => none
/-- x[i] = e -/
def putIx (h : Hv) (o i v : Va) : Option Hv := match o, i, isP v with
  | .ref n, .int k, true => match cellAt h n with
    | some (.lst xs) => match natIx xs.length k with
      | some j => some (setC h n (.lst (xs.set j v)))
      | none => none
    | _ => none
  | _, _, _ => none
def sIx (o i e : EM) : SM := fun σ h => match e σ h with
  | some (v, h1) => match o σ h1 with
    | some (ov, h2) => match i σ h2 with
      | some (iv, h3) => match putIx h3 ov iv v with
        | some h4 => some (.nx σ h4)
        | none => none
      | none => none
    | none => none
  | none => none
/-- x[i], y[j] = a, b -/
def sIx2 (o i o2 i2 : EM) (a b : EM) : SM := fun σ h => match a σ h with
  | some (v, h1) => match b σ h1 with
    | some (u, h2) => match o σ h2 with
      | some (ov, h3) => match i σ h3 with
        | some (iv, h4) => match putIx h4 ov iv v with
          | some h5 => match o2 σ h5 with
            | some (ov2, h6) => match i2 σ h6 with
              | some (iv2, h7) => match putIx h7 ov2 iv2 u with
                | some h8 => some (.nx σ h8)
                | none => none
              | none => none
            | none => none
          | none => none
        | none => none
      | none => none
    | none => none
  | none => none
/-- d[k] = e -/
def putD (h : Hv) (d k v : Va) : Option Hv := match d, isP v with
  | .ref n, true => match cellAt h n with
    | some (.dI kvs) => match k, short 1000000 kvs with
      | .int i, true => some (setC h n (.dI (putI i v kvs)))
      | _, _ => none
    | some (.dT kvs) => match k, short 1000000 kvs with
      | .tup xs, true => match intsV xs with
        | some is => some (setC h n (.dT (putT is v kvs)))
        | none => none
      | _, _ => none
    | _ => none
  | _, _ => none
def sDput (d k e : EM) : SM := fun σ h => match e σ h with
  | some (v, h1) => match d σ h1 with
    | some (dv, h2) => match k σ h2 with
      | some (kv, h3) => match putD h3 dv kv v with
        | some h4 => some (.nx σ h4)
        | none => none
      | none => none
    | none => none
  | none => none
def isL (h : Hv) (n : Nat) : Bool := match cellAt h n with
  | some (.lst _) => true
  | _ => false
/-- x.append(e) -/
def sApp (o e : EM) : SM := fun σ h => match o σ h with
  | some (.ref n, h1) => match isL h1 n with
    | true => match e σ h1 with
      | some (v, h2) => match isP v, cellAt h2 n with
        | true, some (.lst xs) => match short 1000000 xs with
          | true => some (.nx σ (setC h2 n (.lst (xs ++ [v]))))
          | false => none
        | _, _ => none
      | none => none
    | false => none
  | _ => none
/-- x.extend(e), e a frozen list -/
def sExt (o e : EM) : SM := fun σ h => match o σ h with
  | some (.ref n, h1) => match isL h1 n with
    | true => match e σ h1 with
      | some (.lst ys, h2) => match cellAt h2 n with
        | some (.lst xs) => match short 1000000 xs, short 1000000 ys with
          | true, true => some (.nx σ (setC h2 n (.lst (xs ++ ys))))
          | _, _ => none
        | _ => none
      | _ => none
    | false => none
  | _ => none
def lastV : List Va → Option Va
  | [] => none
  | [x] => some x
  | _ :: y :: r => lastV (y :: r)
/-- x.pop() -/
def xPop (o : EM) : EM := fun σ h => match o σ h with
  | some (.ref n, h1) => match cellAt h1 n with
    | some (.lst xs) => match lastV xs with
      | some v => some (v, setC h1 n (.lst xs.dropLast))
      | none => none
    | _ => none
  | _ => none
def sExpr (e : EM) : SM := fun σ h => match e σ h with
  | some (_, h1) => some (.nx σ h1)
  | none => none
def sRet (e : EM) : SM := fun σ h => match e σ h with
  | some (v, h1) => some (.rt v h1)
  | none => none
def sIf (t : BM) (a b : SM) : SM := fun σ h => match t σ h with
  | some (true, h1) => a σ h1
  | some (false, h1) => b σ h1
  | none => none
def forGo (bd : Bd) (body : SM) : List Va → Sv → Hv → Option Fl
  | [], σ, h => some (.nx σ h)
  | x :: xs, σ, h => match bd x σ with
    | none => none
    | some σ1 => match body σ1 h with
      | some (.nx σ2 h2) => forGo bd body xs σ2 h2
      | r => r
def sFor (it : AM) (bd : Bd) (body : SM) : SM := fun σ h => match it σ h with
  | some (xs, h1) => forGo bd body xs σ h1
  | none => none
def whGo (t : BM) (body : SM) : Nat → Sv → Hv → Option Fl
  | 0, _, _ => none
  | n + 1, σ, h => match t σ h with
    | some (false, h1) => some (.nx σ h1)
    | some (true, h1) => match body σ h1 with
      | some (.nx σ2 h2) => whGo t body n σ2 h2
      | r => r
    | none => none
def sWhile (n : Nat) (t : BM) (body : SM) : SM := fun σ h => whGo t body n σ h

/-! ### defs -/
abbrev Gm := List Va → Hv → Option (Va × Hv)
def somes : List Va → Sv
  | [] => []
  | v :: vs => some v :: somes vs
def entry (n : Nat) (vs : List Va) : Sv := somes vs ++ List.replicate (n - vs.length) none
/-- what leaves a def: new cells are dropped, a new list that is handed back is frozen -/
def leave (n : Nat) (v : Va) (h : Hv) : Option (Va × Hv) := match v with
  | .ref k => match Nat.blt k n with
    | true => some (.ref k, h.take n)
    | false => match cellAt h k with
      | some (.lst xs) => some (.lst xs, h.take n)
      | _ => none
  | v => some (v, h.take n)
def fn (p n : Nat) (body : SM) : Gm := fun vs h => match Nat.beq vs.length p with
  | true => match body (entry n vs) h with
    | some (.rt v h1) => leave h.length v h1
    | some (.nx _ h1) => some (.non, h1.take h.length)
    | none => none
  | false => none
/-- .. that hands back a list that will change -/
def fnK (p n : Nat) (body : SM) : Gm := fun vs h => match Nat.beq vs.length p with
  | true => match body (entry n vs) h with
    | some (.rt v h1) => some (v, h1)
    | _ => none
  | false => none
def xCall (g : Gm) (a : AM) (dv : List Va) : EM := fun σ h => match a σ h with
  | some (vs, h1) => g (vs ++ dv) h1
  | none => none

mutual
/-- no list within -/
def noL : Va → Bool
  | .lst _ => false
  | .ref _ => false
  | .tup xs => noLs xs
  | _ => true
def noLs : List Va → Bool
  | [] => true
  | x :: xs => match noL x with
    | true => noLs xs
    | false => false
end
/-- lists that change, as they stand -/
def still (h : Hv) : List Va → Option (List Va)
  | [] => some []
  | .ref n :: vs => match cellAt h n, still h vs with
    | some (.lst xs), some us => some (.lst xs :: us)
    | _, _ => none
  | v :: vs => match still h vs with
    | some us => some (v :: us)
    | none => none
/-- a call that sees its lists as they stand, changes none and hands back none -/
def xCallZ (g : Gm) (a : AM) (dv : List Va) : EM := fun σ h => match a σ h with
  | some (vs, h1) => match still h1 (vs ++ dv) with
    | some us => match g us [] with
      | some (v, _) => match noL v with
        | true => some (v, h1)
        | false => none
      | none => none
    | none => none
  | none => none

/-! ### generators -/
abbrev Gg := List Va → Hv → Option (List Va × Hv)
inductive Yl where
  | nx (ys : List Va) (σ : Sv) (h : Hv)
  | rt (ys : List Va) (h : Hv)
abbrev YM := List Va → Sv → Hv → Option Yl
def yNil : YM := fun ys σ h => some (.nx ys σ h)
def yPlain (s : SM) : YM := fun ys σ h => match s σ h with
  | some (.nx σ1 h1) => some (.nx ys σ1 h1)
  | _ => none
def ySeq (a b : YM) : YM := fun ys σ h => match a ys σ h with
  | some (.nx ys1 σ1 h1) => b ys1 σ1 h1
  | r => r
def yYield (e : EM) : YM := fun ys σ h => match e σ h with
  | some (v, h1) => match isP v, short 1000000 ys with
    | true, true => some (.nx (ys ++ [v]) σ h1)
    | _, _ => none
  | none => none
def yIf (t : BM) (a b : YM) : YM := fun ys σ h => match t σ h with
  | some (true, h1) => a ys σ h1
  | some (false, h1) => b ys σ h1
  | none => none
def yForGo (bd : Bd) (body : YM) : List Va → List Va → Sv → Hv → Option Yl
  | [], ys, σ, h => some (.nx ys σ h)
  | x :: xs, ys, σ, h => match bd x σ with
    | none => none
    | some σ1 => match body ys σ1 h with
      | some (.nx ys2 σ2 h2) => yForGo bd body xs ys2 σ2 h2
      | r => r
def yFor (it : AM) (bd : Bd) (body : YM) : YM := fun ys σ h => match it σ h with
  | some (xs, h1) => yForGo bd body xs ys σ h1
  | none => none
def yWhGo (t : BM) (body : YM) : Nat → List Va → Sv → Hv → Option Yl
  | 0, _, _, _ => none
  | n + 1, ys, σ, h => match t σ h with
    | some (false, h1) => some (.nx ys σ h1)
    | some (true, h1) => match body ys σ h1 with
      | some (.nx ys2 σ2 h2) => yWhGo t body n ys2 σ2 h2
      | r => r
    | none => none
def yWhile (n : Nat) (t : BM) (body : YM) : YM := fun ys σ h => yWhGo t body n ys σ h
def gen (p n : Nat) (body : YM) : Gg := fun vs h => match Nat.beq vs.length p with
  | true => match body [] (entry n vs) h with
    | some (.nx ys _ h1) => some (ys, h1.take h.length)
    | _ => none
  | false => none
/-- list(g(..)) -/
def xListG (g : Gg) (a : AM) : EM := fun σ h => match a σ h with
  | some (vs, h1) => match g vs h1 with
    | some (ys, h2) => some (.lst ys, h2)
    | none => none
  | none => none
end
end Ev
end
section
set_option linter.all false
set_option maxRecDepth 100000
/-! EvFast: what six hot defs compute, told at once. -/
namespace Ev
noncomputable section
open PySem (Str)
/-- i + p[i % len(p)] -/
def landV (xs : List Va) (i : Int) : Option Int := match xs.length with
  | 0 => none
  | n + 1 => match itemAt xs (i % ((n + 1 : Nat) : Int)).toNat with
    | some (.int t) => some (i + t)
    | _ => none
def g_lands_by : Gm := fun us h => match us with
  | [.tup xs, .int i] => match landV xs i with
    | some k => some (.int k, h)
    | none => none
  | _ => none
/-- the two landings exchanged -/
def putTwo (xs : List Va) (i j : Int) (near far : Int) : Option (List Va) := match xs.length with
  | 0 => none
  | n + 1 => match natIx (n + 1) i, natIx (n + 1) (j % ((n + 1 : Nat) : Int)) with
    | some k, some m => some ((xs.set k (.int near)).set m (.int far))
    | _, _ => none
def g_swapped_by : Gm := fun us h => match us with
  | [.tup xs, .int i, .int j] => match landV xs j, landV xs i with
    | some a, some b => match ilt (xs.length : Nat) (a - i) with
      | true => some (.non, h)
      | false => match ilt (b - j) 0 with
        | true => some (.non, h)
        | false => match putTwo xs i j (a - i) (b - j) with
          | some ys => some (.tup ys, h)
          | none => none
    | _, _ => none
  | _ => none
def g__law_swapped : Gm := fun us h => match us with
  | [.tup xs, .int i, .int j] => match landV xs j, landV xs i with
    | some a, some b => match putTwo xs i j (a - i) (b - j) with
      | some ys => match gMin [] (.lst ys) with
        | some (.int lo) => match ile 0 lo with
          | true => match gMax [] (.lst ys) with
            | some (.int hi) => match ile hi (xs.length : Nat) with
              | true => some (.tup ys, h)
              | false => some (.non, h)
            | _ => none
          | false => some (.non, h)
        | _ => none
      | none => none
    | _, _ => none
  | _ => none
/-- how many k of a list have k + p[(s + k) % len(p)] < l -/
def cntIn (xs : List Va) (s l : Int) : List Va → Option Nat
  | [] => some 0
  | .int k :: ks => match xs.length with
    | 0 => none
    | n + 1 => match itemAt xs ((s + k) % ((n + 1 : Nat) : Int)).toNat with
      | some (.int t) => match cntIn xs s l ks with
        | some c => match ilt (k + t) l with
          | true => some (c + 1)
          | false => some c
        | none => none
      | _ => none
  | _ => none
def cntW (xs : List Va) (s l : Int) : Option Nat := match rng 0 l with
  | some ks => cntIn xs s l ks
  | none => none
def g_rank_in : Gm := fun us h => match us with
  | [.tup xs, .int s, .int l] => match cntW xs s l with
    | some c => some (.int (l - (c : Nat)), h)
    | none => none
  | _ => none
def g__law_within : Gm := fun us h => match us with
  | [.tup xs, .int s, .int l] => match cntW xs s l with
    | some c => some (.int (c : Nat), h)
    | none => none
  | _ => none
end
end Ev
end
section
set_option linter.all false
set_option maxRecDepth 100000
/-! EvProg: the program's defs as combinator terms, printed by gen_prog.py. -/
namespace Ev
noncomputable section
open PySem (Str)

/-- slots: 0 thing -/
def b_is_integer : SM := (sRet (xAnd (xU (xV 0) (gIsi .int)) (xNot (xU (xV 0) (gIsi .bool)))))
def f_is_integer : Gm := fn 1 1 b_is_integer
/-- slots: 0 thing -/
def b_is_number : SM := (sRet (xAnd (xCall f_is_integer (aCons (xV 0) aNil) []) (xGe (xV 0) (xC (.int 0)))))
def f_is_number : Gm := fn 1 1 b_is_number
/-- slots: 0 thing, 1 many -/
def b_is_index : SM := (sRet (xAnd (xCall f_is_number (aCons (xV 0) aNil) []) (xLt (xV 0) (xV 1))))
def f_is_index : Gm := fn 2 2 b_is_index
/-- slots: 0 thing -/
def b_is_size : SM := (sRet (xAnd (xCall f_is_integer (aCons (xV 0) aNil) []) (xGe (xV 0) (xC (.int 1)))))
def f_is_size : Gm := fn 1 1 b_is_size
/-- slots: 0 thing, 1 many -/
def b_is_tuple_of : SM := (sRet (xAnd (xU (xV 0) (gIsi .tuple)) (xVV (xU (xV 0) gLen) (xV 1) gEq)))
def f_is_tuple_of : Gm := fn 2 2 b_is_tuple_of
/-- slots: 0 thing -/
def b_is_prime : SM := (sRet (xAnd (xCall f_is_integer (aCons (xV 0) aNil) []) (xVV (xV 0) (xC (.tup [.int 2, .int 3, .int 5, .int 7, .int 11, .int 13])) gIn)))
def f_is_prime : Gm := fn 1 1 b_is_prime
/-- slots: 0 size, 1 thing -/
def b_is_stretch : SM := (sSeq (sIf (tOr (tNot (tV (xCall f_is_size (aCons (xV 0) aNil) []))) (tNot (tV (xCall f_is_tuple_of (aCons (xV 1) (aCons (xC (.int 2)) aNil)) [])))) (sRet (xC (.bl false))) sNil) (sRet (xAnd (xCall f_is_index (aCons (xIx (xV 1) (xC (.int 0))) (aCons (xV 0) aNil)) []) (xAnd (xCall f_is_number (aCons (xIx (xV 1) (xC (.int 1))) aNil) []) (xLe (xIx (xV 1) (xC (.int 1))) (xV 0))))))
def f_is_stretch : Gm := fn 2 2 b_is_stretch
/-- slots: 0 throws, 1 start, 2 length, 3 size, 4 k -/
def b_rank_in : SM := (sSeq (sSet 3 (xU (xV 0) gLen)) (sRet (xSub (xV 2) (xU (xLC [4] (iR1 (xV 2)) (bN 4) (tV (xLt (xAdd (xV 4) (xIx (xV 0) (xMod (xAdd (xV 1) (xV 4)) (xV 3)))) (xV 2))) (xV 4)) gLen))))
def f_rank_in : Gm := fn 3 5 b_rank_in
/-- slots: 0 holds, 1 word, 2 at -/
def b_want : SM := (sIf (tNot (tV (xV 0))) (sNever) sNil)
def f_want : Gm := fn 3 3 b_want
/-- slots: 0 thing -/
def b_want_prime : SM := (sExpr (xCall f_want (aCons (xCall f_is_prime (aCons (xV 0) aNil) []) (aCons (xC (.str ⟨#[112, 114, 105, 109, 101]⟩)) aNil)) [.int (-1)]))
def f_want_prime : Gm := fn 1 1 b_want_prime
/-- slots: 0 thing -/
def b_want_size : SM := (sExpr (xCall f_want (aCons (xCall f_is_size (aCons (xV 0) aNil) []) (aCons (xC (.str ⟨#[115, 105, 122, 101]⟩)) aNil)) [.int (-1)]))
def f_want_size : Gm := fn 1 1 b_want_size
/-- slots: 0 thing, 1 k, 2 number, 3 known, 4 here -/
def b_form_fault : SM := (sSeq (sIf (tOr (tNot (tV (xU (xV 0) (gIsi .tuple)))) (tV (xVV (xU (xV 0) gLen) (xC (.int 0)) gEq))) (sRet (xTup (aCons (xC (.str ⟨#[115, 104, 97, 112, 101]⟩)) (aCons (xU (xC (.int 1)) gNeg) aNil)))) sNil) (sSeq (sFor (iEnum (xV 0)) (bT [1, 2]) (sIf (tOr (tNot (tV (xCall f_is_number (aCons (xV 2) aNil) []))) (tV (xGt (xV 2) (xU (xV 0) gLen)))) (sRet (xTup (aCons (xC (.str ⟨#[116, 104, 114, 111, 119]⟩)) (aCons (xV 1) aNil)))) sNil)) (sSeq (sSet 3 (xNewDI)) (sSeq (sFor (iEnum (xV 0)) (bT [1, 2]) (sSeq (sSet 4 (xMod (xAdd (xV 1) (xV 2)) (xU (xV 0) gLen))) (sSeq (sIf (tV (xVH (xV 4) (xV 3) gDin)) (sRet (xTup (aCons (xC (.str ⟨#[99, 108, 97, 115, 104]⟩)) (aCons (xTup (aCons (xVH (xV 3) (xV 4) gDget) (aCons (xV 1) aNil))) aNil)))) sNil) (sDput (xV 3) (xV 4) (xV 1))))) (sRet (xC (.non)))))))
def f_form_fault : Gm := fn 1 5 b_form_fault
/-- slots: 0 thing -/
def b_is_pattern_by : SM := (sRet (xVV (xCall f_form_fault (aCons (xV 0) aNil) []) (xC (.non)) gIsN))
def f_is_pattern_by : Gm := fn 1 1 b_is_pattern_by
/-- slots: 0 pattern, 1 i -/
def b_lands_by : SM := (sRet (xAdd (xV 1) (xIx (xV 0) (xMod (xV 1) (xU (xV 0) gLen)))))
def f_lands_by : Gm := fn 2 2 b_lands_by
/-- slots: 0 pattern -/
def b_balls_by : SM := (sRet (xDiv (xU (xV 0) gSum) (xU (xV 0) gLen)))
def f_balls_by : Gm := fn 1 1 b_balls_by
/-- slots: 0 pattern, 1 i, 2 j, 3 size, 4 near, 5 far, 6 throws -/
def b_swapped_by : SM := (sSeq (sSet 3 (xU (xV 0) gLen)) (sSeq (sPar 4 5 (xSub (xCall g_lands_by (aCons (xV 0) (aCons (xV 2) aNil)) []) (xV 1)) (xSub (xCall g_lands_by (aCons (xV 0) (aCons (xV 1) aNil)) []) (xV 2))) (sSeq (sIf (tOr (tV (xGt (xV 4) (xV 3))) (tV (xLt (xV 5) (xC (.int 0))))) (sRet (xC (.non))) sNil) (sSeq (sSet 6 (xCellOf (xV 0))) (sSeq (sIx2 (xV 6) (xV 1) (xV 6) (xMod (xV 2) (xV 3)) (xV 4) (xV 5)) (sRet (xU (xV 6) gTupOf)))))))
def f_swapped_by : Gm := fn 3 7 b_swapped_by
/-- slots: 0 pattern, 1 size, 2 pairs, 3 i, 4 j, 5 pair -/
def b_pairs_by : SM := (sSeq (sSet 1 (xU (xV 0) gLen)) (sSeq (sSet 2 (xLC2 [3, 4] [4] (iR1 (xV 1)) (bN 3) (iR2 (xAdd (xV 3) (xC (.int 1))) (xAdd (xV 3) (xV 1))) (bN 4) tYes (xTup (aCons (xV 3) (aCons (xV 4) aNil))))) (sRet (xLC [5] (iVal (xV 2)) (bN 5) (tV (xVV (xCall g_swapped_by (aCons (xV 0) (aCons (xIx (xV 5) (xC (.int 0))) (aCons (xIx (xV 5) (xC (.int 1))) aNil))) []) (xC (.non)) gNotN)) (xV 5)))))
def f_pairs_by : Gm := fn 1 6 b_pairs_by
/-- slots: 0 pattern, 1 pair -/
def b_is_rise : SM := (sRet (xLt (xCall g_lands_by (aCons (xV 0) (aCons (xIx (xV 1) (xC (.int 0))) aNil)) []) (xCall g_lands_by (aCons (xV 0) (aCons (xIx (xV 1) (xC (.int 1))) aNil)) [])))
def f_is_rise : Gm := fn 2 2 b_is_rise
/-- slots: 0 pattern, 1 size, 2 pairs, 3 i, 4 j, 5 pair -/
def b_depth_by : SM := (sSeq (sSet 1 (xU (xV 0) gLen)) (sSeq (sSet 2 (xLC2 [3, 4] [4] (iR1 (xV 1)) (bN 3) (iR2 (xAdd (xV 3) (xC (.int 1))) (xAdd (xV 3) (xV 1))) (bN 4) tYes (xTup (aCons (xV 3) (aCons (xV 4) aNil))))) (sRet (xU (xLC [5] (iVal (xV 2)) (bN 5) (tNot (tV (xCall f_is_rise (aCons (xV 0) (aCons (xV 5) aNil)) []))) (xV 5)) gLen))))
def f_depth_by : Gm := fn 1 6 b_depth_by
/-- slots: 0 one, 1 thing -/
def b_is_peer : SM := (sRet (xAnd (xCallZ f_is_pattern_by (aCons (xV 1) aNil) []) (xAnd (xVV (xU (xV 1) gLen) (xU (xV 0) gLen) gEq) (xVV (xCallZ f_balls_by (aCons (xV 1) aNil) []) (xCallZ f_balls_by (aCons (xV 0) aNil) []) gEq))))
def f_is_peer : Gm := fn 2 2 b_is_peer
/-- slots: 0 one, 1 thing, 2 name -/
def b_want_peer : SM := (sExpr (xCallZ f_want (aCons (xCallZ f_is_peer (aCons (xV 0) (aCons (xV 1) aNil)) []) (aCons (xV 2) aNil)) [.int (-1)]))
def f_want_peer : Gm := fn 3 3 b_want_peer
/-- slots: 0 one, 1 other, 2 size, 3 length, 4 start -/
def b_bar_by : SM := (sSeq (sSet 2 (xU (xV 0) gLen)) (sSeq (sFor (iR1 (xAdd (xV 2) (xC (.int 1)))) (bN 3) (sFor (iR1 (xV 2)) (bN 4) (sIf (tV (xGt (xCallZ g_rank_in (aCons (xV 0) (aCons (xV 4) (aCons (xV 3) aNil))) []) (xCallZ g_rank_in (aCons (xV 1) (aCons (xV 4) (aCons (xV 3) aNil))) []))) (sRet (xTup (aCons (xV 4) (aCons (xV 3) aNil)))) sNil))) (sRet (xC (.non)))))
def f_bar_by : Gm := fn 2 5 b_bar_by
/-- slots: 0 one, 1 other -/
def b_is_below_by : SM := (sRet (xVV (xCallZ f_bar_by (aCons (xV 0) (aCons (xV 1) aNil)) []) (xC (.non)) gIsN))
def f_is_below_by : Gm := fn 2 2 b_is_below_by
/-- slots: 0 low, 1 here, 2 size, 3 some, 4 spot, 5 floor, 6 top, 7 near, 8 i, 9 c -/
def b_next_pair : SM := (sSeq (sSet 2 (xU (xV 0) gLen)) (sSeq (sSet 3 (xLC [8] (iR1 (xV 2)) (bN 8) (tV (xVV (xIx (xV 0) (xV 8)) (xIx (xV 1) (xV 8)) gNe)) (xTup (aCons (xII (xIx (xV 0) (xV 8)) (xIx (xV 1) (xV 8)) gMin2) (aCons (xV 8) aNil))))) (sSeq (sSet 4 (xIx (xU (xV 3) gMin) (xC (.int 1)))) (sSeq (sPar 5 6 (xCallZ g_lands_by (aCons (xV 0) (aCons (xV 4) aNil)) []) (xCallZ g_lands_by (aCons (xV 1) (aCons (xV 4) aNil)) [])) (sSeq (sSet 7 (xU (xLC [9] (iR2 (xAdd (xSub (xV 4) (xV 2)) (xC (.int 1))) (xV 4)) (bN 9) (tV (xChain ile ilt (xV 5) (xCallZ g_lands_by (aCons (xV 1) (aCons (xV 9) aNil)) []) (xV 6))) (xV 9)) gMax)) (sRet (xTup (aCons (xMod (xV 7) (xV 2)) (aCons (xSub (xAdd (xV 4) (xMod (xV 7) (xV 2))) (xV 7)) aNil)))))))))
def f_next_pair : Gm := fn 2 10 b_next_pair
/-- slots: 0 one, 1 other, 2 here, 3 pairs, 4 pair -/
def b_chain_by : SM := (sSeq (sPar 2 3 (xV 1) (xNewL aNil)) (sSeq (sWhile 100 (tV (xVV (xV 2) (xV 0) gNe)) (sSeq (sSet 4 (xCallZ f_next_pair (aCons (xV 0) (aCons (xV 2) aNil)) [])) (sSeq (sApp (xV 3) (xV 4)) (sSet 2 (xCallZ g_swapped_by (aCons (xV 2) (aCons (xIx (xV 4) (xC (.int 0))) (aCons (xIx (xV 4) (xC (.int 1))) aNil))) []))))) (sRet (xU (xV 3) gTupOf))))
def f_chain_by : Gm := fn 2 5 b_chain_by
/-- slots: 0 one, 1 other -/
def b_lies_below : SM := (sSeq (sExpr (xCallZ f_want_peer (aCons (xV 0) (aCons (xV 1) aNil)) [.str ⟨#[111, 116, 104, 101, 114]⟩])) (sRet (xCallZ f_is_below_by (aCons (xV 0) (aCons (xV 1) aNil)) [])))
def f_lies_below : Gm := fn 2 2 b_lies_below
/-- slots: 0 one, 1 other -/
def b_barring_stretch : SM := (sSeq (sExpr (xCallZ f_want_peer (aCons (xV 0) (aCons (xV 1) aNil)) [.str ⟨#[111, 116, 104, 101, 114]⟩])) (sRet (xCallZ f_bar_by (aCons (xV 0) (aCons (xV 1) aNil)) [])))
def f_barring_stretch : Gm := fn 2 2 b_barring_stretch
/-- slots: 0 one, 1 other -/
def b_chain_to : SM := (sSeq (sExpr (xCallZ f_want_peer (aCons (xV 0) (aCons (xV 1) aNil)) [.str ⟨#[111, 116, 104, 101, 114]⟩])) (sRet (xIf (tV (xCallZ f_is_below_by (aCons (xV 0) (aCons (xV 1) aNil)) [])) (xCallZ f_chain_by (aCons (xV 0) (aCons (xV 1) aNil)) []) (xC (.non)))))
def f_chain_to : Gm := fn 2 2 b_chain_to
/-- slots: 0 prime, 1 digit, 2 one -/
def b_inverse_in : SM := (sRet (xIx (xLC [2] (iR2 (xC (.int 1)) (xV 0)) (bN 2) (tV (xVV (xMod (xMul (xV 2) (xV 1)) (xV 0)) (xC (.int 1)) gEq)) (xV 2)) (xC (.int 0))))
def f_inverse_in : Gm := fn 2 3 b_inverse_in
/-- slots: 0 prime, 1 digit, 2 word, 3 one -/
def b_times_by : SM := (sRet (xU (xLC [3] (iVal (xV 2)) (bN 3) tYes (xMod (xMul (xV 3) (xV 1)) (xV 0))) gTupOf))
def f_times_by : Gm := fn 3 4 b_times_by
/-- slots: 0 prime, 1 word, 2 digit, 3 row, 4 one, 5 other -/
def b_less_times : SM := (sRet (xU (xLC [4, 5] (iZip (xV 1) (xV 3)) (bT [4, 5]) tYes (xMod (xSub (xV 4) (xMul (xV 2) (xV 5))) (xV 0))) gTupOf))
def f_less_times : Gm := fn 4 6 b_less_times
/-- slots: 0 prime, 1 words, 2 spot, 3 heads, 4 head, 5 k, 6 one -/
def b_cleared : SM := (sSeq (sSet 3 (xLC [5, 6] (iEnum (xV 1)) (bT [5, 6]) (tV (xVV (xIx (xV 6) (xV 2)) (xC (.int 0)) gNe)) (xV 5))) (sSeq (sIf (tV (xVV (xU (xV 3) gLen) (xC (.int 0)) gEq)) (sRet (xV 1)) sNil) (sSeq (sSet 4 (xCall f_times_by (aCons (xV 0) (aCons (xCall f_inverse_in (aCons (xV 0) (aCons (xIx (xIx (xV 1) (xIx (xV 3) (xC (.int 0)))) (xV 2)) aNil)) []) (aCons (xIx (xV 1) (xIx (xV 3) (xC (.int 0)))) aNil))) [])) (sRet (xLC [5, 6] (iEnum (xV 1)) (bT [5, 6]) (tV (xVV (xV 5) (xIx (xV 3) (xC (.int 0))) gNe)) (xCall f_less_times (aCons (xV 0) (aCons (xV 6) (aCons (xIx (xV 6) (xV 2)) (aCons (xV 4) aNil)))) []))))))
def f_cleared : Gm := fn 3 7 b_cleared
/-- slots: 0 book, 1 spot, 2 way, 3 prime, 4 size, 5 words, 6 some, 7 many, 8 one -/
def b_throw_in : SM := (sSeq (sUnp [3, 4, 5] (xV 0)) (sSeq (sSet 6 (xU (xV 5) gLstOf)) (sSeq (sFor (iR1 (xV 4)) (bN 7) (sSeq (sIf (tV (xU (xLC [8] (iVal (xV 6)) (bN 8) tYes (xVV (xIx (xV 8) (xV 1)) (xC (.int 0)) gEq)) gAll)) (sRet (xV 7)) sNil) (sSet 6 (xCall f_cleared (aCons (xV 3) (aCons (xV 6) (aCons (xMod (xAdd (xV 1) (xMul (xV 2) (xAdd (xV 7) (xC (.int 1))))) (xV 4)) aNil))) [])))) (sRet (xV 4)))))
def f_throw_in : Gm := fn 3 9 b_throw_in
/-- slots: 0 book, 1 spot -/
def b_throws_in : SM := (sRet (xU (xLC [1] (iR1 (xIx (xV 0) (xC (.int 1)))) (bN 1) tYes (xCall f_throw_in (aCons (xV 0) (aCons (xV 1) (aCons (xC (.int 1)) aNil))) [])) gTupOf))
def f_throws_in : Gm := fn 1 2 b_throws_in
/-- slots: 0 book -/
def b_pattern_of : SM := (sRet (xCallZ f_throws_in (aCons (xV 0) aNil) []))
def f_pattern_of : Gm := fn 1 1 b_pattern_of
/-- slots: 0 size, 1 place, 2 spot -/
def b_spot_without : SM := (sRet (xSub (xSub (xV 2) (xDiv (xSub (xSub (xV 2) (xV 1)) (xC (.int 1))) (xV 0))) (xC (.int 1))))
def f_spot_without : Gm := fn 3 3 b_spot_without
/-- slots: 0 throws, 1 place, 2 size, 3 ends, 4 one, 5 here, 6 end -/
def b_without_shelf : SM := (sSeq (sSet 2 (xU (xV 0) gLen)) (sSeq (sSet 3 (xLC [4, 5] (iEnum (xV 0)) (bT [4, 5]) (tV (xVV (xV 4) (xV 1) gNe)) (xTup (aCons (xV 4) (aCons (xCall f_spot_without (aCons (xV 2) (aCons (xV 1) (aCons (xAdd (xV 4) (xV 5)) aNil))) []) aNil))))) (sRet (xU (xLC [4, 6] (iVal (xV 3)) (bT [4, 6]) tYes (xSub (xV 6) (xCall f_spot_without (aCons (xV 2) (aCons (xV 1) (aCons (xV 4) aNil))) []))) gTupOf))))
def f_without_shelf : Gm := fn 2 7 b_without_shelf
/-- slots: 0 throws, 1 place -/
def b_are_nested_at : SM := (sRet (xGt (xCall g_lands_by (aCons (xV 0) (aCons (xV 1) aNil)) []) (xCall g_lands_by (aCons (xV 0) (aCons (xAdd (xV 1) (xC (.int 1))) aNil)) [])))
def f_are_nested_at : Gm := fn 2 2 b_are_nested_at
/-- slots: 0 throws, 1 place, 2 size, 3 goal, 4 near, 5 far, 6 late, 7 one, 8 here -/
def b_next_swapped : SM := (sSeq (sPar 2 3 (xU (xV 0) gLen) (xMod (xAdd (xV 1) (xC (.int 1))) (xU (xV 0) gLen))) (sSeq (sPar 4 5 (xSub (xCall g_lands_by (aCons (xV 0) (aCons (xAdd (xV 1) (xC (.int 1))) aNil)) []) (xV 1)) (xSub (xSub (xCall g_lands_by (aCons (xV 0) (aCons (xV 1) aNil)) []) (xV 1)) (xC (.int 1)))) (sSeq (sIf (tOr (tV (xGt (xV 4) (xV 2))) (tV (xLt (xV 5) (xC (.int 0))))) (sRet (xC (.non))) sNil) (sSeq (sSet 6 (xLC [7, 8] (iEnum (xV 0)) (bT [7, 8]) tYes (xIf (tV (xVV (xV 7) (xV 1) gEq)) (xV 4) (xV 8)))) (sRet (xU (xLC [7, 8] (iEnum (xV 6)) (bT [7, 8]) tYes (xIf (tV (xVV (xV 7) (xV 3) gEq)) (xV 5) (xV 8))) gTupOf))))))
def f_next_swapped : Gm := fn 2 9 b_next_swapped
/-- slots: 0 numbers, 1 size -/
def b_ended_by : SM := (sSeq (sSet 1 (xU (xV 0) gLen)) (sSeq (sWhile 100 (tAnd (tV (xGt (xV 1) (xC (.int 0)))) (tV (xVV (xIx (xV 0) (xSub (xV 1) (xC (.int 1)))) (xC (.int 0)) gEq))) (sSet 1 (xSub (xV 1) (xC (.int 1))))) (sRet (xU (xSl (xV 0) none (some (xV 1))) gTupOf))))
def f_ended_by : Gm := fn 1 2 b_ended_by
/-- slots: 0 numbers, 1 k -/
def b_factor_at : SM := (sRet (xIf (tV (xChain ile ilt (xC (.int 0)) (xV 1) (xU (xV 0) gLen))) (xIx (xV 0) (xV 1)) (xC (.int 0))))
def f_factor_at : Gm := fn 2 2 b_factor_at
/-- slots: 0 first, 1 second, 2 many, 3 found, 4 k -/
def b_both_sum : SM := (sSeq (sSet 2 (xAdd (xU (xLst (aCons (xU (xV 0) gLen) (aCons (xU (xV 1) gLen) aNil))) gMax) (xC (.int 1)))) (sSeq (sSet 3 (xLC [4] (iR1 (xV 2)) (bN 4) tYes (xAdd (xSub (xCall f_factor_at (aCons (xV 0) (aCons (xSub (xV 4) (xC (.int 1))) aNil)) []) (xCall f_factor_at (aCons (xV 0) (aCons (xV 4) aNil)) [])) (xCall f_factor_at (aCons (xV 1) (aCons (xSub (xV 4) (xC (.int 1))) aNil)) [])))) (sRet (xCall f_ended_by (aCons (xV 3) aNil) []))))
def f_both_sum : Gm := fn 2 5 b_both_sum
/-- slots: 0 size, 1 place, 2 spot -/
def b_changed_spot : SM := (sSeq (sIf (tV (xVV (xMod (xSub (xV 2) (xV 1)) (xV 0)) (xC (.int 0)) gEq)) (sRet (xAdd (xV 2) (xC (.int 1)))) sNil) (sRet (xIf (tV (xVV (xMod (xSub (xSub (xV 2) (xV 1)) (xC (.int 1))) (xV 0)) (xC (.int 0)) gEq)) (xSub (xV 2) (xC (.int 1))) (xV 2))))
def f_changed_spot : Gm := fn 3 3 b_changed_spot
/-- slots: 0 throws, 1 place, 2 size, 3 ends, 4 late, 5 one, 6 end, 7 throw -/
def b_places_changed : SM := (sSeq (sSet 2 (xU (xV 0) gLen)) (sSeq (sSet 3 (xLC [5] (iR1 (xV 2)) (bN 5) tYes (xCall g_lands_by (aCons (xV 0) (aCons (xCall f_changed_spot (aCons (xV 2) (aCons (xV 1) (aCons (xV 5) aNil))) []) aNil)) []))) (sSeq (sSet 4 (xU (xLC [5, 6] (iEnum (xV 3)) (bT [5, 6]) tYes (xSub (xCall f_changed_spot (aCons (xV 2) (aCons (xV 1) (aCons (xV 6) aNil))) []) (xV 5))) gTupOf)) (sRet (xIf (tV (xU (xLC [7] (iVal (xV 4)) (bN 7) tYes (xChain ile ile (xC (.int 0)) (xV 7) (xV 2))) gAll)) (xV 4) (xC (.non)))))))
def f_places_changed : Gm := fn 2 8 b_places_changed
/-- slots: 0 throws, 1 size, 2 kind, 3 throw, 4 place, 5 some, 6 least -/
def b_step_at : SM := (sSeq (sSet 1 (xU (xV 0) gLen)) (sSeq (sIf (tV (xVV (xV 1) (xC (.int 1)) gEq)) (sRet (xTup (aCons (xC (.str ⟨#[111, 110, 101]⟩)) (aCons (xC (.int 0)) aNil)))) sNil) (sSeq (sFor (iVal (xTup (aCons (xTup (aCons (xC (.str ⟨#[114, 101, 115, 116]⟩)) (aCons (xC (.int 0)) aNil))) (aCons (xTup (aCons (xC (.str ⟨#[102, 117, 108, 108]⟩)) (aCons (xV 1) aNil))) aNil)))) (bT [2, 3]) (sSeq (sSet 5 (xLC [4] (iR1 (xV 1)) (bN 4) (tV (xVV (xIx (xV 0) (xV 4)) (xV 3) gEq)) (xV 4))) (sIf (tV (xGt (xU (xV 5) gLen) (xC (.int 0)))) (sRet (xTup (aCons (xV 2) (aCons (xIx (xV 5) (xC (.int 0))) aNil)))) sNil))) (sSeq (sSet 6 (xU (xV 0) gMin)) (sSeq (sSet 4 (xMod (xSub (xAdd (xVV (xV 0) (xV 6) gIndex) (xV 6)) (xC (.int 1))) (xV 1))) (sRet (xTup (aCons (xIf (tV (xCall f_are_nested_at (aCons (xV 0) (aCons (xV 4) aNil)) [])) (xC (.str ⟨#[116, 117, 114, 110, 101, 100]⟩)) (xC (.str ⟨#[98, 111, 116, 104]⟩))) (aCons (xV 4) aNil)))))))))
def f_step_at : Gm := fn 1 7 b_step_at
/-- slots: 0 throws, 1 k -/
def b_least_turn : SM := (sRet (xU (xLC [1] (iR1 (xU (xV 0) gLen)) (bN 1) tYes (xVV (xSl (xV 0) (some (xV 1)) none) (xSl (xV 0) none (some (xV 1))) gCatT)) gMin))
def f_least_turn : Gm := fn 1 2 b_least_turn
/-- slots: 0 throws, 1 known, 2 key -/
def b_count_in (g2 : Gm) : SM := (sSeq (sSet 2 (xCall f_least_turn (aCons (xV 0) aNil) [])) (sSeq (sIf (tV (xVH (xV 2) (xV 1) gDnin)) (sDput (xV 1) (xV 2) (xCall g2 (aCons (xV 2) (aCons (xV 1) aNil)) [])) sNil) (sRet (xVH (xV 1) (xV 2) gDget))))
/-- slots: 0 throws, 1 known, 2 kind, 3 place, 4 late, 5 first -/
def b_step_count (g1 : Gm) : SM := (sSeq (sUnp [2, 3] (xCall f_step_at (aCons (xV 0) aNil) [])) (sSeq (sIf (tV (xVV (xV 2) (xC (.str ⟨#[111, 110, 101]⟩)) gEq)) (sRet (xTup (aCons (xC (.int 1)) aNil))) sNil) (sSeq (sIf (tV (xVV (xV 2) (xTup (aCons (xC (.str ⟨#[114, 101, 115, 116]⟩)) (aCons (xC (.str ⟨#[102, 117, 108, 108]⟩)) aNil))) gIn)) (sRet (xCall g1 (aCons (xCall f_without_shelf (aCons (xV 0) (aCons (xV 3) aNil)) []) (aCons (xV 1) aNil)) [])) sNil) (sSeq (sSet 4 (xCall f_places_changed (aCons (xV 0) (aCons (xV 3) aNil)) [])) (sSeq (sIf (tV (xVV (xV 2) (xC (.str ⟨#[116, 117, 114, 110, 101, 100]⟩)) gEq)) (sRet (xCall g1 (aCons (xV 4) (aCons (xV 1) aNil)) [])) sNil) (sSeq (sSet 5 (xCall g1 (aCons (xCall f_next_swapped (aCons (xV 0) (aCons (xV 3) aNil)) []) (aCons (xV 1) aNil)) [])) (sRet (xCall f_both_sum (aCons (xV 5) (aCons (xIf (tV (xVV (xV 4) (xC (.non)) gIsN)) (xTup aNil) (xCall g1 (aCons (xV 4) (aCons (xV 1) aNil)) [])) aNil)) []))))))))
def cnt : Nat → Gm × Gm
  | 0 => (fun _ _ => none, fun _ _ => none)
  | d + 1 => (fn 2 3 (b_count_in (cnt d).2), fn 2 6 (b_step_count (cnt d).1))
def f_count_in : Gm := (cnt 60).1
def f_step_count : Gm := (cnt 60).2
/-- slots: 0 numbers, 1 prime, 2 value, 3 number -/
def b_value_of : SM := (sSeq (sSet 2 (xC (.int 0))) (sSeq (sFor (iVal (xU (xV 0) gRev)) (bN 3) (sSet 2 (xAdd (xMul (xV 2) (xV 1)) (xV 3)))) (sRet (xV 2))))
def f_value_of : Gm := fn 2 4 b_value_of
/-- slots: 0 base, 1 many, 2 value, 3 lap -/
def b_times_over : SM := (sSeq (sSet 2 (xC (.int 1))) (sSeq (sFor (iR1 (xV 1)) (bN 3) (sSet 2 (xMul (xV 2) (xV 0)))) (sRet (xV 2))))
def f_times_over : Gm := fn 2 4 b_times_over
/-- slots: 0 pattern -/
def b_count_polynomial : SM := (sRet (xCall f_count_in (aCons (xV 0) (aCons (xNewDT) aNil)) []))
def f_count_polynomial : Gm := fn 1 1 b_count_polynomial
/-- slots: 0 pattern, 1 prime -/
def b_book_count : SM := (sSeq (sExpr (xCall f_want_prime (aCons (xV 1) aNil) [])) (sRet (xCall f_value_of (aCons (xCall f_count_in (aCons (xV 0) (aCons (xNewDT) aNil)) []) (aCons (xV 1) aNil)) [])))
def f_book_count : Gm := fn 2 2 b_book_count
/-- slots: 0 size, 1 rank, 2 prime, 3 above, 4 below, 5 k -/
def b_total_by : SM := (sSeq (sPar 3 4 (xC (.int 1)) (xC (.int 1))) (sSeq (sFor (iR1 (xV 1)) (bN 5) (sSeq (sSet 3 (xMul (xV 3) (xSub (xCall f_times_over (aCons (xV 2) (aCons (xSub (xV 0) (xV 5)) aNil)) []) (xC (.int 1))))) (sSet 4 (xMul (xV 4) (xSub (xCall f_times_over (aCons (xV 2) (aCons (xAdd (xV 5) (xC (.int 1))) aNil)) []) (xC (.int 1))))))) (sRet (xDiv (xV 3) (xV 4)))))
def f_total_by : Gm := fn 3 6 b_total_by
/-- slots: 0 size, 1 rank, 2 prime -/
def b_total_count : SM := (sSeq (sExpr (xCall f_want_size (aCons (xV 0) aNil) [])) (sSeq (sExpr (xCall f_want (aCons (xCall f_is_index (aCons (xV 1) (aCons (xAdd (xV 0) (xC (.int 1))) aNil)) []) (aCons (xC (.str ⟨#[114, 97, 110, 107]⟩)) aNil)) [.int (-1)])) (sSeq (sExpr (xCall f_want_prime (aCons (xV 2) aNil) [])) (sRet (xCall f_total_by (aCons (xV 0) (aCons (xV 1) (aCons (xV 2) aNil))) [])))))
def f_total_count : Gm := fn 3 3 b_total_count
/-- slots: 0 many, 1 row, 2 lap, 3 one, 4 other -/
def b_choices : SM := (sSeq (sSet 1 (xLst (aCons (xC (.int 1)) aNil))) (sSeq (sFor (iR1 (xV 0)) (bN 2) (sSet 1 (xLC [3, 4] (iZip (xLst (aCons (xC (.int 0)) (aStar (xV 1) aNil))) (xLst (aStar (xV 1) (aCons (xC (.int 0)) aNil)))) (bT [3, 4]) tYes (xAdd (xV 3) (xV 4))))) (sRet (xV 1))))
def f_choices : Gm := fn 1 5 b_choices
/-- slots: 0 size, 1 row, 2 many, 3 ahead, 4 here, 5 k -/
def b_falls_by : SM := (sSeq (sSet 1 (xLst (aCons (xC (.int 1)) aNil))) (sSeq (sFor (iR2 (xC (.int 1)) (xAdd (xV 0) (xC (.int 1)))) (bN 2) (sSeq (sPar 3 4 (xLst (aCons (xC (.int 0)) (aStar (xV 1) aNil))) (xLst (aStar (xV 1) (aCons (xC (.int 0)) aNil)))) (sSet 1 (xLC [5] (iR1 (xV 2)) (bN 5) tYes (xAdd (xMul (xAdd (xV 5) (xC (.int 1))) (xIx (xV 4) (xV 5))) (xMul (xSub (xV 2) (xV 5)) (xIx (xV 3) (xV 5)))))))) (sRet (xV 1))))
def f_falls_by : Gm := fn 1 6 b_falls_by
/-- slots: 0 size, 1 balls, 2 total, 3 ways, 4 full, 5 row -/
def b_count_by : SM := (sSeq (sPar 2 3 (xC (.int 0)) (xCall f_choices (aCons (xV 0) aNil) [])) (sSeq (sFor (iR1 (xAdd (xV 1) (xC (.int 1)))) (bN 4) (sSeq (sSet 5 (xCall f_falls_by (aCons (xSub (xV 0) (xV 4)) aNil) [])) (sSet 2 (xAdd (xV 2) (xIf (tV (xLt (xSub (xV 1) (xV 4)) (xU (xV 5) gLen))) (xMul (xIx (xV 3) (xV 4)) (xIx (xV 5) (xSub (xV 1) (xV 4)))) (xC (.int 0))))))) (sRet (xV 2))))
def f_count_by : Gm := fn 2 6 b_count_by
/-- slots: 0 size, 1 balls -/
def b_pattern_count : SM := (sSeq (sExpr (xCall f_want_size (aCons (xV 0) aNil) [])) (sSeq (sExpr (xCall f_want (aCons (xCall f_is_number (aCons (xV 1) aNil) []) (aCons (xC (.str ⟨#[98, 97, 108, 108, 115]⟩)) aNil)) [.int (-1)])) (sRet (xIf (tV (xLe (xV 1) (xV 0))) (xCall f_count_by (aCons (xV 0) (aCons (xV 1) aNil)) []) (xC (.int 0))))))
def f_pattern_count : Gm := fn 2 2 b_pattern_count
/-- slots: 0 size, 1 begun, 2 rest, 3 landed, 4 some, 5 to_come, 6 i, 7 number -/
def b_next_throws : SM := (sSeq (sSet 3 (xLC [6, 7] (iEnum (xV 1)) (bT [6, 7]) tYes (xMod (xAdd (xV 6) (xV 7)) (xV 0)))) (sSeq (sSet 4 (xLC [7] (iR1 (xAdd (xU (xLst (aCons (xV 0) (aCons (xV 2) aNil))) gMin) (xC (.int 1)))) (bN 7) (tV (xVV (xMod (xAdd (xU (xV 1) gLen) (xV 7)) (xV 0)) (xV 3) gNin)) (xV 7))) (sSeq (sSet 5 (xSub (xSub (xV 0) (xU (xV 1) gLen)) (xC (.int 1)))) (sRet (xLC [7] (iVal (xV 4)) (bN 7) (tV (xLe (xSub (xV 2) (xV 7)) (xMul (xV 5) (xV 0)))) (xV 7))))))
def f_next_throws : Gm := fn 3 8 b_next_throws
/-- slots: 0 size, 1 balls, 2 stack, 3 begun, 4 rest, 5 number -/
def b_patterns_of : YM := (ySeq (yPlain (sExpr (xCall f_want_size (aCons (xV 0) aNil) []))) (ySeq (yPlain (sExpr (xCall f_want (aCons (xCall f_is_number (aCons (xV 1) aNil) []) (aCons (xC (.str ⟨#[98, 97, 108, 108, 115]⟩)) aNil)) [.int (-1)]))) (ySeq (yPlain (sSet 2 (xNewL (aCons (xTup aNil) aNil)))) (yWhile 2000 (tV (xGt (xU (xV 2) gLen) (xC (.int 0)))) (ySeq (yPlain (sSet 3 (xPop (xV 2)))) (yIf (tV (xVV (xU (xV 3) gLen) (xV 0) gEq)) (yYield (xV 3)) (ySeq (yPlain (sSet 4 (xSub (xMul (xV 0) (xV 1)) (xU (xV 3) gSum)))) (yPlain (sExt (xV 2) (xLC [5] (iVal (xU (xCall f_next_throws (aCons (xV 0) (aCons (xV 3) (aCons (xV 4) aNil))) []) gRev)) (bN 5) tYes (xTup (aStar (xV 3) (aCons (xV 5) aNil)))))))))))))
def f_patterns_of : Gg := gen 2 6 b_patterns_of
/-- slots: 0 prime, 1 size, 2 leads, 3 k, 4 words, 5 place, 6 is_free, 7 some, 8 word, 9 digit -/
def b_rows_for : SM := (sSeq (sSet 4 (xLst (aCons (xTup aNil) aNil))) (sSeq (sFor (iR1 (xV 1)) (bN 5) (sSeq (sSet 6 (xAnd (xGt (xV 5) (xIx (xV 2) (xV 3))) (xVV (xV 5) (xV 2) gNin))) (sSeq (sSet 7 (xIf (tV (xV 6)) (xLstRg (xC (.int 0)) (xV 0)) (xLst (aCons (xIf (tV (xVV (xV 5) (xIx (xV 2) (xV 3)) gEq)) (xC (.int 1)) (xC (.int 0))) aNil)))) (sSet 4 (xLC2 [8, 9] [9] (iVal (xV 4)) (bN 8) (iVal (xV 7)) (bN 9) tYes (xTup (aStar (xV 8) (aCons (xV 9) aNil)))))))) (sRet (xV 4))))
def f_rows_for : Gm := fn 4 10 b_rows_for
/-- slots: 0 prime, 1 size, 2 leads, 3 found, 4 k, 5 words, 6 rows, 7 word -/
def b_rows_led : SM := (sSeq (sSet 3 (xLst (aCons (xTup aNil) aNil))) (sSeq (sFor (iR1 (xU (xV 2) gLen)) (bN 4) (sSeq (sSet 5 (xCall f_rows_for (aCons (xV 0) (aCons (xV 1) (aCons (xV 2) (aCons (xV 4) aNil)))) [])) (sSet 3 (xLC2 [6, 7] [7] (iVal (xV 3)) (bN 6) (iVal (xV 5)) (bN 7) tYes (xTup (aStar (xV 6) (aCons (xV 7) aNil))))))) (sRet (xV 3))))
def f_rows_led : Gm := fn 3 8 b_rows_led
/-- slots: 0 size, 1 rank, 2 found, 3 place, 4 some -/
def b_leads_of : SM := (sSeq (sSet 2 (xLst (aCons (xTup aNil) aNil))) (sSeq (sFor (iR1 (xV 0)) (bN 3) (sSet 2 (xLst (aStar (xV 2) (aStar (xLC [4] (iVal (xV 2)) (bN 4) (tV (xLt (xU (xV 4) gLen) (xV 1))) (xTup (aStar (xV 4) (aCons (xV 3) aNil)))) aNil))))) (sRet (xLC [4] (iVal (xV 2)) (bN 4) (tV (xVV (xU (xV 4) gLen) (xV 1) gEq)) (xV 4)))))
def f_leads_of : Gm := fn 2 5 b_leads_of
/-- slots: 0 size, 1 rank, 2 prime, 3 found, 4 leads, 5 rows -/
def b_books_by : SM := (sSeq (sSet 3 (xNewL aNil)) (sSeq (sFor (iVal (xCall f_leads_of (aCons (xV 0) (aCons (xV 1) aNil)) [])) (bN 4) (sExt (xV 3) (xCall f_rows_led (aCons (xV 2) (aCons (xV 0) (aCons (xV 4) aNil))) []))) (sRet (xLC [5] (iVal (xU (xV 3) gSorted)) (bN 5) tYes (xTup (aCons (xV 2) (aCons (xV 0) (aCons (xV 5) aNil))))))))
def f_books_by : Gm := fn 3 6 b_books_by
/-- slots: 0 size, 1 rank, 2 prime -/
def b_want_kind : SM := (sSeq (sExpr (xCall f_want_size (aCons (xV 0) aNil) [])) (sSeq (sExpr (xCall f_want (aCons (xCall f_is_index (aCons (xV 1) (aCons (xAdd (xV 0) (xC (.int 1))) aNil)) []) (aCons (xC (.str ⟨#[114, 97, 110, 107]⟩)) aNil)) [.int (-1)])) (sExpr (xCall f_want_prime (aCons (xV 2) aNil) []))))
def f_want_kind : Gm := fn 3 3 b_want_kind
/-- slots: 0 size, 1 rank, 2 prime, 3 book -/
def b_all_books : YM := (ySeq (yPlain (sExpr (xCall f_want_kind (aCons (xV 0) (aCons (xV 1) (aCons (xV 2) aNil))) []))) (yFor (iVal (xCall f_books_by (aCons (xV 0) (aCons (xV 1) (aCons (xV 2) aNil))) [])) (bN 3) (yYield (xV 3))))
def f_all_books : Gg := gen 3 4 b_all_books
/-- slots: 0 pattern, 1 prime, 2 book -/
def b_books_of : YM := (ySeq (yPlain (sExpr (xCallZ f_want_prime (aCons (xV 1) aNil) []))) (yFor (iVal (xCall f_books_by (aCons (xU (xV 0) gLen) (aCons (xCallZ f_balls_by (aCons (xV 0) aNil) []) (aCons (xV 1) aNil))) [])) (bN 2) (yIf (tV (xVV (xCallZ f_throws_in (aCons (xV 2) aNil) []) (xV 0) gEq)) (yYield (xV 2)) yNil)))
def f_books_of : Gg := gen 2 3 b_books_of
/-- slots: 0 one, 1 other, 2 bar -/
def b_order_paper : SM := (sSeq (sExpr (xCallZ f_want_peer (aCons (xV 0) (aCons (xV 1) aNil)) [.str ⟨#[111, 116, 104, 101, 114]⟩])) (sSeq (sSet 2 (xCallZ f_bar_by (aCons (xV 0) (aCons (xV 1) aNil)) [])) (sRet (xIf (tV (xVV (xV 2) (xC (.non)) gIsN)) (xTup (aCons (xC (.str ⟨#[115, 119, 97, 112, 115]⟩)) (aCons (xCallZ f_chain_by (aCons (xV 0) (aCons (xV 1) aNil)) []) aNil))) (xTup (aCons (xC (.str ⟨#[115, 116, 114, 101, 116, 99, 104]⟩)) (aCons (xV 2) aNil)))))))
def f_order_paper : Gm := fn 2 3 b_order_paper
/-- slots: 0 holds, 1 told, 2 spot -/
def b_stop_unless : SM := (sIf (tNot (tV (xV 0))) (sNever) sNil)
def f_stop_unless : Gm := fn 3 3 b_stop_unless
/-- slots: 0 thing, 1 head -/
def b_is_headed : SM := (sRet (xAnd (xCall f_is_tuple_of (aCons (xV 0) (aCons (xC (.int 2)) aNil)) []) (xAnd (xU (xIx (xV 0) (xC (.int 0))) (gIsi .str)) (xVV (xIx (xV 0) (xC (.int 0))) (xV 1) gEq))))
def f_is_headed : Gm := fn 2 2 b_is_headed
/-- slots: 0 size, 1 thing -/
def b_is_swap_pair : SM := (sSeq (sIf (tOr (tNot (tV (xCall f_is_tuple_of (aCons (xV 1) (aCons (xC (.int 2)) aNil)) []))) (tOr (tNot (tV (xCall f_is_index (aCons (xIx (xV 1) (xC (.int 0))) (aCons (xV 0) aNil)) []))) (tNot (tV (xCall f_is_integer (aCons (xIx (xV 1) (xC (.int 1))) aNil) []))))) (sRet (xC (.bl false))) sNil) (sRet (xChain ilt ilt (xIx (xV 1) (xC (.int 0))) (xIx (xV 1) (xC (.int 1))) (xAdd (xIx (xV 1) (xC (.int 0))) (xV 0)))))
def f_is_swap_pair : Gm := fn 2 2 b_is_swap_pair
/-- slots: 0 other, 1 pairs, 2 here, 3 k, 4 pair, 5 late -/
def b_swaps_end : SM := (sSeq (sSet 2 (xV 0)) (sSeq (sFor (iEnum (xV 1)) (bT [3, 4]) (sSeq (sExpr (xCallZ f_stop_unless (aCons (xCallZ f_is_swap_pair (aCons (xU (xV 0) gLen) (aCons (xV 4) aNil)) []) (aCons (xC (.str ⟨#[112, 97, 105, 114]⟩)) (aCons (xV 3) aNil))) [])) (sSeq (sSet 5 (xCallZ g_swapped_by (aCons (xV 2) (aCons (xIx (xV 4) (xC (.int 0))) (aCons (xIx (xV 4) (xC (.int 1))) aNil))) [])) (sSeq (sExpr (xCallZ f_stop_unless (aCons (xAnd (xVV (xV 5) (xC (.non)) gNotN) (xCallZ f_is_rise (aCons (xV 2) (aCons (xV 4) aNil)) [])) (aCons (xC (.str ⟨#[115, 119, 97, 112]⟩)) (aCons (xV 3) aNil))) [])) (sSet 2 (xV 5)))))) (sRet (xV 2))))
def f_swaps_end : Gm := fn 2 6 b_swaps_end
/-- slots: 0 one, 1 other, 2 thing, 3 stretch, 4 is_greater -/
def b_lets_below : SM := (sSeq (sExpr (xCallZ f_want_peer (aCons (xV 0) (aCons (xV 1) aNil)) [.str ⟨#[111, 116, 104, 101, 114]⟩])) (sSeq (sIf (tAnd (tV (xCallZ f_is_headed (aCons (xV 2) (aCons (xC (.str ⟨#[115, 119, 97, 112, 115]⟩)) aNil)) [])) (tV (xU (xIx (xV 2) (xC (.int 1))) (gIsi .tuple)))) (sSeq (sExpr (xCallZ f_stop_unless (aCons (xVV (xCallZ f_swaps_end (aCons (xV 1) (aCons (xIx (xV 2) (xC (.int 1))) aNil)) []) (xV 0) gEq) (aCons (xC (.str ⟨#[101, 110, 100]⟩)) aNil)) [.int (-1)])) (sRet (xC (.bl true)))) sNil) (sSeq (sExpr (xCallZ f_stop_unless (aCons (xCallZ f_is_headed (aCons (xV 2) (aCons (xC (.str ⟨#[115, 116, 114, 101, 116, 99, 104]⟩)) aNil)) []) (aCons (xC (.str ⟨#[115, 104, 97, 112, 101]⟩)) aNil)) [.int (-1)])) (sSeq (sSet 3 (xIx (xV 2) (xC (.int 1)))) (sSeq (sExpr (xCallZ f_stop_unless (aCons (xCallZ f_is_stretch (aCons (xU (xV 0) gLen) (aCons (xV 3) aNil)) []) (aCons (xC (.str ⟨#[115, 116, 114, 101, 116, 99, 104]⟩)) aNil)) [.int (-1)])) (sSeq (sSet 4 (xGt (xCallZ g_rank_in (aCons (xV 0) (aCons (xIx (xV 3) (xC (.int 0))) (aCons (xIx (xV 3) (xC (.int 1))) aNil))) []) (xCallZ g_rank_in (aCons (xV 1) (aCons (xIx (xV 3) (xC (.int 0))) (aCons (xIx (xV 3) (xC (.int 1))) aNil))) []))) (sSeq (sExpr (xCallZ f_stop_unless (aCons (xV 4) (aCons (xC (.str ⟨#[114, 97, 110, 107]⟩)) aNil)) [.int (-1)])) (sRet (xC (.bl false))))))))))
def f_lets_below : Gm := fn 3 5 b_lets_below
/-- slots: 0 pattern -/
def b_balls_of : SM := (sRet (xCall f_balls_by (aCons (xV 0) aNil) []))
def f_balls_of : Gm := fn 1 1 b_balls_of
/-- slots: 0 pattern, 1 i, 2 j -/
def b_want_pair : SM := (sSeq (sExpr (xCall f_want (aCons (xCall f_is_index (aCons (xV 1) (aCons (xU (xV 0) gLen) aNil)) []) (aCons (xC (.str ⟨#[105]⟩)) aNil)) [.int (-1)])) (sExpr (xCall f_want (aCons (xAnd (xCall f_is_integer (aCons (xV 2) aNil) []) (xChain ilt ilt (xV 1) (xV 2) (xAdd (xV 1) (xU (xV 0) gLen)))) (aCons (xC (.str ⟨#[106]⟩)) aNil)) [.int (-1)])))
def f_want_pair : Gm := fn 3 3 b_want_pair
/-- slots: 0 pattern, 1 i, 2 j, 3 other -/
def b_swapped : SM := (sSeq (sExpr (xCall f_want_pair (aCons (xV 0) (aCons (xV 1) (aCons (xV 2) aNil))) [])) (sSeq (sSet 3 (xCall g_swapped_by (aCons (xV 0) (aCons (xV 1) (aCons (xV 2) aNil))) [])) (sSeq (sExpr (xCall f_want (aCons (xVV (xV 3) (xC (.non)) gNotN) (aCons (xC (.str ⟨#[106]⟩)) aNil)) [.int (-1)])) (sRet (xV 3)))))
def f_swapped : Gm := fn 3 4 b_swapped
/-- slots: 0 pattern, 1 pair -/
def b_lowering_swaps : SM := (sRet (xU (xLC [1] (iVal (xCall f_pairs_by (aCons (xV 0) aNil) [])) (bN 1) (tV (xCall f_is_rise (aCons (xV 0) (aCons (xV 1) aNil)) [])) (xV 1)) gTupOf))
def f_lowering_swaps : Gm := fn 1 2 b_lowering_swaps
/-- slots: 0 pattern -/
def b_depth_of : SM := (sRet (xCall f_depth_by (aCons (xV 0) aNil) []))
def f_depth_of : Gm := fn 1 1 b_depth_of
/-- slots: 0 _law_script -/
def b__law_source : SM := (sRet (xNewL (aCons (xSl (xV 0) none (some (xC (.int 63)))) (aCons (xC (.int 0)) (aCons (xC (.int 0)) (aCons (xC (.int 0)) aNil))))))
def f__law_source : Gm := fnK 1 1 b__law_source
/-- slots: 0 _law_feed, 1 _law_size, 2 _law_found, 3 _law_spot, 4 _law_cell, 5 _law_mixed -/
def b__law_draw : SM := (sSeq (sIx (xV 0) (xC (.int 3)) (xAdd (xIx (xV 0) (xC (.int 3))) (xC (.int 1)))) (sSeq (sIf (tV (xGt (xIx (xV 0) (xC (.int 2))) (xC (.int 0)))) (sSeq (sSet 2 (xMod (xU (xIx (xV 0) (xC (.int 2))) gInt) (xV 1))) (sSeq (sIx (xV 0) (xC (.int 2)) (xDiv (xIx (xV 0) (xC (.int 2))) (xV 1))) (sRet (xV 2)))) sNil) (sSeq (sSet 3 (xIx (xV 0) (xC (.int 1)))) (sSeq (sIx (xV 0) (xC (.int 1)) (xAdd (xV 3) (xC (.int 1)))) (sSeq (sSet 4 (xIf (tV (xVV (xIx (xV 0) (xC (.int 0))) (xLst aNil) gNe)) (xIx (xIx (xV 0) (xC (.int 0))) (xMod (xU (xV 3) gInt) (xU (xIx (xV 0) (xC (.int 0))) gLen))) (xC (.int 513)))) (sSeq (sIf (tAnd (tV (xGe (xV 4) (xPow (xC (.int 10)) (xC (.int 18))))) (tV (xLt (xV 3) (xU (xIx (xV 0) (xC (.int 0))) gLen)))) (sSeq (sIx (xV 0) (xC (.int 2)) (xDiv (xV 4) (xV 1))) (sRet (xMod (xU (xV 4) gInt) (xV 1)))) sNil) (sSeq (sSet 5 (xMod (xU (xPow (xAdd (xAdd (xMod (xU (xV 4) gInt) (xC (.int 1999986491))) (xMul (xC (.int 35165)) (xIx (xV 0) (xC (.int 3))))) (xC (.int 929))) (xC (.int 3))) gInt) (xC (.int 2147473549)))) (sSeq (sSet 5 (xMod (xU (xPow (xAdd (xAdd (xV 5) (xMul (xMul (xC (.int 23089)) (xIx (xV 0) (xC (.int 3)))) (xIx (xV 0) (xC (.int 3))))) (xC (.int 871))) (xC (.int 5))) gInt) (xC (.int 2147473421)))) (sRet (xMod (xU (xDiv (xV 5) (xC (.int 64))) gInt) (xV 1)))))))))))
def f__law_draw : Gm := fn 2 6 b__law_draw
/-- slots: 0 _law_prime, 1 _law_word, 2 _law_many, 3 _law_lead, 4 _law_a, 5 _law_b -/
def b__law_less : SM := (sRet (xLC [4, 5] (iZip (xV 1) (xV 3)) (bT [4, 5]) tYes (xMod (xU (xSub (xV 4) (xMul (xV 2) (xV 5))) gInt) (xV 0))))
def f__law_less : Gm := fn 4 6 b__law_less
/-- slots: 0 _law_prime, 1 _law_words, 2 _law_rows_here, 3 _law_todo, 4 _law_wide, 5 _law_place, 6 _law_some, 7 _law_back, 8 _law_lead, 9 _law_word, 10 _law_digit, 11 _law_k -/
def b__law_rows : SM := (sSeq (sPar 2 3 (xLst aNil) (xLC [9] (iVal (xV 1)) (bN 9) tYes (xU (xV 9) gLstOf))) (sSeq (sSet 4 (xIf (tV (xVV (xV 3) (xLst aNil) gNe)) (xU (xIx (xV 3) (xC (.int 0))) gLen) (xC (.int 0)))) (sSeq (sFor (iR1 (xV 4)) (bN 5) (sSeq (sSet 6 (xLC [9] (iVal (xV 3)) (bN 9) (tV (xVV (xIx (xV 9) (xV 5)) (xC (.int 0)) gNe)) (xV 9))) (sIf (tV (xVV (xV 6) (xLst aNil) gNe)) (sSeq (sSet 7 (xIx (xLC [11] (iR2 (xC (.int 1)) (xV 0)) (bN 11) (tV (xVV (xMod (xU (xMul (xV 11) (xIx (xIx (xV 6) (xC (.int 0))) (xV 5))) gInt) (xV 0)) (xC (.int 1)) gEq)) (xV 11)) (xC (.int 0)))) (sSeq (sSet 8 (xLC [10] (iVal (xIx (xV 6) (xC (.int 0)))) (bN 10) tYes (xMod (xU (xMul (xV 7) (xV 10)) gInt) (xV 0)))) (sSeq (sSet 3 (xLC [9] (iVal (xV 3)) (bN 9) tYes (xCall f__law_less (aCons (xV 0) (aCons (xV 9) (aCons (xIx (xV 9) (xV 5)) (aCons (xV 8) aNil)))) []))) (sSet 2 (xVV (xLC [9] (iVal (xV 2)) (bN 9) tYes (xCall f__law_less (aCons (xV 0) (aCons (xV 9) (aCons (xIx (xV 9) (xV 5)) (aCons (xV 8) aNil)))) [])) (xLst (aCons (xV 8) aNil)) gCatL))))) sNil))) (sRet (xU (xLC [9] (iVal (xV 2)) (bN 9) tYes (xU (xV 9) gTupOf)) gTupOf)))))
def f__law_rows : Gm := fn 2 12 b__law_rows
/-- slots: 0 _law_book, 1 _law_k, 2 _law_row -/
def b__law_columns : SM := (sRet (xLC [1] (iR1 (xIx (xV 0) (xC (.int 1)))) (bN 1) tYes (xU (xLC [2] (iVal (xIx (xV 0) (xC (.int 2)))) (bN 2) tYes (xIx (xV 2) (xV 1))) gTupOf)))
def f__law_columns : Gm := fn 1 3 b__law_columns
/-- slots: 0 _law_prime, 1 _law_columns_here -/
def b__law_rank : SM := (sRet (xU (xCall f__law_rows (aCons (xV 0) (aCons (xV 1) aNil)) []) gLen))
def f__law_rank : Gm := fn 2 2 b__law_rank
/-- slots: 0 _law_prime, 1 _law_columns_here, 2 _law_one -/
def b__law_is_new : SM := (sRet (xGt (xCall f__law_rank (aCons (xV 0) (aCons (xVV (xV 1) (xLst (aCons (xV 2) aNil)) gCatL) aNil)) []) (xCall f__law_rank (aCons (xV 0) (aCons (xV 1) aNil)) [])))
def f__law_is_new : Gm := fn 3 3 b__law_is_new
/-- slots: 0 _law_book, 1 _law_columns_here, 2 _law_found, 3 _law_i, 4 _law_near, 5 _law_t -/
def b__law_throws : SM := (sSeq (sPar 1 2 (xCall f__law_columns (aCons (xV 0) aNil) []) (xNewL aNil)) (sSeq (sFor (iR1 (xIx (xV 0) (xC (.int 1)))) (bN 3) (sSeq (sPar 4 5 (xNewL aNil) (xC (.int 0))) (sSeq (sWhile 100 (tAnd (tV (xLt (xV 5) (xIx (xV 0) (xC (.int 1))))) (tV (xCallZ f__law_is_new (aCons (xIx (xV 0) (xC (.int 0))) (aCons (xV 4) (aCons (xIx (xV 1) (xV 3)) aNil))) []))) (sSeq (sSet 5 (xAdd (xV 5) (xC (.int 1)))) (sApp (xV 4) (xIx (xV 1) (xMod (xU (xAdd (xV 3) (xV 5)) gInt) (xIx (xV 0) (xC (.int 1)))))))) (sApp (xV 2) (xV 5))))) (sRet (xU (xV 2) gTupOf))))
def f__law_throws : Gm := fn 1 6 b__law_throws
/-- slots: 0 _law_throws_here, 1 _law_start, 2 _law_length, 3 _law_size, 4 _law_found, 5 _law_k -/
def b__law_within : SM := (sSeq (sPar 3 4 (xU (xV 0) gLen) (xC (.int 0))) (sSeq (sFor (iR1 (xV 2)) (bN 5) (sIf (tV (xLt (xAdd (xV 5) (xIx (xV 0) (xMod (xU (xAdd (xV 1) (xV 5)) gInt) (xV 3)))) (xV 2))) (sSet 4 (xAdd (xV 4) (xC (.int 1)))) sNil)) (sRet (xV 4))))
def f__law_within : Gm := fn 3 6 b__law_within
/-- slots: 0 _law_throws_here, 1 _law_i -/
def b__law_lands : SM := (sRet (xAdd (xV 1) (xIx (xV 0) (xMod (xU (xV 1) gInt) (xU (xV 0) gLen)))))
def f__law_lands : Gm := fn 2 2 b__law_lands
/-- slots: 0 _law_throws_here, 1 _law_size, 2 _law_found, 3 _law_i, 4 _law_j -/
def b__law_depth : SM := (sSeq (sPar 1 2 (xU (xV 0) gLen) (xC (.int 0))) (sSeq (sFor (iR1 (xV 1)) (bN 3) (sFor (iR2 (xAdd (xV 3) (xC (.int 1))) (xAdd (xV 3) (xV 1))) (bN 4) (sIf (tV (xGt (xCall g_lands_by (aCons (xV 0) (aCons (xV 3) aNil)) []) (xCall g_lands_by (aCons (xV 0) (aCons (xV 4) aNil)) []))) (sSet 2 (xAdd (xV 2) (xC (.int 1)))) sNil))) (sRet (xV 2))))
def f__law_depth : Gm := fn 1 5 b__law_depth
/-- slots: 0 _law_feed, 1 _law_size, 2 _law_left_ones, 3 _law_found, 4 _law_lap, 5 _law_k, 6 _law_one -/
def b__law_order : SM := (sSeq (sPar 2 3 (xLstRg (xC (.int 0)) (xV 1)) (xNewL aNil)) (sSeq (sFor (iR1 (xV 1)) (bN 4) (sSeq (sSet 5 (xIx (xV 2) (xCall f__law_draw (aCons (xV 0) (aCons (xU (xV 2) gLen) aNil)) []))) (sSeq (sSet 2 (xLC [6] (iVal (xV 2)) (bN 6) (tV (xVV (xV 6) (xV 5) gNe)) (xV 6))) (sApp (xV 3) (xV 5))))) (sRet (xV 3))))
def f__law_order : Gm := fn 2 7 b__law_order
/-- slots: 0 _law_feed, 1 _law_size, 2 _law_found, 3 _law_i, 4 _law_place -/
def b__law_pattern : SM := (sSeq (sSet 2 (xNewL aNil)) (sSeq (sFor (iEnum (xCall f__law_order (aCons (xV 0) (aCons (xV 1) aNil)) [])) (bT [3, 4]) (sIf (tV (xVV (xV 4) (xV 3) gEq)) (sApp (xV 2) (xMul (xV 1) (xCall f__law_draw (aCons (xV 0) (aCons (xC (.int 2)) aNil)) []))) (sApp (xV 2) (xMod (xU (xSub (xV 4) (xV 3)) gInt) (xV 1))))) (sRet (xU (xV 2) gTupOf))))
def f__law_pattern : Gm := fn 2 5 b__law_pattern
/-- slots: 0 _law_throws_here, 1 _law_i, 2 _law_j, 3 _law_size, 4 _law_found -/
def b__law_swapped : SM := (sSeq (sPar 3 4 (xU (xV 0) gLen) (xCellOf (xV 0))) (sSeq (sIx (xV 4) (xV 1) (xSub (xCall g_lands_by (aCons (xV 0) (aCons (xV 2) aNil)) []) (xV 1))) (sSeq (sIx (xV 4) (xMod (xU (xV 2) gInt) (xV 3)) (xSub (xCall g_lands_by (aCons (xV 0) (aCons (xV 1) aNil)) []) (xV 2))) (sRet (xIf (tAnd (tV (xGe (xU (xV 4) gMin) (xC (.int 0)))) (tV (xLe (xU (xV 4) gMax) (xV 3)))) (xU (xV 4) gTupOf) (xC (.non)))))))
def f__law_swapped : Gm := fn 3 5 b__law_swapped
/-- slots: 0 _law_throws_here, 1 _law_found, 2 _law_i, 3 _law_j -/
def b__law_lowering : SM := (sSeq (sSet 1 (xNewL aNil)) (sSeq (sFor (iR1 (xU (xV 0) gLen)) (bN 2) (sFor (iR2 (xAdd (xV 2) (xC (.int 1))) (xAdd (xV 2) (xU (xV 0) gLen))) (bN 3) (sIf (tAnd (tV (xLt (xCall g_lands_by (aCons (xV 0) (aCons (xV 2) aNil)) []) (xCall g_lands_by (aCons (xV 0) (aCons (xV 3) aNil)) []))) (tV (xVV (xCall g__law_swapped (aCons (xV 0) (aCons (xV 2) (aCons (xV 3) aNil))) []) (xC (.non)) gNotN))) (sApp (xV 1) (xTup (aCons (xV 2) (aCons (xV 3) aNil)))) sNil))) (sRet (xU (xV 1) gTupOf))))
def f__law_lowering : Gm := fn 1 4 b__law_lowering
/-- slots: 0 _law_one, 1 _law_other, 2 _law_s, 3 _law_n -/
def b__law_is_above : SM := (sSeq (sFor (iR1 (xU (xV 0) gLen)) (bN 2) (sFor (iR1 (xAdd (xU (xV 0) gLen) (xC (.int 1)))) (bN 3) (sIf (tV (xLt (xCallZ g__law_within (aCons (xV 0) (aCons (xV 2) (aCons (xV 3) aNil))) []) (xCallZ g__law_within (aCons (xV 1) (aCons (xV 2) (aCons (xV 3) aNil))) []))) (sRet (xC (.bl true))) sNil))) (sRet (xC (.bl false))))
def f__law_is_above : Gm := fn 2 4 b__law_is_above
/-- slots: 0 _law_one, 1 _law_other, 2 _law_below, 3 _law_chain, 4 _law_here, 5 _law_deep, 6 _law_i, 7 _law_j -/
def b__law_order_right : SM := (sSeq (sSet 2 (xNot (xCallZ f__law_is_above (aCons (xV 0) (aCons (xV 1) aNil)) []))) (sSeq (sIf (tOr (tV (xVV (xCallZ f_lies_below (aCons (xV 0) (aCons (xV 1) aNil)) []) (xV 2) gNe)) (tV (xVV (xVV (xCallZ f_barring_stretch (aCons (xV 0) (aCons (xV 1) aNil)) []) (xC (.non)) gIsN) (xV 2) gNe))) (sRet (xC (.bl false))) sNil) (sSeq (sIf (tV (xVV (xCallZ f_lets_below (aCons (xV 0) (aCons (xV 1) (aCons (xCallZ f_order_paper (aCons (xV 0) (aCons (xV 1) aNil)) []) aNil))) []) (xV 2) gNe)) (sRet (xC (.bl false))) sNil) (sSeq (sSet 3 (xCallZ f_chain_to (aCons (xV 0) (aCons (xV 1) aNil)) [])) (sSeq (sIf (tNot (tV (xV 2))) (sRet (xVV (xV 3) (xC (.non)) gIsN)) sNil) (sSeq (sPar 4 5 (xV 1) (xCallZ f__law_depth (aCons (xV 1) aNil) [])) (sSeq (sIf (tV (xVV (xU (xV 3) gLen) (xSub (xCallZ f__law_depth (aCons (xV 0) aNil) []) (xV 5)) gNe)) (sRet (xC (.bl false))) sNil) (sSeq (sFor (iVal (xV 3)) (bT [6, 7]) (sSeq (sSet 4 (xCallZ g__law_swapped (aCons (xV 4) (aCons (xV 6) (aCons (xV 7) aNil))) [])) (sSeq (sIf (tOr (tV (xVV (xV 4) (xC (.non)) gIsN)) (tV (xVV (xCallZ f__law_depth (aCons (xV 4) aNil) []) (xAdd (xV 5) (xC (.int 1))) gNe))) (sRet (xC (.bl false))) sNil) (sSet 5 (xAdd (xV 5) (xC (.int 1))))))) (sRet (xVV (xV 4) (xV 0) gEq))))))))))
def f__law_order_right : Gm := fn 2 8 b__law_order_right
/-- slots: 0 _law_feed, 1 _law_size, 2 _law_rank_here, 3 _law_prime, 4 _law_books, 5 _law_counts, 6 _law_book, 7 _law_throws_here, 8 _law_every, 9 _law_numbers, 10 _law_told, 11 _law_number, 12 _law_high, 13 _law_some, 14 _law_mine -/
def b__law_counts_right : SM := (sSeq (sUnp [1, 2, 3] (xIx (xLst (aCons (xTup (aCons (xC (.int 2)) (aCons (xC (.int 1)) (aCons (xC (.int 3)) aNil)))) (aCons (xTup (aCons (xC (.int 3)) (aCons (xC (.int 1)) (aCons (xC (.int 2)) aNil)))) (aCons (xTup (aCons (xC (.int 3)) (aCons (xC (.int 2)) (aCons (xC (.int 2)) aNil)))) (aCons (xTup (aCons (xC (.int 3)) (aCons (xC (.int 2)) (aCons (xC (.int 3)) aNil)))) (aCons (xTup (aCons (xC (.int 4)) (aCons (xC (.int 2)) (aCons (xC (.int 2)) aNil)))) (aCons (xTup (aCons (xC (.int 2)) (aCons (xC (.int 1)) (aCons (xC (.int 5)) aNil)))) aNil))))))) (xCall f__law_draw (aCons (xV 0) (aCons (xC (.int 6)) aNil)) []))) (sSeq (sSet 4 (xListG f_all_books (aCons (xV 1) (aCons (xV 2) (aCons (xV 3) aNil))))) (sSeq (sIf (tOr (tV (xVV (xU (xV 4) gLen) (xCallZ f_total_count (aCons (xV 1) (aCons (xV 2) (aCons (xV 3) aNil))) []) gNe)) (tV (xVV (xU (xV 4) gSortSet) (xV 4) gNe))) (sRet (xC (.bl false))) sNil) (sSeq (sSet 5 (xNewDT)) (sSeq (sFor (iVal (xV 4)) (bN 6) (sSeq (sSet 7 (xCallZ f__law_throws (aCons (xV 6) aNil) [])) (sDput (xV 5) (xV 7) (xAdd (xGet (xV 5) (xV 7) (xC (.int 0))) (xC (.int 1)))))) (sSeq (sSet 8 (xListG f_patterns_of (aCons (xV 1) (aCons (xV 2) aNil)))) (sSeq (sIf (tOr (tV (xVV (xU (xV 8) gLen) (xCallZ f_pattern_count (aCons (xV 1) (aCons (xV 2) aNil)) []) gNe)) (tV (xVV (xLCK [7] 5 (bN 7) (tV (xVV (xV 7) (xV 8) gNin)) (xV 7)) (xLst aNil) gNe))) (sRet (xC (.bl false))) sNil) (sSeq (sFor (iVal (xV 8)) (bN 7) (sSeq (sPar 9 10 (xCallZ f_count_polynomial (aCons (xV 7) aNil) []) (xC (.int 0))) (sSeq (sFor (iVal (xU (xV 9) gRev)) (bN 11) (sSet 10 (xAdd (xMul (xV 10) (xV 3)) (xV 11)))) (sSeq (sIf (tOr (tV (xVV (xCallZ f_book_count (aCons (xV 7) (aCons (xV 3) aNil)) []) (xGet (xV 5) (xV 7) (xC (.int 0))) gNe)) (tV (xVV (xV 10) (xGet (xV 5) (xV 7) (xC (.int 0))) gNe))) (sRet (xC (.bl false))) sNil) (sSeq (sSet 12 (xSub (xMul (xV 2) (xSub (xV 1) (xV 2))) (xCallZ f__law_depth (aCons (xV 7) aNil) []))) (sIf (tOr (tV (xVV (xIx (xV 9) (xU (xC (.int 1)) gNeg)) (xC (.int 1)) gNe)) (tV (xVV (xSub (xU (xV 9) gLen) (xC (.int 1))) (xV 12) gNe))) (sRet (xC (.bl false))) sNil)))))) (sSeq (sSet 13 (xIx (xV 8) (xCall f__law_draw (aCons (xV 0) (aCons (xU (xV 8) gLen) aNil)) []))) (sSeq (sSet 14 (xListG f_books_of (aCons (xV 13) (aCons (xV 3) aNil)))) (sRet (xAnd (xVV (xV 14) (xLC [6] (iVal (xV 4)) (bN 6) (tV (xVV (xCallZ f_pattern_of (aCons (xV 6) aNil) []) (xV 13) gEq)) (xV 6)) gEq) (xVV (xV 14) (xLst aNil) gNe)))))))))))))
def f__law_counts_right : Gm := fn 1 15 b__law_counts_right
/-- slots: 0 _law_script, 1 _law_feed, 2 _law_size, 3 _law_other, 4 _law_one, 5 _law_lap, 6 _law_swaps, 7 _law_i, 8 _law_j, 9 _law_late -/
def b_law : SM := (sSeq (sSet 1 (xCall f__law_source (aCons (xV 0) aNil) [])) (sSeq (sSet 2 (xAdd (xC (.int 2)) (xCall f__law_draw (aCons (xV 1) (aCons (xC (.int 4)) aNil)) []))) (sSeq (sSet 3 (xCall f__law_pattern (aCons (xV 1) (aCons (xV 2) aNil)) [])) (sSeq (sSet 4 (xV 3)) (sSeq (sFor (iR1 (xCall f__law_draw (aCons (xV 1) (aCons (xC (.int 5)) aNil)) [])) (bN 5) (sSeq (sSet 6 (xCallZ f__law_lowering (aCons (xV 4) aNil) [])) (sIf (tV (xVV (xV 6) (xTup aNil) gNe)) (sSeq (sUnp [7, 8] (xIx (xV 6) (xCall f__law_draw (aCons (xV 1) (aCons (xU (xV 6) gLen) aNil)) []))) (sSet 4 (xCallZ g__law_swapped (aCons (xV 4) (aCons (xV 7) (aCons (xV 8) aNil))) []))) sNil))) (sSeq (sIf (tOr (tV (xVV (xCallZ f_lowering_swaps (aCons (xV 3) aNil) []) (xCallZ f__law_lowering (aCons (xV 3) aNil) []) gNe)) (tV (xVV (xCallZ f_depth_of (aCons (xV 4) aNil) []) (xCallZ f__law_depth (aCons (xV 4) aNil) []) gNe))) (sRet (xC (.bl false))) sNil) (sSeq (sIf (tV (xVV (xCallZ f__law_lowering (aCons (xV 3) aNil) []) (xTup aNil) gNe)) (sSeq (sUnp [7, 8] (xIx (xCallZ f__law_lowering (aCons (xV 3) aNil) []) (xC (.int 0)))) (sIf (tV (xVV (xCallZ f_swapped (aCons (xV 3) (aCons (xV 7) (aCons (xV 8) aNil))) []) (xCallZ g__law_swapped (aCons (xV 3) (aCons (xV 7) (aCons (xV 8) aNil))) []) gNe)) (sRet (xC (.bl false))) sNil)) sNil) (sSeq (sIf (tOr (tNot (tV (xCallZ f__law_order_right (aCons (xV 4) (aCons (xV 3) aNil)) []))) (tV (xVV (xCallZ f_lies_below (aCons (xV 4) (aCons (xV 3) aNil)) []) (xC (.bl true)) gNotB))) (sRet (xC (.bl false))) sNil) (sSeq (sSet 9 (xCall f__law_pattern (aCons (xV 1) (aCons (xV 2) aNil)) [])) (sSeq (sIf (tAnd (tV (xVV (xU (xV 9) gSum) (xU (xV 3) gSum) gEq)) (tNot (tV (xCallZ f__law_order_right (aCons (xV 9) (aCons (xV 3) aNil)) [])))) (sRet (xC (.bl false))) sNil) (sRet (xAnd (xVV (xMul (xCallZ f_balls_of (aCons (xV 3) aNil) []) (xV 2)) (xU (xV 3) gSum) gEq) (xCall f__law_counts_right (aCons (xV 1) aNil) [])))))))))))))
def f_law : Gm := fn 1 10 b_law
end
end Ev
end
section
set_option Elab.async false
set_option linter.all false
set_option maxRecDepth 100000
/-! EvData: the values of EvSem as the library's data. -/
namespace Ev
open PySem PySem.W PySem.Calls PyProof.Rows
mutual
def toD : Va → PyData
  | .non => .none
  | .bl b => .bool b
  | .int i => .int i
  | .str x => .str x
  | .tup xs => .tuple (toDs xs)
  | .lst xs => .list (toDs xs)
  | .ref _ => .dict []
def toDs : List Va → List PyData
  | [] => []
  | x :: xs => toD x :: toDs xs
end
theorem toDs_map : ∀ xs : List Va, toDs xs = xs.map toD
  | [] => rfl
  | x :: xs => by
    show toD x :: toDs xs = toD x :: xs.map toD
    rw [toDs_map xs]
theorem ieq_beq (i j : Int) : ieq i j = (i == j) := by
  rw [ieq_eq, Bool.beq_eq_decide_eq]
mutual
theorem eqv_toD : ∀ a b : Va, PyData.eqv (toD a) (toD b) = veq a b
  | .non, b => by cases b <;> simp [toD, veq, PyData.eqv]
  | .bl a, b => by
    cases b with
    | int j => cases a <;> simp [toD, veq, PyData.eqv, ieq_beq]
    | _ => simp [toD, veq, PyData.eqv]
  | .int i, b => by
    cases b with
    | bl c => cases c <;> simp [toD, veq, PyData.eqv, ieq_beq]
    | int j => simp [toD, veq, PyData.eqv, ieq_beq]
    | _ => simp [toD, veq, PyData.eqv]
  | .str x, b => by cases b <;> simp [toD, veq, PyData.eqv]
  | .tup xs, b => by
    cases b with
    | tup ys => simp only [toD, veq, PyData.eqv, eqv_toDs xs ys]
    | _ => simp [toD, veq, PyData.eqv]
  | .lst xs, b => by
    cases b with
    | lst ys => simp only [toD, veq, PyData.eqv, eqv_toDs xs ys]
    | _ => simp [toD, veq, PyData.eqv]
  | .ref n, b => by cases b <;> simp [toD, veq, PyData.eqv]
theorem eqv_toDs : ∀ xs ys : List Va, PyData.eqvAll (toDs xs) (toDs ys) = veqs xs ys
  | [], [] => by simp [toDs, veqs, PyData.eqvAll]
  | [], _ :: _ => by simp [toDs, veqs, PyData.eqvAll]
  | _ :: _, [] => by simp [toDs, veqs, PyData.eqvAll]
  | x :: xs, y :: ys => by
    simp only [toDs, veqs, PyData.eqvAll, eqv_toD x y, eqv_toDs xs ys]
    cases veq x y <;> rfl
end
mutual
theorem plain_toD : ∀ (n : Nat) (v : Va), dle n v = true → (toD v).plain = true ∧ (toD v).depth ≤ n
  | n, .non, _ => by simp [toD, PyData.plain, PyData.depth]
  | n, .bl b, _ => by simp [toD, PyData.plain, PyData.depth]
  | n, .int i, _ => by simp [toD, PyData.plain, PyData.depth]
  | n, .str x, _ => by simp [toD, PyData.plain, PyData.depth]
  | 0, .tup xs, h => by simp [dle] at h
  | n + 1, .tup xs, h => by
    have q := plain_toDs n xs (by simpa [dle] using h)
    simp only [toD, PyData.plain, PyData.depth]
    exact ⟨q.1, Nat.succ_le_succ q.2⟩
  | 0, .lst xs, h => by simp [dle] at h
  | n + 1, .lst xs, h => by
    have q := plain_toDs n xs (by simpa [dle] using h)
    simp only [toD, PyData.plain, PyData.depth]
    exact ⟨q.1, Nat.succ_le_succ q.2⟩
  | 0, .ref k, h => by simp [dle] at h
  | n + 1, .ref k, h => by simp [dle] at h
theorem plain_toDs : ∀ (n : Nat) (xs : List Va), dles n xs = true → PyData.plainAll (toDs xs) = true ∧ PyData.depthAll (toDs xs) ≤ n
  | n, [], _ => by simp [toDs, PyData.plainAll, PyData.depthAll]
  | n, x :: xs, h => by
    have h1 : dle n x = true ∧ dles n xs = true := by
      unfold dles at h
      cases e : dle n x with
      | true => rw [e] at h; exact ⟨rfl, h⟩
      | false => rw [e] at h; cases h
    have q1 := plain_toD n x h1.1
    have q2 := plain_toDs n xs h1.2
    simp only [toDs, PyData.plainAll, PyData.depthAll]
    exact ⟨by rw [q1.1, q2.1]; rfl, Nat.max_le.mpr ⟨q1.2, q2.2⟩⟩
end
theorem shps_cons {x y : Va} {xs ys : List Va} (h : shps (x :: xs) (y :: ys) = true) : shp x y = true ∧ shps xs ys = true := by
  unfold shps at h
  cases e : shp x y with
  | true => rw [e] at h; exact ⟨rfl, h⟩
  | false => rw [e] at h; cases h
mutual
theorem shp_alike : ∀ a b : Va, shp a b = true → alike (toD a) (toD b) = true
  | .int i, b, h => by
    cases b with
    | int j => simp [toD, alike]
    | _ => simp [shp] at h
  | .tup xs, b, h => by
    cases b with
    | tup ys => simpa [toD, alike] using shps_alike xs ys (by simpa [shp] using h)
    | _ => simp [shp] at h
  | .non, b, h => by cases b <;> simp [shp] at h
  | .bl _, b, h => by cases b <;> simp [shp] at h
  | .str _, b, h => by cases b <;> simp [shp] at h
  | .lst _, b, h => by cases b <;> simp [shp] at h
  | .ref _, b, h => by cases b <;> simp [shp] at h
theorem shps_alike : ∀ xs ys : List Va, shps xs ys = true → alikeAll (toDs xs) (toDs ys) = true
  | [], [], _ => by simp [toDs, alikeAll]
  | [], _ :: _, h => by simp [shps] at h
  | _ :: _, [], h => by simp [shps] at h
  | x :: xs, y :: ys, h => by
    have h1 := shps_cons h
    simp only [toDs, alikeAll, shp_alike x y h1.1, shps_alike xs ys h1.2, Bool.and_self]
end
mutual
theorem shp_tr : ∀ a b c : Va, shp a b = true → shp a c = true → shp b c = true
  | .int i, b, c, h, h' => by
    cases b with
    | int j => cases c with
      | int k => simp [shp]
      | _ => simp [shp] at h'
    | _ => simp [shp] at h
  | .tup xs, b, c, h, h' => by
    cases b with
    | tup ys => cases c with
      | tup zs => simpa [shp] using shps_tr xs ys zs (by simpa [shp] using h) (by simpa [shp] using h')
      | _ => simp [shp] at h'
    | _ => simp [shp] at h
  | .non, b, _, h, _ => by cases b <;> simp [shp] at h
  | .bl _, b, _, h, _ => by cases b <;> simp [shp] at h
  | .str _, b, _, h, _ => by cases b <;> simp [shp] at h
  | .lst _, b, _, h, _ => by cases b <;> simp [shp] at h
  | .ref _, b, _, h, _ => by cases b <;> simp [shp] at h
theorem shps_tr : ∀ xs ys zs : List Va, shps xs ys = true → shps xs zs = true → shps ys zs = true
  | [], [], zs, _, h => h
  | [], _ :: _, _, h, _ => by simp [shps] at h
  | _ :: _, [], _, h, _ => by simp [shps] at h
  | x :: xs, y :: ys, [], _, h => by simp [shps] at h
  | x :: xs, y :: ys, z :: zs, h, h' => by
    have h1 := shps_cons h
    have h2 := shps_cons h'
    unfold shps
    rw [shp_tr x y z h1.1 h2.1]
    exact shps_tr xs ys zs h1.2 h2.2
end
mutual
theorem toD_inj : ∀ a b : Va, shp a b = true → toD a = toD b → a = b
  | .int i, b, h, e => by
    cases b with
    | int j =>
      have e' : PyData.int i = PyData.int j := by simpa [toD] using e
      cases e'
      rfl
    | _ => simp [shp] at h
  | .tup xs, b, h, e => by
    cases b with
    | tup ys =>
      have e' : toDs xs = toDs ys := by simpa [toD] using e
      rw [toDs_inj xs ys (by simpa [shp] using h) e']
    | _ => simp [shp] at h
  | .non, b, h, _ => by cases b <;> simp [shp] at h
  | .bl _, b, h, _ => by cases b <;> simp [shp] at h
  | .str _, b, h, _ => by cases b <;> simp [shp] at h
  | .lst _, b, h, _ => by cases b <;> simp [shp] at h
  | .ref _, b, h, _ => by cases b <;> simp [shp] at h
theorem toDs_inj : ∀ xs ys : List Va, shps xs ys = true → toDs xs = toDs ys → xs = ys
  | [], [], _, _ => rfl
  | [], _ :: _, h, _ => by simp [shps] at h
  | _ :: _, [], h, _ => by simp [shps] at h
  | x :: xs, y :: ys, h, e => by
    have h1 := shps_cons h
    have e' : toD x = toD y ∧ toDs xs = toDs ys := by simpa [toDs] using e
    rw [toD_inj x y h1.1 e'.1, toDs_inj xs ys h1.2 e'.2]
end
/-- what a comparison says -/
def Says (c : Option Ordering) (l g e : Bool) : Prop := match c with
  | some .lt => l = true ∧ g = false ∧ e = false
  | some .eq => l = false ∧ g = false ∧ e = true
  | some .gt => l = false ∧ g = true ∧ e = false
  | none => False
theorem eqv_swap (a b : PyData) : PyData.eqv a b = PyData.eqv b a := PySem.W.eqv_comm a b
mutual
theorem vcmp_ok : ∀ a b : Va, shp a b = true → Says (vcmp a b) (dataLt (toD a) (toD b)) (dataLt (toD b) (toD a)) (PyData.eqv (toD a) (toD b))
  | .int i, b, h => by
    cases b with
    | int j =>
      simp only [toD, dataLt_int, vcmp, PyData.eqv]
      rw [ilt_eq, ieq_eq]
      by_cases h1 : i < j
      · rw [decide_eq_true h1, decide_eq_false (show ¬ j < i by omega)]
        exact ⟨rfl, rfl, by simpa using (show i ≠ j by omega)⟩
      · by_cases h2 : i = j
        · rw [decide_eq_false h1, decide_eq_true h2, decide_eq_false (show ¬ j < i by omega)]
          exact ⟨rfl, rfl, by simpa using h2⟩
        · rw [decide_eq_false h1, decide_eq_false h2, decide_eq_true (show j < i by omega)]
          exact ⟨rfl, rfl, by simpa using h2⟩
    | _ => simp [shp] at h
  | .tup xs, b, h => by
    cases b with
    | tup ys =>
      have q := vcmps_ok xs ys (by simpa [shp] using h)
      simp only [toD, vcmp, PyData.eqv, dataLt_tuple]
      exact q
    | _ => simp [shp] at h
  | .non, b, h => by cases b <;> simp [shp] at h
  | .bl _, b, h => by cases b <;> simp [shp] at h
  | .str _, b, h => by cases b <;> simp [shp] at h
  | .lst _, b, h => by cases b <;> simp [shp] at h
  | .ref _, b, h => by cases b <;> simp [shp] at h
theorem vcmps_ok : ∀ xs ys : List Va, shps xs ys = true →
    Says (vcmps xs ys) (PyProof.Rows.lexLt itemOrd (keyToksAll (toDs xs)) (keyToksAll (toDs ys))) (PyProof.Rows.lexLt itemOrd (keyToksAll (toDs ys)) (keyToksAll (toDs xs))) (PyData.eqvAll (toDs xs) (toDs ys))
  | [], [], _ => by
    simp only [toDs, vcmps, PyData.eqvAll]
    exact ⟨lex_irrefl _, lex_irrefl _, rfl⟩
  | [], _ :: _, h => by simp [shps] at h
  | _ :: _, [], h => by simp [shps] at h
  | x :: xs, y :: ys, h => by
    have h1 := shps_cons h
    have q := vcmp_ok x y h1.1
    have q2 := vcmps_ok xs ys h1.2
    have al := shp_alike x y h1.1
    simp only [toDs, vcmps, PyData.eqvAll]
    rw [dataLt_cons al, dataLt_cons (by rw [alike_comm]; exact al), eqv_swap (toD y) (toD x)]
    cases e : vcmp x y with
    | none => rw [e] at q; exact q.elim
    | some c =>
      rw [e] at q
      cases c with
      | lt =>
        obtain ⟨a1, a2, a3⟩ := q
        rw [a3, if_neg Bool.false_ne_true, if_neg Bool.false_ne_true, a1, a2]
        exact ⟨rfl, rfl, rfl⟩
      | eq =>
        obtain ⟨a1, a2, a3⟩ := q
        rw [a3, if_pos rfl, if_pos rfl]
        exact q2
      | gt =>
        obtain ⟨a1, a2, a3⟩ := q
        rw [a3, if_neg Bool.false_ne_true, if_neg Bool.false_ne_true, a1, a2]
        exact ⟨rfl, rfl, rfl⟩
end
theorem vcmp_lt {a b : Va} (h : shp a b = true) : dataLt (toD a) (toD b) = (match vcmp a b with | some .lt => true | _ => false) := by
  have q := vcmp_ok a b h
  cases e : vcmp a b with
  | none => rw [e] at q; exact q.elim
  | some c =>
    rw [e] at q
    cases c with
    | lt => exact q.1
    | eq => exact q.1
    | gt => exact q.1
theorem shpAll_mem {x : Va} : ∀ {xs : List Va}, shpAll x xs = true → ∀ y ∈ xs, shp x y = true
  | [], _, y, m => by simp at m
  | z :: zs, h, y, m => by
    unfold shpAll at h
    cases e : shp x z with
    | false => rw [e] at h; cases h
    | true =>
      rw [e] at h
      rcases List.mem_cons.mp m with rfl | m
      · exact e
      · exact shpAll_mem h y m
theorem shpAll_two {x : Va} {xs : List Va} (h : shpAll x xs = true) {y z : Va} (hy : y ∈ xs) (hz : z ∈ xs) : shp y z = true := shp_tr x y z (shpAll_mem h y hy) (shpAll_mem h z hz)
theorem shp_dne : ∀ a b : Va, shp a b = true → toD a ≠ .none := fun a b h => by
  cases a <;> cases b <;> simp [shp, toD] at *
theorem alikeAll_of {x : Va} {xs : List Va} (h : shpAll x xs = true) : PySem.W.AlikeAll (toDs xs) := by
  rw [toDs_map]
  refine ⟨fun a ha b hb => ?_, fun a ha => ?_⟩
  · obtain ⟨y, hy, rfl⟩ := List.mem_map.mp ha
    obtain ⟨z, hz, rfl⟩ := List.mem_map.mp hb
    exact shp_alike y z (shpAll_two h hy hz)
  · obtain ⟨y, hy, rfl⟩ := List.mem_map.mp ha
    exact shp_dne y y (shpAll_two h hy hy)
theorem minV_mem : ∀ (x : Va) (xs : List Va), minV x xs ∈ x :: xs
  | x, [] => by simp [minV]
  | x, y :: ys => by
    unfold minV
    split
    · have := minV_mem y ys
      simp only [List.mem_cons] at this ⊢
      rcases this with h | h
      · first | exact Or.inl h | exact Or.inr (Or.inl h)
      · exact Or.inr (Or.inr h)
    · have := minV_mem x ys
      simp only [List.mem_cons] at this ⊢
      rcases this with h | h
      · first | exact Or.inl h | exact Or.inr (Or.inl h)
      · exact Or.inr (Or.inr h)
theorem maxV_mem : ∀ (x : Va) (xs : List Va), maxV x xs ∈ x :: xs
  | x, [] => by simp [maxV]
  | x, y :: ys => by
    unfold maxV
    split
    · have := maxV_mem y ys
      simp only [List.mem_cons] at this ⊢
      rcases this with h | h
      · first | exact Or.inl h | exact Or.inr (Or.inl h)
      · exact Or.inr (Or.inr h)
    · have := maxV_mem x ys
      simp only [List.mem_cons] at this ⊢
      rcases this with h | h
      · first | exact Or.inl h | exact Or.inr (Or.inl h)
      · exact Or.inr (Or.inr h)
theorem minV_D {z : Va} : ∀ (x : Va) (xs : List Va), shp z x = true → shpAll z xs = true → minD (toD x) (toDs xs) = toD (minV x xs)
  | x, [], _, _ => by simp [minV, toDs, minD]
  | x, y :: ys, hx, h => by
    have hy := shpAll_mem h y (by simp)
    have ht : shpAll z ys = true := by
      unfold shpAll at h
      rw [hy] at h
      exact h
    have e := vcmp_lt (shp_tr z y x hy hx)
    simp only [toDs, minD, List.foldl_cons] at *
    unfold minV
    rw [e]
    cases q : vcmp y x with
    | none => exact minV_D x ys hx ht
    | some c => cases c with
      | lt => exact minV_D y ys hy ht
      | eq => exact minV_D x ys hx ht
      | gt => exact minV_D x ys hx ht
theorem maxV_D {z : Va} : ∀ (x : Va) (xs : List Va), shp z x = true → shpAll z xs = true → maxD (toD x) (toDs xs) = toD (maxV x xs)
  | x, [], _, _ => by simp [maxV, toDs, maxD]
  | x, y :: ys, hx, h => by
    have hy := shpAll_mem h y (by simp)
    have ht : shpAll z ys = true := by
      unfold shpAll at h
      rw [hy] at h
      exact h
    have e := vcmp_lt (shp_tr z x y hx hy)
    simp only [toDs, maxD, List.foldl_cons] at *
    unfold maxV
    rw [e]
    cases q : vcmp x y with
    | none => exact maxV_D x ys hx ht
    | some c => cases c with
      | lt => exact maxV_D y ys hy ht
      | eq => exact maxV_D x ys hx ht
      | gt => exact maxV_D x ys hx ht

/-! ### sorting -/
theorem vlt_of {a b : Va} (h : shp a b = true) (e : vcmp a b = some .lt) : dataLt (toD a) (toD b) = true := by
  rw [vcmp_lt h, e]
theorem insV_perm (x : Va) : ∀ xs : List Va, (insV x xs).Perm (x :: xs)
  | [] => List.Perm.refl _
  | y :: ys => by
    unfold insV
    split
    · exact List.Perm.refl _
    · exact ((insV_perm x ys).cons y).trans (List.Perm.swap x y ys)
theorem sortV_perm : ∀ xs : List Va, (sortV xs).Perm xs
  | [] => List.Perm.refl _
  | x :: xs => (insV_perm x (sortV xs)).trans ((sortV_perm xs).cons x)
theorem ascV_pair {z : Va} : ∀ xs : List Va, shpAll z xs = true → ascV xs = true → xs.Pairwise fun a b => dataLt (toD a) (toD b) = true
  | [], _, _ => .nil
  | [x], _, _ => List.pairwise_singleton _ _
  | x :: y :: r, hs, h => by
    have hx := shpAll_mem hs x (by simp)
    have hy := shpAll_mem hs y (by simp)
    have ht : shpAll z (y :: r) = true := by
      unfold shpAll at hs
      rw [hx] at hs
      exact hs
    have h2 : vcmp x y = some .lt ∧ ascV (y :: r) = true := by
      unfold ascV at h
      split at h
      · rename_i e
        exact ⟨e, h⟩
      · cases h
    have ih := ascV_pair (y :: r) ht h2.2
    have e1 := vlt_of (shp_tr z x y hx hy) h2.1
    refine List.pairwise_cons.mpr ⟨fun c hc => ?_, ih⟩
    rcases List.mem_cons.mp hc with rfl | hc
    · exact e1
    · exact lex_trans (O := itemOrd) _ _ _ e1 ((List.pairwise_cons.mp ih).1 c hc)
theorem shpAll_perm {z : Va} {xs ys : List Va} (p : ys.Perm xs) (h : shpAll z xs = true) : shpAll z ys = true := by
  have all : ∀ l : List Va, (∀ y ∈ l, shp z y = true) → shpAll z l = true := by
    intro l
    induction l with
    | nil => intro _; rfl
    | cons a l ih =>
      intro q
      unfold shpAll
      rw [q a (by simp)]
      exact ih fun y hy => q y (by simp [hy])
  exact all ys fun y hy => shpAll_mem h y (p.mem_iff.mp hy)
/-- what is strictly ascending has no two of one rank -/
theorem rank_one {c : Va} : ∀ {m : List Va}, (m.Pairwise fun a b => dataLt (toD a) (toD b) = true) → (m.filter (sameRank (dataLe false toD) c)).length ≤ 1
  | [], _ => by simp
  | x :: m, h => by
    obtain ⟨h1, h2⟩ := List.pairwise_cons.mp h
    rw [List.filter_cons]
    split
    · rename_i hx
      have : m.filter (sameRank (dataLe false toD) c) = [] := by
        rw [List.filter_eq_nil_iff]
        intro y hy hc
        have e := h1 y hy
        unfold sameRank at hx hc
        rw [dataLe_eq] at hx hc
        simp only [cond_false, Bool.and_eq_true, Bool.not_eq_true'] at hx hc
        rcases lex_negTrans (O := itemOrd) (keyToks (toD x)) (keyToks (toD c)) (keyToks (toD y)) e with q | q
        · have q' : dataLt (toD x) (toD c) = true := q
          rw [hx.1] at q'
          cases q'
        · have q' : dataLt (toD c) (toD y) = true := q
          rw [hc.2] at q'
          cases q'
      rw [this]
      simp
    · exact rank_one h2
theorem small_perm {α : Type} {l m : List α} (p : l.Perm m) (h : l.length ≤ 1) : l = m := by
  match l, h with
  | [], _ => exact (List.nil_perm.mp p).symm
  | [a], _ => exact (List.perm_singleton.mp p.symm).symm
theorem sortV_merge {z : Va} {xs : List Va} (hs : shpAll z xs = true) (ha : ascV (sortV xs) = true) : xs.mergeSort (dataLe false toD) = sortV xs := by
  have pp := ascV_pair (sortV xs) (shpAll_perm (sortV_perm xs) hs) ha
  refine (sort_unique (sortLe_total (listOrd itemOrd) false fun b => keyToks (toD b)) (pp.imp fun {a b} e => ?_) fun c => ?_).symm
  · show (!dataLt (toD b) (toD a)) = true
    cases q : dataLt (toD b) (toD a) with
    | false => rfl
    | true =>
      have := lex_trans (O := itemOrd) _ _ _ e q
      rw [lex_irrefl] at this
      cases this
  · exact small_perm ((sortV_perm xs).filter _) (rank_one pp)
end Ev
end
section
set_option linter.all false
set_option maxRecDepth 100000
/-! EvLe: what EvFast tells, the defs compute. -/
namespace Ev
open PySem (Str)
/-- g's answers are f's -/
def Le (g f : Gm) : Prop := ∀ us h r, g us h = some r → f us h = some r
theorem itemAt_ix : ∀ (xs : List Va) (j : Nat), itemAt xs j = xs[j]?
  | [], _ => by simp [itemAt]
  | x :: xs, 0 => by simp [itemAt]
  | x :: xs, j + 1 => by simp [itemAt, itemAt_ix xs j]
theorem land_ix {xs : List Va} {i k : Int} (e : landV xs i = some k) : ∃ t : Int, ilt 0 (xs.length : Nat) = true ∧ itemI xs (i % ((xs.length : Nat) : Int)) = some (.int t) ∧ k = i + t := by
  unfold landV at e
  split at e
  · cases e
  · rename_i n hn
    split at e
    · rename_i t ht
      cases e
      refine ⟨t, ?_, ?_, rfl⟩
      · rw [ilt_eq, decide_eq_true_iff, hn]
        omega
      · rw [hn]
        have h0 : 0 ≤ i % ((n + 1 : Nat) : Int) := Int.emod_nonneg _ (by omega)
        have h1 : i % ((n + 1 : Nat) : Int) < ((n + 1 : Nat) : Int) := Int.emod_lt_of_pos _ (by omega)
        obtain ⟨m, hm⟩ := Int.eq_ofNat_of_zero_le h0
        rw [hm] at ht h1 ⊢
        have hb : Nat.blt m (n + 1) = true := by rw [Nat.blt_eq]; omega
        unfold itemI natIx
        rw [hn]
        simp only [Int.ofNat_eq_natCast]
        simpa [hb] using ht
    · cases e
theorem cut_self (h : Hv) : h.take h.length = h := List.take_length
theorem le_lands : Le g_lands_by f_lands_by := by
  intro us h r e
  unfold g_lands_by at e
  split at e
  · rename_i xs i
    split at e
    · rename_i k q
      cases e
      obtain ⟨t, h1, h2, rfl⟩ := land_ix q
      simp [f_lands_by, fn, b_lands_by, sRet, xII, xAdd, xVH, xMod, xU, gLen, xV, nth, entry, somes, gMod, h1, gIx, h2, gAdd, leave, List.replicate]
    · cases e
  · cases e
theorem le_law_lands : Le g_lands_by f__law_lands := by
  intro us h r e
  unfold g_lands_by at e
  split at e
  · rename_i xs i
    split at e
    · rename_i k q
      cases e
      obtain ⟨t, h1, h2, rfl⟩ := land_ix q
      simp [f__law_lands, fn, b__law_lands, sRet, xII, xAdd, xVH, xMod, xU, gLen, gInt, xV, nth, entry, somes, gMod, h1, gIx, h2, gAdd, leave, List.replicate]
    · cases e
  · cases e
theorem cellAt_eq' : ∀ (h : Hv) (n : Nat), cellAt h n = h[n]?
  | [], _ => by simp [cellAt]
  | _ :: _, 0 => rfl
  | _ :: r, n + 1 => by
    show cellAt r n = _
    rw [cellAt_eq' r n]
    simp
theorem setC_eq' : ∀ (h : Hv) (n : Nat) (c : Cell), setC h n c = h.set n c
  | [], _, _ => rfl
  | _ :: _, 0, _ => rfl
  | _ :: r, n + 1, c => by
    show _ :: setC r n c = _
    rw [setC_eq' r n c]
    rfl
theorem rngFrom_eq' (lo : Int) : ∀ n : Nat, rngFrom lo n = (List.range n).map fun i => Va.int (lo + (i : Nat)) := by
  intro n
  induction n generalizing lo with
  | zero => rfl
  | succ n ih =>
    rw [rngFrom, ih, List.range_succ_eq_map, List.map_cons, List.map_map]
    congr 1
    · simp
    · apply List.map_congr_left
      intro i _
      show Va.int _ = Va.int _
      congr 1
      simp
      omega
theorem rng_ok' {i j : Int} {xs : List Va} (e : rng i j = some xs) : i.natAbs < 1000000 ∧ j.natAbs < 1000000 ∧ (j - i).toNat = (j - i).toNat ∧ xs = (List.range (j - i).toNat).map fun k => Va.int (i + (k : Nat)) := by
  unfold rng at e
  split at e
  · rename_i h1 h2
    cases e
    rw [Nat.blt_eq] at h1 h2
    exact ⟨h1, h2, rfl, rngFrom_eq' _ _⟩
  · cases e
theorem short_of {α : Type} : ∀ {n : Nat} {xs : List α}, xs.length < n → short n xs = true
  | 0, _, e => absurd e (Nat.not_lt_zero _)
  | _ + 1, [], _ => rfl
  | n + 1, _ :: xs, e => by
    show short n xs = true
    exact short_of (Nat.lt_of_succ_lt_succ e)
theorem cell_last (h : Hv) (c : Cell) : cellAt (h ++ [c]) h.length = some c := by
  rw [cellAt_eq']
  simp
theorem set_last (h : Hv) (c d : Cell) : setC (h ++ [c]) h.length d = h ++ [d] := by
  rw [setC_eq']
  simp
theorem land_len {xs : List Va} {i k : Int} (e : landV xs i = some k) : ilt 0 (xs.length : Nat) = true := by
  obtain ⟨t, h1, _⟩ := land_ix e
  exact h1
theorem two_ix {xs ys : List Va} {i j a b : Int} (e : putTwo xs i j a b = some ys) : ∃ k m, natIx xs.length i = some k ∧ natIx xs.length (j % ((xs.length : Nat) : Int)) = some m ∧ ys = (xs.set k (.int a)).set m (.int b) := by
  unfold putTwo at e
  split at e
  · cases e
  · rename_i n hn
    split at e
    · rename_i k m h1 h2
      cases e
      exact ⟨k, m, by rw [hn]; exact h1, by rw [hn]; exact h2, rfl⟩
    · cases e
theorem le_swapped : Le g_swapped_by f_swapped_by := by
  intro us h r e
  unfold g_swapped_by at e
  split at e
  · rename_i xs i j
    split at e
    · rename_i a b qa qb
      have hl := land_len qa
      split at e
      · rename_i h1
        cases e
        simp [f_swapped_by, fn, b_swapped_by, sSeq, sSet, sPar, sIf, tOr, tV, sNil, sRet, xII, xCall, aCons, aNil, g_lands_by, qa, qb, gSub, gGt, gLt, xU, gLen, xC, xV, nth, entry, somes, h1, leave, List.replicate]
      · rename_i h1
        split at e
        · rename_i h2
          cases e
          simp [f_swapped_by, fn, b_swapped_by, sSeq, sSet, sPar, sIf, tOr, tV, sNil, sRet, xII, xCall, aCons, aNil, g_lands_by, qa, qb, gSub, gGt, gLt, xU, gLen, xC, xV, nth, entry, somes, h1, h2, leave, List.replicate]
        · rename_i h2
          split at e
          · rename_i ys hy
            cases e
            obtain ⟨k, m, n1, n2, rfl⟩ := two_ix hy
            simp [f_swapped_by, fn, b_swapped_by, sSeq, sSet, sPar, sIf, tOr, tV, sNil, sRet, xII, xCall, aCons, aNil, g_lands_by, qa, qb, gSub, gGt, gLt, gMod, hl, xU, gLen, xC, xV, nth, entry, somes, h1, h2, leave, List.replicate,
              xCellOf, itemsOf, sIx2, putIx, isP, cell_last, set_last, n1, n2, gTupOf]
          · cases e
    · cases e
  · cases e
theorem le_law_swapped : Le g__law_swapped f__law_swapped := by
  intro us h r e
  unfold g__law_swapped at e
  split at e
  · rename_i xs i j
    split at e
    · rename_i a b qa qb
      have hl := land_len qa
      split at e
      · rename_i ys hy
        obtain ⟨k, m, n1, n2, ey⟩ := two_ix hy
        split at e
        · rename_i lo hlo
          have hlo' : ∀ h', gMin (h' ++ [.lst ys]) (.ref h'.length) = some (.int lo) := fun h' => by
            unfold gMin at hlo ⊢
            simpa [itemsOf, cell_last] using hlo
          subst ey
          split at e
          · rename_i h1
            split at e
            · rename_i hi hhi
              have hhi' : ∀ h', gMax (h' ++ [.lst ((xs.set k (.int (a - i))).set m (.int (b - j)))]) (.ref h'.length) = some (.int hi) := fun h' => by
                unfold gMax at hhi ⊢
                simpa [itemsOf, cell_last] using hhi
              split at e
              · rename_i h2
                cases e
                simp [f__law_swapped, fn, b__law_swapped, sSeq, sSet, sPar, xIf, tAnd, tV, sRet, xII, xCall, aCons, aNil, g_lands_by, qa, qb, gSub, gGe, gLe, gMod, gInt, hl, xU, gLen, xC, xV, nth, entry, somes, h1, h2, leave, List.replicate,
                  xCellOf, itemsOf, sIx, putIx, isP, cell_last, set_last, n1, n2, gTupOf, hlo', hhi']
              · rename_i h2
                cases e
                simp [f__law_swapped, fn, b__law_swapped, sSeq, sSet, sPar, xIf, tAnd, tV, sRet, xII, xCall, aCons, aNil, g_lands_by, qa, qb, gSub, gGe, gLe, gMod, gInt, hl, xU, gLen, xC, xV, nth, entry, somes, h1, h2, leave, List.replicate,
                  xCellOf, itemsOf, sIx, putIx, isP, cell_last, set_last, n1, n2, gTupOf, hlo', hhi']
            · cases e
          · rename_i h1
            cases e
            simp [f__law_swapped, fn, b__law_swapped, sSeq, sSet, sPar, xIf, tAnd, tV, sRet, xII, xCall, aCons, aNil, g_lands_by, qa, qb, gSub, gGe, gLe, gMod, gInt, hl, xU, gLen, xC, xV, nth, entry, somes, h1, leave, List.replicate,
              xCellOf, itemsOf, sIx, putIx, isP, cell_last, set_last, n1, n2, gTupOf, hlo']
        · cases e
      · cases e
    · cases e
  · cases e
/-! ### counted -/
theorem cnt_lc {xs : List Va} {s l : Int} {h : Hv} : ∀ {ks : List Va} {c : Nat} (σ : Sv), σ = [some (.tup xs), some (.int s), some (.int l), some (.int (xs.length : Nat)), none] → cntIn xs s l ks = some c →
    ∃ ys : List Va, ys.length = c ∧ lcGo [4] (bN 4) (tV (xLt (xAdd (xV 4) (xIx (xV 0) (xMod (xAdd (xV 1) (xV 4)) (xV 3)))) (xV 2))) (xV 4) σ ks h = some (ys, h)
  | [], c, σ, es, e => by
    unfold cntIn at e
    cases e
    exact ⟨[], rfl, rfl⟩
  | k :: ks, c, σ, es, e => by
    unfold cntIn at e
    split at e
    · rename_i heq
      cases heq
    · rename_i k ks' heq
      cases heq
      split at e
      · cases e
      · rename_i n hn
        split at e
        · rename_i t ht
          split at e
          · rename_i c' hc
            obtain ⟨ys, hy1, hy2⟩ := cnt_lc (h := h) σ es hc
            have hl : landV xs (s + k) = some (s + k + t) := by
              unfold landV
              rw [hn]
              dsimp only
              rw [ht]
            obtain ⟨t', q1, q2, q3⟩ := land_ix hl
            have et : t' = t := by omega
            subst et
            have key : ∀ b, ilt (k + t') l = b → tV (xLt (xAdd (xV 4) (xIx (xV 0) (xMod (xAdd (xV 1) (xV 4)) (xV 3)))) (xV 2)) ((wip σ [4]).set 4 (some (.int k))) h = some (b, h) := fun b hb => by
              subst es
              simp [wip, tV, xII, xVH, xV, nth, gAdd, gMod, q1, gIx, q2, gLt, hb]
            cases hb : ilt (k + t') l with
            | true =>
              rw [hb] at e
              cases e
              refine ⟨.int k :: ys, by simp [hy1], ?_⟩
              unfold lcGo
              simp only [bN, key true hb]
              have : xV 4 ((wip σ [4]).set 4 (some (.int k))) h = some (.int k, h) := by
                subst es
                simp [wip, xV, nth]
              simp only [this, isP, hy2]
            | false =>
              rw [hb] at e
              cases e
              refine ⟨ys, hy1, ?_⟩
              unfold lcGo
              simp only [bN, key false hb]
              exact hy2
          · cases e
        · cases e
    · cases e
theorem rng_short {l : Int} {ks : List Va} (e : rng 0 l = some ks) : short 1000000 ks = true := by
  obtain ⟨h0, h2, _, rfl⟩ := rng_ok' e
  refine short_of ?_
  rw [List.length_map, List.length_range]
  omega
theorem le_rank : Le g_rank_in f_rank_in := by
  intro us h r e
  unfold g_rank_in at e
  split at e
  · rename_i xs s l
    split at e
    · rename_i c hc
      cases e
      unfold cntW at hc
      split at hc
      · rename_i ks hk
        obtain ⟨ys, hy1, hy2⟩ := cnt_lc (h := h) [some (.tup xs), some (.int s), some (.int l), some (.int (xs.length : Nat)), none] rfl hc
        have hs := rng_short hk
        simp [f_rank_in, fn, b_rank_in, sSeq, sSet, sRet, xII, xLC, iR1, xU, gLen, gSub, xV, nth, entry, somes, leave, List.replicate, hk, hs, hy2, hy1]
      · cases hc
    · cases e
  · cases e
theorem cnt_for {xs : List Va} {s l : Int} {h : Hv} : ∀ {ks : List Va} {c : Nat} (d : Nat) (z : Option Va), cntIn xs s l ks = some c →
    ∃ z', forGo (bN 5) (sIf (tV (xLt (xAdd (xV 5) (xIx (xV 0) (xMod (xU (xAdd (xV 1) (xV 5)) gInt) (xV 3)))) (xV 2))) (sSet 4 (xAdd (xV 4) (xC (.int 1)))) sNil) ks
      [some (.tup xs), some (.int s), some (.int l), some (.int (xs.length : Nat)), some (.int (d : Nat)), z] h = some (.nx [some (.tup xs), some (.int s), some (.int l), some (.int (xs.length : Nat)), some (.int ((d + c : Nat) : Int)), z'] h)
  | [], c, d, z, e => by
    unfold cntIn at e
    cases e
    exact ⟨z, rfl⟩
  | k :: ks, c, d, z, e => by
    unfold cntIn at e
    split at e
    · rename_i heq
      cases heq
    · rename_i k ks' heq
      cases heq
      split at e
      · cases e
      · rename_i n hn
        split at e
        · rename_i t ht
          split at e
          · rename_i c' hc
            have hl : landV xs (s + k) = some (s + k + t) := by
              unfold landV
              rw [hn]
              dsimp only
              rw [ht]
            obtain ⟨t', q1, q2, q3⟩ := land_ix hl
            have et : t' = t := by omega
            subst et
            cases hb : ilt (k + t') l with
            | true =>
              rw [hb] at e
              cases e
              obtain ⟨z', hz⟩ := cnt_for (h := h) (d + 1) (some (.int k)) hc
              refine ⟨z', ?_⟩
              unfold forGo
              have e2 : (d + 1 : Nat) + c' = d + (c' + 1) := by omega
              rw [e2] at hz
              simp [bN, sIf, tV, xII, xVH, xU, gInt, xV, nth, gAdd, gMod, q1, gIx, q2, gLt, hb, sSet, xC]
              simpa using hz
            | false =>
              rw [hb] at e
              cases e
              obtain ⟨z', hz⟩ := cnt_for (h := h) d (some (.int k)) hc
              refine ⟨z', ?_⟩
              unfold forGo
              simp [bN, sIf, tV, xII, xVH, xU, gInt, xV, nth, gAdd, gMod, q1, gIx, q2, gLt, hb, sNil]
              exact hz
          · cases e
        · cases e
    · cases e
theorem le_within : Le g__law_within f__law_within := by
  intro us h r e
  unfold g__law_within at e
  split at e
  · rename_i xs s l
    split at e
    · rename_i c hc
      cases e
      unfold cntW at hc
      split at hc
      · rename_i ks hk
        obtain ⟨z', hz⟩ := cnt_for (h := h) 0 none hc
        rw [Nat.zero_add] at hz
        simp [f__law_within, fn, b__law_within, sSeq, sPar, sFor, sRet, iR1, xU, gLen, xV, xC, nth, entry, somes, leave, List.replicate, hk]
        have hz' := hz
        simp at hz'
        rw [hz']
        simp [xV, nth]
      · cases hc
    · cases e
  · cases e
end Ev
end
section
set_option Elab.async false
set_option linter.all false
set_option maxRecDepth 100000
set_option maxHeartbeats 4000000
/-! PlA: the order part: what the defs compute, symbolically. -/
namespace EvP
open Ev
open PySem (Str)
theorem nth_0 (x : Option Va) (σ : Sv) : nth (x :: σ) 0 = x := rfl
theorem nth_s (x : Option Va) (σ : Sv) (n : Nat) : nth (x :: σ) (n + 1) = nth σ n := rfl
/-! ### patterns as values -/
def intsOf (p : List Nat) : List Va := p.map fun x => .int ((x : Nat) : Int)
def pv (p : List Nat) : Va := .tup (intsOf p)
theorem short_iff {α : Type} : ∀ {n : Nat} {xs : List α}, short n xs = decide (xs.length < n)
  | 0, xs => by simp [short]
  | n + 1, [] => by simp [short]
  | n + 1, _ :: xs => by
    unfold short
    rw [short_iff]
    simp
theorem ints_len (p : List Nat) : (intsOf p).length = p.length := by simp [intsOf]
theorem dles_ints (k : Nat) : ∀ p : List Nat, dles k (intsOf p) = true
  | [] => rfl
  | x :: p => by
    have := dles_ints k p
    unfold intsOf at this ⊢
    rw [List.map_cons]
    unfold dles
    cases k <;> simp [dle, this]
theorem dle_pv (k : Nat) (p : List Nat) : dle (k + 1) (pv p) = true := by
  unfold pv dle
  exact dles_ints k p
theorem veqs_ints : ∀ p q : List Nat, veqs (intsOf p) (intsOf q) = decide (p = q)
  | [], [] => by simp [intsOf, veqs]
  | [], y :: q => by simp [intsOf, veqs]
  | x :: p, [] => by simp [intsOf, veqs]
  | x :: p, y :: q => by
    have := veqs_ints p q
    unfold intsOf at this ⊢
    rw [List.map_cons, List.map_cons]
    unfold veqs
    simp only [veq, ieq_eq]
    by_cases h : x = y
    · subst h
      simp [this]
    · have h2 : ¬ (((x : Nat) : Int) = ((y : Nat) : Int)) := fun e => h (Int.ofNat.inj e)
      simp [h, h2]
theorem veq_pv (p q : List Nat) : veq (pv p) (pv q) = decide (p = q) := by
  unfold pv veq
  exact veqs_ints p q
theorem noLs_ints : ∀ p : List Nat, noLs (intsOf p) = true
  | [] => rfl
  | x :: p => by
    have := noLs_ints p
    unfold intsOf at this ⊢
    rw [List.map_cons]
    unfold noLs
    simp [noL, this]
theorem noL_pv (p : List Nat) : noL (pv p) = true := by
  unfold pv noL
  exact noLs_ints p
theorem eq_pv (p q : List Nat) : gEq (pv p) (pv q) = some (.bl (decide (p = q))) := by
  unfold gEq
  rw [dle_pv 7, dle_pv 7, veq_pv]
theorem ne_pv (p q : List Nat) : gNe (pv p) (pv q) = some (.bl (!decide (p = q))) := by
  unfold gNe
  rw [dle_pv 7, dle_pv 7, veq_pv]
theorem still_pv (h : Hv) (p : List Nat) (vs : List Va) : still h (pv p :: vs) = (match still h vs with | some us => some (pv p :: us) | none => none) := by
  unfold pv
  rfl
theorem isP_pv (p : List Nat) : isP (pv p) = true := rfl
theorem isTup_pv (p : List Nat) : isTy .tuple (pv p) = some true := rfl
theorem len_pv (h : Hv) (p : List Nat) : gLen h (pv p) = some (.int (p.length : Nat)) := by
  show some (Va.int (((intsOf p).length : Nat) : Int)) = _
  rw [ints_len]
theorem leave_pv (n : Nat) (p : List Nat) (h : Hv) : leave n (pv p) h = some (pv p, h.take n) := rfl
theorem isN_pv (p : List Nat) : gIsN (pv p) .non = some (.bl false) := rfl
theorem notN_pv (p : List Nat) : gNotN (pv p) .non = some (.bl true) := rfl
/-! ### ranks -/
def wn (p : List Nat) (s l : Nat) : Nat := ((List.range l).filter fun k => Nat.blt (k + p.getD ((s + k) % p.length) 0) l).length
theorem ints_at {p : List Nat} (i : Nat) (h : i < p.length) : itemAt (intsOf p) i = some (.int ((p.getD i 0 : Nat) : Int)) := by
  rw [itemAt_ix]
  unfold intsOf
  rw [List.getElem?_map, List.getElem?_eq_getElem h, List.getD_eq_getElem?_getD, List.getElem?_eq_getElem h]
  rfl
theorem cnt_wn {p : List Nat} (hp : 0 < p.length) (s l : Nat) : ∀ ks : List Nat, cntIn (intsOf p) (s : Nat) (l : Nat) (ks.map fun k => Va.int (0 + (k : Nat))) = some (ks.filter fun k => Nat.blt (k + p.getD ((s + k) % p.length) 0) l).length
  | [] => rfl
  | k :: ks => by
    rw [List.map_cons]
    unfold cntIn
    have ih := cnt_wn hp s l ks
    split
    · rename_i hn
      rw [ints_len] at hn
      omega
    · rename_i n hn
      rw [ints_len] at hn
      have e1 : (((s : Nat) : Int) + (0 + ((k : Nat) : Int))) % ((n + 1 : Nat) : Int) = (((s + k) % p.length : Nat) : Int) := by
        rw [hn, Int.zero_add, ← Int.natCast_add, ← Int.natCast_emod]
      rw [e1, Int.toNat_natCast, ints_at _ (Nat.mod_lt _ hp), ih, List.filter_cons]
      have e2 : ilt (0 + ((k : Nat) : Int) + ((p.getD ((s + k) % p.length) 0 : Nat) : Int)) ((l : Nat) : Int) = Nat.blt (k + p.getD ((s + k) % p.length) 0) l := by
        rw [ilt_eq, Bool.eq_iff_iff, decide_eq_true_iff, Nat.blt_eq]
        omega
      dsimp only
      rw [e2]
      cases Nat.blt (k + p.getD ((s + k) % p.length) 0) l with
      | true => simp
      | false => simp
theorem cntW_wn {p : List Nat} (hp : 0 < p.length) (s l : Nat) (hl : l < 1000000) : cntW (intsOf p) (s : Nat) (l : Nat) = some (wn p s l) := by
  unfold cntW
  have e : rng 0 ((l : Nat) : Int) = some ((List.range l).map fun k => Va.int (0 + (k : Nat))) := by
    unfold rng
    have h1 : Nat.blt (0 : Int).natAbs 1000000 = true := by decide
    have h2 : Nat.blt ((l : Nat) : Int).natAbs 1000000 = true := by rw [Nat.blt_eq]; omega
    rw [h1, h2, rngFrom_eq']
    simp
  rw [e]
  exact cnt_wn hp s l _
theorem rank_ok {p : List Nat} (hp : 0 < p.length) (s l : Nat) (hl : l < 1000000) (h : Hv) : g_rank_in [pv p, .int (s : Nat), .int (l : Nat)] h = some (.int ((l : Nat) - (wn p s l : Nat)), h) := by
  unfold pv g_rank_in
  dsimp only
  rw [cntW_wn hp s l hl]
theorem within_ok {p : List Nat} (hp : 0 < p.length) (s l : Nat) (hl : l < 1000000) (h : Hv) : g__law_within [pv p, .int (s : Nat), .int (l : Nat)] h = some (.int (wn p s l : Nat), h) := by
  unfold pv g__law_within
  dsimp only
  rw [cntW_wn hp s l hl]
/-! ### loops that search -/
theorem search {α : Type} {i : Nat} {body : SM} {h : Hv} (f : α → Va) (r : α → Option Va) (Inv : Sv → Prop) : ∀ (xs : List α),
    (∀ x ∈ xs, ∀ σ, Inv σ → match r x with | some v => body (σ.set i (some (f x))) h = some (.rt v h) | none => ∃ σ', Inv σ' ∧ body (σ.set i (some (f x))) h = some (.nx σ' h)) →
    ∀ σ, Inv σ → match xs.findSome? r with | some v => forGo (bN i) body (xs.map f) σ h = some (.rt v h) | none => ∃ σ', Inv σ' ∧ forGo (bN i) body (xs.map f) σ h = some (.nx σ' h)
  | [], _, σ, I => ⟨σ, I, rfl⟩
  | x :: xs, hb, σ, I => by
    have h1 := hb x List.mem_cons_self σ I
    rw [List.findSome?_cons]
    cases e : r x with
    | some v =>
      rw [e] at h1
      dsimp only at h1 ⊢
      rw [List.map_cons]
      unfold forGo
      simp only [bN, h1]
    | none =>
      rw [e] at h1
      dsimp only at h1 ⊢
      obtain ⟨σ', I', e'⟩ := h1
      have ih := search f r Inv xs (fun y hy => hb y (List.mem_cons_of_mem _ hy)) σ' I'
      rw [List.map_cons]
      unfold forGo
      simp only [bN, e']
      exact ih
theorem rng_nat {n : Nat} (hn : n < 1000000) : rng 0 ((n : Nat) : Int) = some ((List.range n).map fun k => Va.int ((k : Nat) : Int)) := by
  unfold rng
  have h1 : Nat.blt (0 : Int).natAbs 1000000 = true := by decide
  have h2 : Nat.blt ((n : Nat) : Int).natAbs 1000000 = true := by rw [Nat.blt_eq]; omega
  rw [h1, h2, rngFrom_eq']
  simp
/-- the first stretch whose rank is greater in p -/
def barN (p q : List Nat) : Option (Nat × Nat) := (List.range (p.length + 1)).findSome? fun l => (List.range p.length).findSome? fun s => match Nat.blt (wn p s l) (wn q s l) with
  | true => some (s, l)
  | false => none
def barV (p q : List Nat) : Va := match barN p q with
  | some (s, l) => .tup [.int (s : Nat), .int (l : Nat)]
  | none => .non
theorem bar_ok {p q : List Nat} (hp : 0 < p.length) (hq : q.length = p.length) (hs : p.length < 1000) : f_bar_by [pv p, pv q] [] = some (barV p q, []) := by
  have key := search (i := 3) (h := []) (body := (sFor (iR1 (xV 2)) (bN 4) (sIf (tV (xGt (xCallZ g_rank_in (aCons (xV 0) (aCons (xV 4) (aCons (xV 3) aNil))) []) (xCallZ g_rank_in (aCons (xV 1) (aCons (xV 4) (aCons (xV 3) aNil))) []))) (sRet (xTup (aCons (xV 4) (aCons (xV 3) aNil)))) sNil)))
    (fun l : Nat => Va.int ((l : Nat) : Int)) (fun l => ((List.range p.length).findSome? fun s => match Nat.blt (wn p s l) (wn q s l) with | true => some (s, l) | false => none).map fun z : Nat × Nat => Va.tup [.int ((z.1 : Nat) : Int), .int ((z.2 : Nat) : Int)])
    (fun σ => ∃ a b, σ = [some (pv p), some (pv q), some (.int (p.length : Nat)), a, b]) (List.range (p.length + 1)) ?_ [some (pv p), some (pv q), some (.int (p.length : Nat)), none, none] ⟨_, _, rfl⟩
  · have e1 : f_bar_by [pv p, pv q] [] = (match forGo (bN 3) (sFor (iR1 (xV 2)) (bN 4) (sIf (tV (xGt (xCallZ g_rank_in (aCons (xV 0) (aCons (xV 4) (aCons (xV 3) aNil))) []) (xCallZ g_rank_in (aCons (xV 1) (aCons (xV 4) (aCons (xV 3) aNil))) []))) (sRet (xTup (aCons (xV 4) (aCons (xV 3) aNil)))) sNil)) ((List.range (p.length + 1)).map fun l : Nat => Va.int ((l : Nat) : Int)) [some (pv p), some (pv q), some (.int (p.length : Nat)), none, none] [] with
        | some (.nx σ h) => some (.non, h.take 0)
        | some (.rt v h) => leave 0 v h
        | none => none) := by
      have e2 : rng 0 (((p.length : Nat) : Int) + 1) = some ((List.range (p.length + 1)).map fun k => Va.int ((k : Nat) : Int)) := rng_nat (n := p.length + 1) (by omega)
      simp [f_bar_by, fn, b_bar_by, sSeq, sSet, xU, xV, nth_0, nth_s, entry, somes, len_pv, sFor, iR1, xII, xC, gAdd, sRet, List.replicate]
      rw [e2]
      dsimp only
      generalize forGo _ _ _ _ _ = z
      cases z with
      | none => rfl
      | some r =>
        cases r with
        | nx σ h => rfl
        | rt v h => rfl
    rw [e1]
    have eb : (List.range (p.length + 1)).findSome? (fun l => ((List.range p.length).findSome? fun s => match Nat.blt (wn p s l) (wn q s l) with | true => some (s, l) | false => none).map fun z : Nat × Nat => Va.tup [.int ((z.1 : Nat) : Int), .int ((z.2 : Nat) : Int)]) = (barN p q).map fun z : Nat × Nat => Va.tup [.int ((z.1 : Nat) : Int), .int ((z.2 : Nat) : Int)] := by
      unfold barN
      rw [List.map_findSome?]
      rfl
    rw [eb] at key
    unfold barV
    cases q0 : barN p q with
    | none =>
      rw [q0] at key
      obtain ⟨σ', _, e'⟩ := key
      rw [e']
      rfl
    | some z =>
      rw [q0] at key
      obtain ⟨s, l⟩ := z
      have key' : forGo _ _ _ _ _ = some (.rt _ []) := key
      rw [key']
      rfl
  · rintro l hl σ ⟨a, b, rfl⟩
    have hl' : l < 1000000 := by have := List.mem_range.mp hl; omega
    have inner := search (i := 4) (h := []) (body := (sIf (tV (xGt (xCallZ g_rank_in (aCons (xV 0) (aCons (xV 4) (aCons (xV 3) aNil))) []) (xCallZ g_rank_in (aCons (xV 1) (aCons (xV 4) (aCons (xV 3) aNil))) []))) (sRet (xTup (aCons (xV 4) (aCons (xV 3) aNil)))) sNil))
      (fun s : Nat => Va.int ((s : Nat) : Int)) (fun s => match Nat.blt (wn p s l) (wn q s l) with | true => some (Va.tup [.int ((s : Nat) : Int), .int ((l : Nat) : Int)]) | false => none)
      (fun σ => ∃ b, σ = [some (pv p), some (pv q), some (.int (p.length : Nat)), some (.int ((l : Nat) : Int)), b]) (List.range p.length) ?_ [some (pv p), some (pv q), some (.int (p.length : Nat)), some (.int ((l : Nat) : Int)), b] ⟨_, rfl⟩
    · have e3 : ((List.range p.length).findSome? fun s => match Nat.blt (wn p s l) (wn q s l) with | true => some (s, l) | false => none).map (fun z : Nat × Nat => Va.tup [.int ((z.1 : Nat) : Int), .int ((z.2 : Nat) : Int)]) = (List.range p.length).findSome? (fun s => match Nat.blt (wn p s l) (wn q s l) with | true => some (Va.tup [.int ((s : Nat) : Int), .int ((l : Nat) : Int)]) | false => none) := by
        rw [List.map_findSome?]
        congr 1
        funext s
        show Option.map _ (match Nat.blt (wn p s l) (wn q s l) with | true => some (s, l) | false => none) = _
        cases Nat.blt (wn p s l) (wn q s l) <;> rfl
      rw [e3]
      have e4 : ∀ r, forGo (bN 4) (sIf (tV (xGt (xCallZ g_rank_in (aCons (xV 0) (aCons (xV 4) (aCons (xV 3) aNil))) []) (xCallZ g_rank_in (aCons (xV 1) (aCons (xV 4) (aCons (xV 3) aNil))) []))) (sRet (xTup (aCons (xV 4) (aCons (xV 3) aNil)))) sNil) ((List.range p.length).map fun s : Nat => Va.int ((s : Nat) : Int)) [some (pv p), some (pv q), some (.int (p.length : Nat)), some (.int ((l : Nat) : Int)), b] [] = r →
          sFor (iR1 (xV 2)) (bN 4) (sIf (tV (xGt (xCallZ g_rank_in (aCons (xV 0) (aCons (xV 4) (aCons (xV 3) aNil))) []) (xCallZ g_rank_in (aCons (xV 1) (aCons (xV 4) (aCons (xV 3) aNil))) []))) (sRet (xTup (aCons (xV 4) (aCons (xV 3) aNil)))) sNil) ([some (pv p), some (pv q), some (.int (p.length : Nat)), a, b].set 3 (some (.int ((l : Nat) : Int)))) [] = r := by
        intro r hr
        simp only [sFor, iR1, xV, List.set, nth_0, nth_s, rng_nat (n := p.length) (by omega)]
        exact hr
      revert inner
      cases (List.range p.length).findSome? (fun s => match Nat.blt (wn p s l) (wn q s l) with | true => some (Va.tup [.int ((s : Nat) : Int), .int ((l : Nat) : Int)]) | false => none) with
      | some v => exact fun inner => e4 _ inner
      | none =>
        rintro ⟨σ', ⟨b', rfl⟩, e'⟩
        exact ⟨_, ⟨_, _, rfl⟩, e4 _ e'⟩
    · rintro s hs' σ ⟨b', rfl⟩
      have r1 := rank_ok hp s l hl' []
      have r2 := rank_ok (p := q) (by omega) s l hl' []
      have hg : ilt ((l : Int) - (wn q s l : Nat)) ((l : Int) - (wn p s l : Nat)) = Nat.blt (wn p s l) (wn q s l) := by
        rw [ilt_eq, Bool.eq_iff_iff, decide_eq_true_iff, Nat.blt_eq]
        omega
      have ht : tV (xGt (xCallZ g_rank_in (aCons (xV 0) (aCons (xV 4) (aCons (xV 3) aNil))) []) (xCallZ g_rank_in (aCons (xV 1) (aCons (xV 4) (aCons (xV 3) aNil))) [])) [some (pv p), some (pv q), some (.int (p.length : Nat)), some (.int ((l : Nat) : Int)), some (.int ((s : Nat) : Int))] [] = some (Nat.blt (wn p s l) (wn q s l), []) := by
        simp only [tV, xII, xCallZ, aCons, aNil, xV, nth_0, nth_s, List.append_nil, still_pv, still, r1, r2, noL, gGt, hg]
      cases hb : Nat.blt (wn p s l) (wn q s l) with
      | true =>
        rw [hb] at ht
        show sIf _ _ _ [some (pv p), some (pv q), some (.int (p.length : Nat)), some (.int ((l : Nat) : Int)), some (.int ((s : Nat) : Int))] [] = _
        simp [sIf, ht, sRet, xTup, aCons, aNil, xV, nth_0, nth_s, allP, isP, short_iff]
      | false =>
        rw [hb] at ht
        refine ⟨[some (pv p), some (pv q), some (.int (p.length : Nat)), some (.int ((l : Nat) : Int)), some (.int ((s : Nat) : Int))], ⟨_, rfl⟩, ?_⟩
        show sIf _ _ _ [some (pv p), some (pv q), some (.int (p.length : Nat)), some (.int ((l : Nat) : Int)), some (.int ((s : Nat) : Int))] [] = _
        simp only [sIf, ht, sNil]
end EvP
end
section
set_option Elab.async false
set_option linter.all false
set_option maxRecDepth 100000
set_option maxHeartbeats 4000000
/-! PlB: is_above, peers, papers, chains. -/
namespace EvP
open Ev
open PySem (Str)
def hitT (p q : List Nat) (s l : Nat) : Option Va := match Nat.blt (wn p s l) (wn q s l) with
  | true => some (.bl true)
  | false => none
def abN (p q : List Nat) : Option Va := (List.range p.length).findSome? fun s => (List.range (p.length + 1)).findSome? fun l => hitT p q s l
theorem hitT_bl {p q : List Nat} {s l : Nat} {v : Va} (e : hitT p q s l = some v) : v = .bl true := by
  unfold hitT at e
  split at e
  · cases e; rfl
  · cases e
theorem abN_bl {p q : List Nat} {v : Va} (e : abN p q = some v) : v = .bl true := by
  unfold abN at e
  obtain ⟨s, _, e1⟩ := List.exists_of_findSome?_eq_some e
  obtain ⟨l, _, e2⟩ := List.exists_of_findSome?_eq_some e1
  exact hitT_bl e2
theorem bar_none {p q : List Nat} : barN p q = none ↔ ∀ l, l < p.length + 1 → ∀ s, s < p.length → Nat.blt (wn p s l) (wn q s l) = false := by
  unfold barN
  rw [List.findSome?_eq_none_iff]
  constructor
  · intro h l hl s hs
    have h1 := h l (List.mem_range.mpr hl)
    rw [List.findSome?_eq_none_iff] at h1
    have h2 := h1 s (List.mem_range.mpr hs)
    cases e : Nat.blt (wn p s l) (wn q s l) with
    | false => rfl
    | true => rw [e] at h2; cases h2
  · intro h l hl
    rw [List.findSome?_eq_none_iff]
    intro s hs
    rw [h l (List.mem_range.mp hl) s (List.mem_range.mp hs)]
theorem bar_some {p q : List Nat} {s l : Nat} (e : barN p q = some (s, l)) : s < p.length ∧ l < p.length + 1 ∧ Nat.blt (wn p s l) (wn q s l) = true := by
  unfold barN at e
  obtain ⟨l', hl, e1⟩ := List.exists_of_findSome?_eq_some e
  obtain ⟨s', hs, e2⟩ := List.exists_of_findSome?_eq_some e1
  split at e2
  · rename_i h
    cases e2
    exact ⟨List.mem_range.mp hs, List.mem_range.mp hl, h⟩
  · cases e2
theorem ab_bar {p q : List Nat} : abN p q = none ↔ barN p q = none := by
  rw [bar_none]
  unfold abN
  rw [List.findSome?_eq_none_iff]
  constructor
  · intro h l hl s hs
    have h1 := h s (List.mem_range.mpr hs)
    rw [List.findSome?_eq_none_iff] at h1
    have h2 := h1 l (List.mem_range.mpr hl)
    unfold hitT at h2
    cases e : Nat.blt (wn p s l) (wn q s l) with
    | false => rfl
    | true => rw [e] at h2; cases h2
  · intro h s hs
    rw [List.findSome?_eq_none_iff]
    intro l hl
    unfold hitT
    rw [h l (List.mem_range.mp hl) s (List.mem_range.mp hs)]
theorem above_ok {p q : List Nat} (hp : 0 < p.length) (hq : q.length = p.length) (hs : p.length < 1000) : f__law_is_above [pv p, pv q] [] = some (.bl (barN p q).isSome, []) := by
  have key := search (i := 2) (h := []) (body := (sFor (iR1 (xAdd (xU (xV 0) gLen) (xC (.int 1)))) (bN 3) (sIf (tV (xLt (xCallZ g__law_within (aCons (xV 0) (aCons (xV 2) (aCons (xV 3) aNil))) []) (xCallZ g__law_within (aCons (xV 1) (aCons (xV 2) (aCons (xV 3) aNil))) []))) (sRet (xC (.bl true))) sNil)))
    (fun s : Nat => Va.int ((s : Nat) : Int)) (fun s => (List.range (p.length + 1)).findSome? fun l => hitT p q s l)
    (fun σ => ∃ a b, σ = [some (pv p), some (pv q), a, b]) (List.range p.length) ?_ [some (pv p), some (pv q), none, none] ⟨_, _, rfl⟩
  · have e1 : f__law_is_above [pv p, pv q] [] = (match forGo (bN 2) (sFor (iR1 (xAdd (xU (xV 0) gLen) (xC (.int 1)))) (bN 3) (sIf (tV (xLt (xCallZ g__law_within (aCons (xV 0) (aCons (xV 2) (aCons (xV 3) aNil))) []) (xCallZ g__law_within (aCons (xV 1) (aCons (xV 2) (aCons (xV 3) aNil))) []))) (sRet (xC (.bl true))) sNil)) ((List.range p.length).map fun s : Nat => Va.int ((s : Nat) : Int)) [some (pv p), some (pv q), none, none] [] with
        | some (.nx σ h) => some (.bl false, h.take 0)
        | some (.rt v h) => leave 0 v h
        | none => none) := by
      have e2 := rng_nat (n := p.length) (by omega)
      simp [f__law_is_above, fn, b__law_is_above, sSeq, xU, xV, nth_0, nth_s, entry, somes, len_pv, sFor, iR1, xC, sRet, List.replicate]
      rw [e2]
      dsimp only
      generalize forGo _ _ _ _ _ = z
      cases z with
      | none => rfl
      | some r =>
        cases r with
        | nx σ h => rfl
        | rt v h => rfl
    rw [e1]
    have ek : (List.range p.length).findSome? (fun s => (List.range (p.length + 1)).findSome? fun l => hitT p q s l) = abN p q := rfl
    rw [ek] at key
    cases q0 : abN p q with
    | none =>
      rw [q0] at key
      obtain ⟨σ', _, e'⟩ := key
      rw [e', ab_bar.mp q0]
      rfl
    | some v =>
      have ev := abN_bl q0
      subst ev
      rw [q0] at key
      have key' : forGo _ _ _ _ _ = some (.rt _ []) := key
      rw [key']
      cases q1 : barN p q with
      | none => rw [ab_bar.mpr q1] at q0; cases q0
      | some z => rfl
  · rintro s hs' σ ⟨a, b, rfl⟩
    have hss := List.mem_range.mp hs'
    have inner := search (i := 3) (h := []) (body := (sIf (tV (xLt (xCallZ g__law_within (aCons (xV 0) (aCons (xV 2) (aCons (xV 3) aNil))) []) (xCallZ g__law_within (aCons (xV 1) (aCons (xV 2) (aCons (xV 3) aNil))) []))) (sRet (xC (.bl true))) sNil))
      (fun l : Nat => Va.int ((l : Nat) : Int)) (fun l => hitT p q s l)
      (fun σ => ∃ b, σ = [some (pv p), some (pv q), some (.int ((s : Nat) : Int)), b]) (List.range (p.length + 1)) ?_ [some (pv p), some (pv q), some (.int ((s : Nat) : Int)), b] ⟨_, rfl⟩
    · have e2 : rng 0 (((p.length : Nat) : Int) + 1) = some ((List.range (p.length + 1)).map fun k => Va.int ((k : Nat) : Int)) := rng_nat (n := p.length + 1) (by omega)
      have e4 : ∀ r, forGo (bN 3) (sIf (tV (xLt (xCallZ g__law_within (aCons (xV 0) (aCons (xV 2) (aCons (xV 3) aNil))) []) (xCallZ g__law_within (aCons (xV 1) (aCons (xV 2) (aCons (xV 3) aNil))) []))) (sRet (xC (.bl true))) sNil) ((List.range (p.length + 1)).map fun l : Nat => Va.int ((l : Nat) : Int)) [some (pv p), some (pv q), some (.int ((s : Nat) : Int)), b] [] = r →
          (sFor (iR1 (xAdd (xU (xV 0) gLen) (xC (.int 1)))) (bN 3) (sIf (tV (xLt (xCallZ g__law_within (aCons (xV 0) (aCons (xV 2) (aCons (xV 3) aNil))) []) (xCallZ g__law_within (aCons (xV 1) (aCons (xV 2) (aCons (xV 3) aNil))) []))) (sRet (xC (.bl true))) sNil)) ([some (pv p), some (pv q), a, b].set 2 (some (.int ((s : Nat) : Int)))) [] = r := by
        intro r hr
        simp only [sFor, iR1, xII, xU, xC, gAdd, xV, List.set, nth_0, nth_s, len_pv, e2]
        exact hr
      revert inner
      cases (List.range (p.length + 1)).findSome? (fun l => hitT p q s l) with
      | some v => exact fun inner => e4 _ inner
      | none =>
        rintro ⟨σ', ⟨b', rfl⟩, e'⟩
        exact ⟨_, ⟨_, _, rfl⟩, e4 _ e'⟩
    · rintro l hl σ ⟨b', rfl⟩
      have hl' : l < 1000000 := by have := List.mem_range.mp hl; omega
      have r1 := within_ok hp s l hl' []
      have r2 := within_ok (p := q) (by omega) s l hl' []
      have hg : ilt ((wn p s l : Nat) : Int) ((wn q s l : Nat) : Int) = Nat.blt (wn p s l) (wn q s l) := by
        rw [ilt_eq, Bool.eq_iff_iff, decide_eq_true_iff, Nat.blt_eq]
        omega
      have ht : tV (xLt (xCallZ g__law_within (aCons (xV 0) (aCons (xV 2) (aCons (xV 3) aNil))) []) (xCallZ g__law_within (aCons (xV 1) (aCons (xV 2) (aCons (xV 3) aNil))) [])) [some (pv p), some (pv q), some (.int ((s : Nat) : Int)), some (.int ((l : Nat) : Int))] [] = some (Nat.blt (wn p s l) (wn q s l), []) := by
        simp only [tV, xII, xCallZ, aCons, aNil, xV, nth_0, nth_s, List.append_nil, still_pv, still, r1, r2, noL, gLt, hg]
      unfold hitT
      cases hb : Nat.blt (wn p s l) (wn q s l) with
      | true =>
        rw [hb] at ht
        show sIf _ _ _ [some (pv p), some (pv q), some (.int ((s : Nat) : Int)), some (.int ((l : Nat) : Int))] [] = _
        simp [sIf, ht, sRet, xC]
      | false =>
        rw [hb] at ht
        refine ⟨[some (pv p), some (pv q), some (.int ((s : Nat) : Int)), some (.int ((l : Nat) : Int))], ⟨_, rfl⟩, ?_⟩
        show sIf _ _ _ [some (pv p), some (pv q), some (.int ((s : Nat) : Int)), some (.int ((l : Nat) : Int))] [] = _
        simp only [sIf, ht, sNil]

/-! ### small values -/
theorem eq_int (i j : Int) : gEq (.int i) (.int j) = some (.bl (decide (i = j))) := by simp [gEq, dle, veq, ieq_eq]
theorem ne_int (i j : Int) : gNe (.int i) (.int j) = some (.bl (!decide (i = j))) := by simp [gNe, dle, veq, ieq_eq]
theorem eq_bl (i j : Bool) : gEq (.bl i) (.bl j) = some (.bl (i == j)) := by simp [gEq, dle, veq]
theorem ne_bl (i j : Bool) : gNe (.bl i) (.bl j) = some (.bl (!(i == j))) := by simp [gNe, dle, veq]
/-! ### peers -/
/-- a pattern of n places and b balls -/
structure Pk (n b : Nat) (p : List Nat) : Prop where
  len : p.length = n
  pos : 0 < n
  few : n < 1000
  pat : f_is_pattern_by [pv p] [] = some (.bl true, [])
  bal : f_balls_by [pv p] [] = some (.int (b : Nat), [])
section
variable {n b : Nat} {p q : List Nat}
theorem want_true (s : Str) : f_want [.bl true, .str s, .int (-1)] [] = some (.non, []) := rfl
theorem peer_ok (P : Pk n b p) (Q : Pk n b q) : f_is_peer [pv p, pv q] [] = some (.bl true, []) := by
  simp [f_is_peer, b_is_peer, fn, sSeq, sSet, sPar, sIf, sRet, sNil, sExpr, tV, tAnd, tOr, tNot, xAnd, xOr, xNot, xIf, xII, xVV, xVH, xU, xC, xV, xTup, xLst, aCons, aNil, xCall, xCallZ, still, noL, noLs, nth_0, nth_s, entry, somes, List.replicate, leave, still_pv, len_pv, P.pat, Q.pat, P.bal, Q.bal, P.len, Q.len, eq_int]
theorem want_peer_ok (P : Pk n b p) (Q : Pk n b q) (s : Str) : f_want_peer [pv p, pv q, .str s] [] = some (.non, []) := by
  simp [f_want_peer, b_want_peer, fn, sSeq, sSet, sPar, sIf, sRet, sNil, sExpr, tV, tAnd, tOr, tNot, xAnd, xOr, xNot, xIf, xII, xVV, xVH, xU, xC, xV, xTup, xLst, aCons, aNil, xCall, xCallZ, still, noL, noLs, nth_0, nth_s, entry, somes, List.replicate, leave, still_pv, peer_ok P Q, want_true]
theorem bar_pk (P : Pk n b p) (Q : Pk n b q) : f_bar_by [pv p, pv q] [] = some (barV p q, []) := bar_ok (by rw [P.len]; exact P.pos) (by rw [P.len, Q.len]) (by rw [P.len]; exact P.few)
theorem noL_bar : noL (barV p q) = true := by
  unfold barV
  split <;> simp [noL, noLs]
theorem isN_bar : gIsN (barV p q) .non = some (.bl (barN p q).isNone) := by
  unfold barV
  cases barN p q <;> rfl
theorem leave_bar (k : Nat) (h : Hv) : leave k (barV p q) h = some (barV p q, h.take k) := by
  unfold barV
  split <;> rfl
theorem below_by_ok (P : Pk n b p) (Q : Pk n b q) : f_is_below_by [pv p, pv q] [] = some (.bl (barN p q).isNone, []) := by
  simp [f_is_below_by, b_is_below_by, fn, sSeq, sSet, sPar, sIf, sRet, sNil, sExpr, tV, tAnd, tOr, tNot, xAnd, xOr, xNot, xIf, xII, xVV, xVH, xU, xC, xV, xTup, xLst, aCons, aNil, xCall, xCallZ, still, noL, noLs, nth_0, nth_s, entry, somes, List.replicate, leave, still_pv, bar_pk P Q, noL_bar, isN_bar]
theorem lies_ok (P : Pk n b p) (Q : Pk n b q) : f_lies_below [pv p, pv q] [] = some (.bl (barN p q).isNone, []) := by
  simp [f_lies_below, b_lies_below, fn, sSeq, sSet, sPar, sIf, sRet, sNil, sExpr, tV, tAnd, tOr, tNot, xAnd, xOr, xNot, xIf, xII, xVV, xVH, xU, xC, xV, xTup, xLst, aCons, aNil, xCall, xCallZ, still, noL, noLs, nth_0, nth_s, entry, somes, List.replicate, leave, still_pv, want_peer_ok P Q, below_by_ok P Q]
theorem barring_ok (P : Pk n b p) (Q : Pk n b q) : f_barring_stretch [pv p, pv q] [] = some (barV p q, []) := by
  simp [f_barring_stretch, b_barring_stretch, fn, sSeq, sSet, sPar, sIf, sRet, sNil, sExpr, tV, tAnd, tOr, tNot, xAnd, xOr, xNot, xIf, xII, xVV, xVH, xU, xC, xV, xTup, xLst, aCons, aNil, xCall, xCallZ, still, noL, noLs, nth_0, nth_s, entry, somes, List.replicate, leave, still_pv, want_peer_ok P Q, bar_pk P Q, noL_bar]
  exact leave_bar 0 []
end
end EvP
end
section
set_option Elab.async false
set_option linter.all false
set_option maxRecDepth 100000
set_option maxHeartbeats 4000000
/-! PlC: chains, papers. -/
namespace EvP
open Ev
open PySem (Str)
def prV (c : Int × Int) : Va := .tup [.int c.1, .int c.2]
/-- one step of a chain -/
structure Step (n : Nat) (low here late : List Nat) (i j : Int) : Prop where
  next : f_next_pair [pv low, pv here] [] = some (prV (i, j), [])
  sw : g_swapped_by [pv here, .int i, .int j] [] = some (pv late, [])
  lsw : g__law_swapped [pv here, .int i, .int j] [] = some (pv late, [])
  pair : f_is_swap_pair [.int (n : Nat), prV (i, j)] [] = some (.bl true, [])
  rise : f_is_rise [pv here, prV (i, j)] [] = some (.bl true, [])
def Dp (p : List Nat) (d : Nat) : Prop := f__law_depth [pv p] [] = some (.int (d : Nat), [])
inductive Ch (n b : Nat) (low : List Nat) : List Nat → List (Int × Int) → Prop where
  | nil : Ch n b low low []
  | cons {here late : List Nat} {i j : Int} {cs : List (Int × Int)} {d : Nat} (ne : here ≠ low) (st : Step n low here late i j) (pk : Pk n b late) (d0 : Dp here d) (d1 : Dp late (d + 1)) (r : Ch n b low late cs) : Ch n b low here ((i, j) :: cs)
section
variable {n b : Nat} {low : List Nat}
theorem Dp.inj {p : List Nat} {d e : Nat} (h : Dp p d) (h' : Dp p e) : d = e := by
  unfold Dp at h h'
  rw [h] at h'
  injection h' with h'
  injection h' with h' _
  injection h' with h'
  exact Int.ofNat.inj h'
theorem Ch.depth : ∀ {here : List Nat} {cs : List (Int × Int)} {d e : Nat}, Ch n b low here cs → Dp here d → Dp low e → e = d + cs.length
  | _, _, d, e, .nil, h1, h2 => by rw [Dp.inj h1 h2]; rfl
  | _, _, d, e, .cons ne st pk d0 d1 r, h1, h2 => by
    have e1 := Dp.inj h1 d0
    subst e1
    have := Ch.depth r d1 h2
    rw [List.length_cons]
    omega
/-- the loop of chain_by -/
theorem loop_chain {other : List Nat} : ∀ {here : List Nat} {cs : List (Int × Int)} (k : Nat) (acc : List Va) (z : Option Va), Ch n b low here cs → cs.length < k → acc.length + cs.length < 1000000 →
    ∃ z', whGo (tV (xVV (xV 2) (xV 0) gNe)) (sSeq (sSet 4 (xCallZ f_next_pair (aCons (xV 0) (aCons (xV 2) aNil)) [])) (sSeq (sApp (xV 3) (xV 4)) (sSet 2 (xCallZ g_swapped_by (aCons (xV 2) (aCons (xIx (xV 4) (xC (.int 0))) (aCons (xIx (xV 4) (xC (.int 1))) aNil))) [])))) k
      [some (pv low), some (pv other), some (pv here), some (.ref 0), z] [.lst acc] = some (.nx [some (pv low), some (pv other), some (pv low), some (.ref 0), z'] [.lst (acc ++ cs.map prV)])
  | here, _, 0, _, _, _, hk, _ => absurd hk (Nat.not_lt_zero _)
  | _, _, k + 1, acc, z, .nil, _, _ => by
    refine ⟨z, ?_⟩
    unfold whGo
    simp [tV, xVV, xV, nth_0, nth_s, ne_pv]
  | here, _, k + 1, acc, z, .cons (i := i) (j := j) (cs := cs) (late := late) ne st pk d0 d1 r, hk, ha => by
    rw [List.length_cons] at hk ha
    obtain ⟨z', e⟩ := loop_chain (other := other) k (acc ++ [prV (i, j)]) (some (prV (i, j))) r (by omega) (by rw [List.length_append, List.length_singleton]; omega)
    refine ⟨z', ?_⟩
    have h1 : short 1000000 acc = true := by rw [short_iff, decide_eq_true_iff]; omega
    unfold whGo
    have hn : noL (prV (i, j)) = true := by simp [prV, noL, noLs]
    have hp : isP (prV (i, j)) = true := rfl
    have hx : ∀ h, gIx h (prV (i, j)) (.int 0) = some (.int i) := fun _ => rfl
    have hy : ∀ h, gIx h (prV (i, j)) (.int 1) = some (.int j) := fun _ => rfl
    have hst : ∀ h vs, still h (.int i :: .int j :: vs) = (match still h vs with | some us => some (.int i :: .int j :: us) | none => none) := fun h vs => by
      simp [still]
      cases still h vs <;> rfl
    simp [tV, xVV, xVH, xV, xC, nth_0, nth_s, ne_pv, ne, sSeq, sSet, sApp, xCallZ, aCons, aNil, still_pv, still, st.next, hn, hp, hx, hy, isL, cellAt, h1, setC, st.sw, noL_pv]
    simpa using e
theorem chain_ok {here : List Nat} {cs : List (Int × Int)} (c : Ch n b low here cs) (hk : cs.length < 100) : f_chain_by [pv low, pv here] [] = some (.tup (cs.map prV), []) := by
  obtain ⟨z', e⟩ := loop_chain (other := here) 100 [] none c hk (by rw [List.length_nil]; omega)
  simp [f_chain_by, fn, b_chain_by, sSeq, sPar, sWhile, sRet, xNewL, xU, xC, xV, aNil, allP, short_iff, nth_0, nth_s, entry, somes, List.replicate]
  rw [e]
  simp [xV, nth_0, nth_s, gTupOf, itemsOf, cellAt, leave]
theorem noLs_prs : ∀ cs : List (Int × Int), noLs (cs.map prV) = true
  | [] => rfl
  | c :: cs => by
    rw [List.map_cons]
    unfold noLs
    simp [prV, noL, noLs]
    have := noLs_prs cs
    simpa [prV] using this
/-- the loop of swaps_end -/
theorem loop_ends {other : List Nat} (ol : other.length = n) {ps : Va} : ∀ {here : List Nat} {cs : List (Int × Int)} (k : Nat) (a c d : Option Va), Ch n b low here cs →
    ∃ a' c' d', forGo (bT [3, 4]) (sSeq (sExpr (xCallZ f_stop_unless (aCons (xCallZ f_is_swap_pair (aCons (xU (xV 0) gLen) (aCons (xV 4) aNil)) []) (aCons (xC (.str ⟨#[112, 97, 105, 114]⟩)) (aCons (xV 3) aNil))) [])) (sSeq (sSet 5 (xCallZ g_swapped_by (aCons (xV 2) (aCons (xIx (xV 4) (xC (.int 0))) (aCons (xIx (xV 4) (xC (.int 1))) aNil))) [])) (sSeq (sExpr (xCallZ f_stop_unless (aCons (xAnd (xVV (xV 5) (xC (.non)) gNotN) (xCallZ f_is_rise (aCons (xV 2) (aCons (xV 4) aNil)) [])) (aCons (xC (.str ⟨#[115, 119, 97, 112]⟩)) (aCons (xV 3) aNil))) [])) (sSet 2 (xV 5)))))
      (numb k (cs.map prV)) [some (pv other), some ps, some (pv here), a, c, d] [] = some (.nx [some (pv other), some ps, some (pv low), a', c', d'] [])
  | _, _, k, a, c, d, .nil => ⟨a, c, d, rfl⟩
  | here, _, k, a, c, d, .cons (i := i) (j := j) (cs := cs) (late := late) ne st pk d0 d1 r => by
    obtain ⟨a', c', d', e⟩ := loop_ends ol (ps := ps) (k + 1) (some (.int (k : Nat))) (some (prV (i, j))) (some (pv late)) r
    refine ⟨a', c', d', ?_⟩
    rw [List.map_cons]
    unfold numb forGo
    have hs : ∀ h (x y : Va), still h [x, y] = still h [x, y] := fun _ _ _ => rfl
    have hx : ∀ h, gIx h (prV (i, j)) (.int 0) = some (.int i) := fun _ => rfl
    have hy : ∀ h, gIx h (prV (i, j)) (.int 1) = some (.int j) := fun _ => rfl
    have ht : ∀ s, f_stop_unless [.bl true, .str s, .int (k : Nat)] [] = some (.non, []) := fun _ => rfl
    have hz : ∀ h vs, still h (prV (i, j) :: vs) = (match still h vs with | some us => some (prV (i, j) :: us) | none => none) := fun h vs => rfl
    have hp := st.pair
    rw [← ol] at hp
    simp [bT, bNs, fn, sSeq, sSet, sPar, sIf, sRet, sNil, sExpr, tV, tAnd, tOr, tNot, xAnd, xOr, xNot, xIf, xII, xVV, xVH, xU, xC, xV, xTup, xLst, aCons, aNil, xCall, xCallZ, still, noL, noLs, nth_0, nth_s, entry, somes, List.replicate, leave, still_pv, hz, len_pv, hp, ht, hx, hy, st.sw, st.rise, noL_pv, notN_pv]
    exact e
theorem ends_ok {here : List Nat} {cs : List (Int × Int)} (hl : here.length = n) (c : Ch n b low here cs) : f_swaps_end [pv here, .tup (cs.map prV)] [] = some (pv low, []) := by
  obtain ⟨a', c', d', e⟩ := loop_ends (other := here) (ps := .tup (cs.map prV)) hl 0 none none none c
  simp [f_swaps_end, fn, b_swaps_end, sSeq, sSet, sFor, sRet, iEnum, xV, nth_0, nth_s, entry, somes, List.replicate]
  rw [e]
  simp [xV, nth_0, nth_s, leave_pv]
end
end EvP
end
section
set_option Elab.async false
set_option linter.all false
set_option maxRecDepth 100000
set_option maxHeartbeats 4000000
/-! PlD: papers, order_right. -/
namespace EvP
open Ev
open PySem (Str)
abbrev sSwaps : Str := ⟨#[115, 119, 97, 112, 115]⟩
abbrev sStretch : Str := ⟨#[115, 116, 114, 101, 116, 99, 104]⟩
section
variable {n b : Nat} {p q : List Nat}
theorem paper_swaps (P : Pk n b p) (Q : Pk n b q) (hb : barN p q = none) {cs : List (Int × Int)} (c : Ch n b p q cs) (hk : cs.length < 100) : f_order_paper [pv p, pv q] [] = some (.tup [.str sSwaps, .tup (cs.map prV)], []) := by
  have e : barV p q = .non := by unfold barV; rw [hb]
  simp [f_order_paper, b_order_paper, fn, sSeq, sSet, sPar, sIf, sRet, sNil, sExpr, tV, tAnd, tOr, tNot, xAnd, xOr, xNot, xIf, xII, xVV, xVH, xU, xC, xV, xTup, xLst, aCons, aNil, xCall, xCallZ, still, noL, noLs, nth_0, nth_s, entry, somes, List.replicate, leave, still_pv, want_peer_ok P Q, bar_pk P Q, e, gIsN, isNon, chain_ok c hk, noLs_prs, allP, isP, short_iff]
theorem paper_stretch (P : Pk n b p) (Q : Pk n b q) {s l : Nat} (hb : barN p q = some (s, l)) : f_order_paper [pv p, pv q] [] = some (.tup [.str sStretch, .tup [.int (s : Nat), .int (l : Nat)]], []) := by
  have e : barV p q = .tup [.int (s : Nat), .int (l : Nat)] := by unfold barV; rw [hb]
  simp [f_order_paper, b_order_paper, fn, sSeq, sSet, sPar, sIf, sRet, sNil, sExpr, tV, tAnd, tOr, tNot, xAnd, xOr, xNot, xIf, xII, xVV, xVH, xU, xC, xV, xTup, xLst, aCons, aNil, xCall, xCallZ, still, noL, noLs, nth_0, nth_s, entry, somes, List.replicate, leave, still_pv, want_peer_ok P Q, bar_pk P Q, e, gIsN, isNon, allP, isP, short_iff]
theorem headed_1 (x : Va) : f_is_headed [.tup [.str sSwaps, x], .str sSwaps] [] = some (.bl true, []) := rfl
theorem headed_2 (x : Va) : f_is_headed [.tup [.str sStretch, x], .str sSwaps] [] = some (.bl false, []) := rfl
theorem headed_3 (x : Va) : f_is_headed [.tup [.str sStretch, x], .str sStretch] [] = some (.bl true, []) := rfl
theorem stop_true (s : Str) : f_stop_unless [.bl true, .str s, .int (-1)] [] = some (.non, []) := rfl
theorem lets_swaps (P : Pk n b p) (Q : Pk n b q) {cs : List (Int × Int)} (c : Ch n b p q cs) : f_lets_below [pv p, pv q, .tup [.str sSwaps, .tup (cs.map prV)]] [] = some (.bl true, []) := by
  have h1 : ∀ h, gIx h (.tup [.str sSwaps, .tup (cs.map prV)]) (.int 1) = some (.tup (cs.map prV)) := fun _ => rfl
  have h2 : ∀ h, gIsi .tuple h (.tup (cs.map prV)) = some (.bl true) := fun _ => rfl
  simp [f_lets_below, b_lets_below, fn, sSeq, sSet, sPar, sIf, sRet, sNil, sExpr, tV, tAnd, tOr, tNot, xAnd, xOr, xNot, xIf, xII, xVV, xVH, xU, xC, xV, xTup, xLst, aCons, aNil, xCall, xCallZ, still, noL, noLs, nth_0, nth_s, entry, somes, List.replicate, leave, still_pv, want_peer_ok P Q, headed_1, h1, h2, ends_ok Q.len c, eq_pv, noL_pv, stop_true]
theorem stretch_true {s l : Nat} (hs : s < n) (hl : l < n + 1) : f_is_stretch [.int (n : Nat), .tup [.int (s : Nat), .int (l : Nat)]] [] = some (.bl true, []) := by
  have hi : ∀ (i : Int) (h : Hv), f_is_integer [.int i] h = some (.bl true, h) := fun i h => by
    simp [f_is_integer, b_is_integer, fn, sSeq, sSet, sPar, sIf, sRet, sNil, sExpr, tV, tAnd, tOr, tNot, xAnd, xOr, xNot, xIf, xII, xVV, xVH, xU, xC, xV, xTup, xLst, aCons, aNil, xCall, xCallZ, still, noL, noLs, nth_0, nth_s, entry, somes, List.replicate, leave, gIsi, isTy]
  have hn : ∀ (i : Nat) (h : Hv), f_is_number [.int ((i : Nat) : Int)] h = some (.bl true, h) := fun i h => by
    simp [f_is_number, b_is_number, fn, sSeq, sSet, sPar, sIf, sRet, sNil, sExpr, tV, tAnd, tOr, tNot, xAnd, xOr, xNot, xIf, xII, xVV, xVH, xU, xC, xV, xTup, xLst, aCons, aNil, xCall, xCallZ, still, noL, noLs, nth_0, nth_s, entry, somes, List.replicate, leave, hi, gGe, ile_eq]
  have hz : ∀ (h : Hv), f_is_size [.int ((n : Nat) : Int)] h = some (.bl true, h) := fun h => by
    have : (1 : Int) ≤ ((n : Nat) : Int) := by omega
    simp [f_is_size, b_is_size, fn, sSeq, sSet, sPar, sIf, sRet, sNil, sExpr, tV, tAnd, tOr, tNot, xAnd, xOr, xNot, xIf, xII, xVV, xVH, xU, xC, xV, xTup, xLst, aCons, aNil, xCall, xCallZ, still, noL, noLs, nth_0, nth_s, entry, somes, List.replicate, leave, hi, gGe, ile_eq, this]
  have hx : ∀ (h : Hv), f_is_index [.int ((s : Nat) : Int), .int ((n : Nat) : Int)] h = some (.bl true, h) := fun h => by
    have : ((s : Nat) : Int) < ((n : Nat) : Int) := by omega
    simp [f_is_index, b_is_index, fn, sSeq, sSet, sPar, sIf, sRet, sNil, sExpr, tV, tAnd, tOr, tNot, xAnd, xOr, xNot, xIf, xII, xVV, xVH, xU, xC, xV, xTup, xLst, aCons, aNil, xCall, xCallZ, still, noL, noLs, nth_0, nth_s, entry, somes, List.replicate, leave, hn, gLt, ilt_eq, this, hs]
  have ht : ∀ (h : Hv), f_is_tuple_of [.tup [.int (s : Nat), .int (l : Nat)], .int 2] h = some (.bl true, h) := fun h => by
    simp [f_is_tuple_of, b_is_tuple_of, fn, sSeq, sSet, sPar, sIf, sRet, sNil, sExpr, tV, tAnd, tOr, tNot, xAnd, xOr, xNot, xIf, xII, xVV, xVH, xU, xC, xV, xTup, xLst, aCons, aNil, xCall, xCallZ, still, noL, noLs, nth_0, nth_s, entry, somes, List.replicate, leave, gIsi, isTy, gLen, eq_int]
  have h0 : ∀ h, gIx h (.tup [.int (s : Nat), .int (l : Nat)]) (.int 0) = some (.int (s : Nat)) := fun _ => rfl
  have h1 : ∀ h, gIx h (.tup [.int (s : Nat), .int (l : Nat)]) (.int 1) = some (.int (l : Nat)) := fun _ => rfl
  have hle : ((l : Nat) : Int) ≤ ((n : Nat) : Int) := by omega
  have hle' : l ≤ n := by omega
  simp [f_is_stretch, b_is_stretch, fn, sSeq, sSet, sPar, sIf, sRet, sNil, sExpr, tV, tAnd, tOr, tNot, xAnd, xOr, xNot, xIf, xII, xVV, xVH, xU, xC, xV, xTup, xLst, aCons, aNil, xCall, xCallZ, still, noL, noLs, nth_0, nth_s, entry, somes, List.replicate, leave, hz, ht, hx, hn, h0, h1, gLe, ile_eq, hle, hle']
theorem lets_stretch (P : Pk n b p) (Q : Pk n b q) {s l : Nat} (hb : barN p q = some (s, l)) : f_lets_below [pv p, pv q, .tup [.str sStretch, .tup [.int (s : Nat), .int (l : Nat)]]] [] = some (.bl false, []) := by
  obtain ⟨hs, hl, hw⟩ := bar_some hb
  have fw := P.few
  rw [P.len] at hs hl
  have hp : 0 < p.length := by rw [P.len]; exact P.pos
  have hq : 0 < q.length := by rw [Q.len]; exact P.pos
  have h1 : ∀ h, gIx h (.tup [.str sStretch, .tup [.int (s : Nat), .int (l : Nat)]]) (.int 1) = some (.tup [.int (s : Nat), .int (l : Nat)]) := fun _ => rfl
  have i0 : ∀ h, gIx h (.tup [.int (s : Nat), .int (l : Nat)]) (.int 0) = some (.int (s : Nat)) := fun _ => rfl
  have i1 : ∀ h, gIx h (.tup [.int (s : Nat), .int (l : Nat)]) (.int 1) = some (.int (l : Nat)) := fun _ => rfl
  have hg : ilt ((l : Int) - (wn q s l : Nat)) ((l : Int) - (wn p s l : Nat)) = true := by
    rw [ilt_eq, decide_eq_true_iff]
    rw [Nat.blt_eq] at hw
    omega
  have st := stretch_true (n := n) hs hl
  rw [← P.len] at st
  have r1 := rank_ok hp s l (by omega) []
  have r2 := rank_ok hq s l (by omega) []
  simp [f_lets_below, b_lets_below, fn, sSeq, sSet, sPar, sIf, sRet, sNil, sExpr, tV, tAnd, tOr, tNot, xAnd, xOr, xNot, xIf, xII, xVV, xVH, xU, xC, xV, xTup, xLst, aCons, aNil, xCall, xCallZ, still, noL, noLs, nth_0, nth_s, entry, somes, List.replicate, leave, still_pv, want_peer_ok P Q, headed_2, headed_3, h1, i0, i1, stop_true, len_pv, st, r1, r2, gGt, hg]
theorem chain_to_ok (P : Pk n b p) (Q : Pk n b q) (hb : barN p q = none) {cs : List (Int × Int)} (c : Ch n b p q cs) (hk : cs.length < 100) : f_chain_to [pv p, pv q] [] = some (.tup (cs.map prV), []) := by
  simp [f_chain_to, b_chain_to, fn, sSeq, sSet, sPar, sIf, sRet, sNil, sExpr, tV, tAnd, tOr, tNot, xAnd, xOr, xNot, xIf, xII, xVV, xVH, xU, xC, xV, xTup, xLst, aCons, aNil, xCall, xCallZ, still, noL, noLs, nth_0, nth_s, entry, somes, List.replicate, leave, still_pv, want_peer_ok P Q, below_by_ok P Q, hb, chain_ok c hk, noLs_prs]
theorem chain_to_no (P : Pk n b p) (Q : Pk n b q) {z : Nat × Nat} (hb : barN p q = some z) : f_chain_to [pv p, pv q] [] = some (.non, []) := by
  simp [f_chain_to, b_chain_to, fn, sSeq, sSet, sPar, sIf, sRet, sNil, sExpr, tV, tAnd, tOr, tNot, xAnd, xOr, xNot, xIf, xII, xVV, xVH, xU, xC, xV, xTup, xLst, aCons, aNil, xCall, xCallZ, still, noL, noLs, nth_0, nth_s, entry, somes, List.replicate, leave, still_pv, want_peer_ok P Q, below_by_ok P Q, hb]
/-- the loop of order_right -/
theorem loop_right {low other : List Nat} {x y : Va} : ∀ {here : List Nat} {cs : List (Int × Int)} {d : Nat} (a c : Option Va), Ch n b low here cs → Dp here d →
    ∃ a' c' d', forGo (bT [6, 7]) (sSeq (sSet 4 (xCallZ g__law_swapped (aCons (xV 4) (aCons (xV 6) (aCons (xV 7) aNil))) [])) (sSeq (sIf (tOr (tV (xVV (xV 4) (xC (.non)) gIsN)) (tV (xVV (xCallZ f__law_depth (aCons (xV 4) aNil) []) (xAdd (xV 5) (xC (.int 1))) gNe))) (sRet (xC (.bl false))) sNil) (sSet 5 (xAdd (xV 5) (xC (.int 1))))))
      (cs.map prV) [some (pv low), some (pv other), some x, some y, some (pv here), some (.int (d : Nat)), a, c] [] = some (.nx [some (pv low), some (pv other), some x, some y, some (pv low), d', a', c'] [])
  | _, _, d, a, c, .nil, _ => ⟨a, c, some (.int (d : Nat)), rfl⟩
  | here, _, d, a, c, .cons (i := i) (j := j) (cs := cs) (late := late) ne st pk d0 d1 r, h1 => by
    have e1 := Dp.inj h1 d0
    subst e1
    obtain ⟨a', c', d', e⟩ := loop_right (low := low) (other := other) (x := x) (y := y) (some (.int i)) (some (.int j)) r d1
    refine ⟨a', c', d', ?_⟩
    rw [List.map_cons]
    unfold forGo prV
    have d1' : f__law_depth [pv late] [] = some (.int (((d : Nat) : Int) + 1), []) := d1
    simp [bT, bNs, fn, sSeq, sSet, sPar, sIf, sRet, sNil, sExpr, tV, tAnd, tOr, tNot, xAnd, xOr, xNot, xIf, xII, xVV, xVH, xU, xC, xV, xTup, xLst, aCons, aNil, xCall, xCallZ, still, noL, noLs, nth_0, nth_s, entry, somes, List.replicate, leave, still_pv, st.lsw, noL_pv, isN_pv, d1', gAdd, ne_int]
    exact e
theorem order_right_ok (P : Pk n b p) (Q : Pk n b q) {d e : Nat} (hd : Dp q d) (he : Dp p e) (hc : barN p q = none → ∃ cs, Ch n b p q cs ∧ cs.length < 100) : f__law_order_right [pv p, pv q] [] = some (.bl true, []) := by
  have ab := above_ok (p := p) (q := q) (by rw [P.len]; exact P.pos) (by rw [P.len, Q.len]) (by rw [P.len]; exact P.few)
  have he' : f__law_depth [pv p] [] = some (.int (e : Nat), []) := he
  have hd' : f__law_depth [pv q] [] = some (.int (d : Nat), []) := hd
  cases hb : barN p q with
  | some z =>
    obtain ⟨s, l⟩ := z
    rw [hb] at ab
    have bv : gIsN (barV p q) .non = some (.bl false) := by rw [isN_bar, hb]; rfl
    have isN_non : gIsN .non .non = some (.bl true) := rfl
    have hsp : ∀ h x vs, still h (.tup [.str sStretch, x] :: vs) = (match still h vs with | some us => some (.tup [.str sStretch, x] :: us) | none => none) := fun _ _ _ => rfl
    simp [f__law_order_right, b__law_order_right, fn, sSeq, sSet, sPar, sIf, sRet, sNil, sExpr, tV, tAnd, tOr, tNot, xAnd, xOr, xNot, xIf, xII, xVV, xVH, xU, xC, xV, xTup, xLst, aCons, aNil, xCall, xCallZ, still, noL, noLs, nth_0, nth_s, entry, somes, List.replicate, leave, still_pv, ab, lies_ok P Q, hb, barring_ok P Q, noL_bar, bv, ne_bl, paper_stretch P Q hb, lets_stretch P Q hb, chain_to_no P Q hb, isN_non, hsp]
  | none =>
    obtain ⟨cs, c, hk⟩ := hc hb
    rw [hb] at ab
    have bv : gIsN (barV p q) .non = some (.bl true) := by rw [isN_bar, hb]; rfl
    have hlen := c.depth hd he
    have hsub : ((e : Nat) : Int) - ((d : Nat) : Int) = (((cs.map prV).length : Nat) : Int) := by rw [List.length_map]; omega
    obtain ⟨a', c', d', el⟩ := loop_right (low := p) (other := q) (x := .bl true) (y := .tup (cs.map prV)) none none c hd
    have hln : ∀ h, gLen h (.tup (cs.map prV)) = some (.int (((cs.map prV).length : Nat) : Int)) := fun _ => rfl
    have hst : ∀ h vs, still h (.tup [.str sSwaps, .tup (cs.map prV)] :: vs) = (match still h vs with | some us => some (.tup [.str sSwaps, .tup (cs.map prV)] :: us) | none => none) := fun _ _ => rfl
    simp only [f__law_order_right]
    simp [b__law_order_right, fn, sSeq, sSet, sPar, sIf, sRet, sNil, sExpr, tV, tAnd, tOr, tNot, xAnd, xOr, xNot, xIf, xII, xVV, xVH, xU, xC, xV, xTup, xLst, aCons, aNil, xCall, xCallZ, still, noL, noLs, nth_0, nth_s, entry, somes, List.replicate, leave, still_pv, hst, ab, lies_ok P Q, hb, barring_ok P Q, noL_bar, bv, ne_bl, paper_swaps P Q hb c hk, lets_swaps P Q c, chain_to_ok P Q hb c hk, noLs_prs, he', hd', hln, gSub, hsub, ne_int, sFor, iVal]
    rw [el]
    simp [xV, nth_0, nth_s, eq_pv]
end
end EvP
end
section
set_option Elab.async false
set_option linter.all false
set_option maxRecDepth 100000
set_option maxHeartbeats 4000000
/-! PlF: next_pair, swaps by natural numbers. -/
namespace EvP
open Ev
open PySem (Str)
theorem lc_pure {α : Type} {i : Nat} {tt : BM} {el : EM} {σ : Sv} {h : Hv} (f : α → Va) (t : α → Bool) (e : α → Va) : ∀ (xs : List α),
    (∀ x ∈ xs, tt ((wip σ [i]).set i (some (f x))) h = some (t x, h)) → (∀ x ∈ xs, t x = true → el ((wip σ [i]).set i (some (f x))) h = some (e x, h) ∧ isP (e x) = true) →
    lcGo [i] (bN i) tt el σ (xs.map f) h = some ((xs.filter t).map e, h)
  | [], _, _ => rfl
  | x :: xs, ht, he => by
    have ih := lc_pure f t e xs (fun y hy => ht y (List.mem_cons_of_mem _ hy)) fun y hy => he y (List.mem_cons_of_mem _ hy)
    have h1 := ht x List.mem_cons_self
    rw [List.map_cons]
    unfold lcGo
    simp only [bN, h1]
    cases q : t x with
    | true =>
      obtain ⟨h2, h3⟩ := he x List.mem_cons_self q
      dsimp only
      rw [h2]
      dsimp only
      rw [h3]
      dsimp only
      rw [ih, List.filter_cons, q]
      rfl
    | false =>
      dsimp only
      rw [ih, List.filter_cons, q]
      rfl
theorem ix_pv {p : List Nat} {k : Nat} (h : k < p.length) (hv : Hv) : gIx hv (pv p) (.int ((k : Nat) : Int)) = some (.int ((p.getD k 0 : Nat) : Int)) := by
  have hb : Nat.blt k (intsOf p).length = true := by rw [Nat.blt_eq, ints_len]; exact h
  have e : natIx (intsOf p).length ((k : Nat) : Int) = some k := by
    show (match Nat.blt k (intsOf p).length with | true => some k | false => none) = _
    rw [hb]
  show (match natIx (intsOf p).length ((k : Nat) : Int) with | some j => itemAt (intsOf p) j | none => none) = _
  rw [e]
  exact ints_at k h
def landN (p : List Nat) (i : Nat) : Nat := i + p.getD (i % p.length) 0
theorem landV_nat {p : List Nat} (hp : 0 < p.length) (i : Nat) : landV (intsOf p) ((i : Nat) : Int) = some (((landN p i : Nat)) : Int) := by
  unfold landV
  split
  · rename_i hn
    rw [ints_len] at hn
    omega
  · rename_i n hn
    rw [ints_len] at hn
    rw [show (n + 1 : Nat) = p.length from hn.symm, ← Int.natCast_emod, Int.toNat_natCast, ints_at _ (Nat.mod_lt _ hp)]
    unfold landN
    simp
theorem lands_nat {p : List Nat} (hp : 0 < p.length) (i : Nat) (h : Hv) : g_lands_by [pv p, .int ((i : Nat) : Int)] h = some (.int ((landN p i : Nat) : Int), h) := by
  unfold pv g_lands_by
  dsimp only
  rw [landV_nat hp]
/-- at an integer a round earlier -/
theorem lands_back {p : List Nat} (hp : 0 < p.length) (m : Nat) (h : Hv) : g_lands_by [pv p, .int (((m : Nat) : Int) - ((p.length : Nat) : Int))] h = some (.int (((landN p m : Nat) : Int) - ((p.length : Nat) : Int)), h) := by
  unfold pv g_lands_by
  dsimp only
  have e : landV (intsOf p) (((m : Nat) : Int) - ((p.length : Nat) : Int)) = some (((landN p m : Nat) : Int) - ((p.length : Nat) : Int)) := by
    unfold landV
    split
    · rename_i hn
      rw [ints_len] at hn
      omega
    · rename_i n hn
      rw [ints_len] at hn
      have e1 : (((m : Nat) : Int) - ((p.length : Nat) : Int)) % ((n + 1 : Nat) : Int) = ((m % p.length : Nat) : Int) := by
        rw [show (n + 1 : Nat) = p.length from hn.symm, Int.natCast_emod, show ((m : Nat) : Int) - ((p.length : Nat) : Int) = ((m : Nat) : Int) + ((p.length : Nat) : Int) * (-1) by omega, Int.add_mul_emod_self_left]
      rw [e1, Int.toNat_natCast, ints_at _ (Nat.mod_lt _ hp)]
      unfold landN
      simp
      omega
  rw [e]
/-! ### least and greatest -/
def prN (c : Nat × Nat) : Va := .tup [.int ((c.1 : Nat) : Int), .int ((c.2 : Nat) : Int)]
def lexB (x y : Nat × Nat) : Bool := match Nat.blt x.1 y.1 with
  | true => true
  | false => match Nat.beq x.1 y.1 with
    | true => Nat.blt x.2 y.2
    | false => false
def minP (a : Nat × Nat) : List (Nat × Nat) → Nat × Nat
  | [] => a
  | y :: ys => match lexB y a with
    | true => minP y ys
    | false => minP a ys
theorem vcmp_int (i j : Nat) : vcmp (.int ((i : Nat) : Int)) (.int ((j : Nat) : Int)) = some (match Nat.blt i j with | true => .lt | false => match Nat.beq i j with | true => .eq | false => .gt) := by
  unfold vcmp
  have e1 : ilt ((i : Nat) : Int) ((j : Nat) : Int) = Nat.blt i j := rfl
  have e2 : ieq ((i : Nat) : Int) ((j : Nat) : Int) = Nat.beq i j := rfl
  rw [e1, e2]
  cases Nat.blt i j <;> cases Nat.beq i j <;> rfl
theorem vcmp_pr (x y : Nat × Nat) : (match vcmp (prN x) (prN y) with | some .lt => true | _ => false) = lexB x y := by
  unfold prN lexB
  simp only [vcmp, vcmps, vcmp_int]
  have e1 : ∀ (i j : Nat), ilt ((i : Nat) : Int) ((j : Nat) : Int) = Nat.blt i j := fun _ _ => rfl
  have e2 : ∀ (i j : Nat), ieq ((i : Nat) : Int) ((j : Nat) : Int) = Nat.beq i j := fun _ _ => rfl
  simp only [e1, e2]
  cases Nat.blt x.1 y.1
  · cases Nat.beq x.1 y.1
    · rfl
    · cases Nat.blt x.2 y.2
      · cases Nat.beq x.2 y.2 <;> rfl
      · rfl
  · rfl
theorem minV_pr : ∀ (ys : List (Nat × Nat)) (a : Nat × Nat), minV (prN a) (ys.map prN) = prN (minP a ys)
  | [], a => rfl
  | y :: ys, a => by
    have h := vcmp_pr y a
    rw [List.map_cons]
    unfold minV minP
    cases q : lexB y a with
    | true =>
      rw [q] at h
      split at h
      · rename_i e
        first
          | exact minV_pr ys y
          | (rw [e]; exact minV_pr ys y)
      · cases h
    | false =>
      rw [q] at h
      split at h
      · cases h
      · rename_i e
        first
          | exact minV_pr ys a
          | (split
             · rename_i e'
               exact absurd e' e
             · exact minV_pr ys a)
theorem shp_prs (x : Nat × Nat) : ∀ ys : List (Nat × Nat), shpAll (prN x) (ys.map prN) = true
  | [] => rfl
  | y :: ys => by
    have := shp_prs x ys
    rw [List.map_cons]
    unfold shpAll
    simp [prN, shp, shps]
    simpa [prN] using this
theorem dles_prs (k : Nat) : ∀ ys : List (Nat × Nat), dles (k + 1) (ys.map prN) = true
  | [] => rfl
  | y :: ys => by
    have := dles_prs k ys
    rw [List.map_cons]
    unfold dles
    cases k <;> simp [prN, dle, dles] <;> simpa [prN] using this
theorem min_prs (c : Nat × Nat) (cs : List (Nat × Nat)) (h : Hv) : gMin h (.lst ((c :: cs).map prN)) = some (prN (minP c cs)) := by
  show (match shpAll (prN c) ((c :: cs).map prN), dles 7 ((c :: cs).map prN) with | true, true => some (minV (prN c) (cs.map prN)) | _, _ => none) = _
  rw [shp_prs, dles_prs 6, minV_pr]
def maxP (a : Nat) : List Nat → Nat
  | [] => a
  | y :: ys => match Nat.blt a y with
    | true => maxP y ys
    | false => maxP a ys
theorem maxV_off (z : Int) : ∀ (ys : List Nat) (a : Nat), maxV (.int (z + ((a : Nat) : Int))) (ys.map fun k => Va.int (z + ((k : Nat) : Int))) = .int (z + ((maxP a ys : Nat) : Int))
  | [], a => rfl
  | y :: ys, a => by
    rw [List.map_cons]
    unfold maxV maxP
    have e : vcmp (.int (z + ((a : Nat) : Int))) (.int (z + ((y : Nat) : Int))) = some (match Nat.blt a y with | true => .lt | false => match decide (a = y) with | true => .eq | false => .gt) := by
      unfold vcmp
      have e1 : ilt (z + ((a : Nat) : Int)) (z + ((y : Nat) : Int)) = Nat.blt a y := by rw [ilt_eq, Bool.eq_iff_iff, decide_eq_true_iff, Nat.blt_eq]; omega
      have e2 : ieq (z + ((a : Nat) : Int)) (z + ((y : Nat) : Int)) = decide (a = y) := by rw [ieq_eq, Bool.eq_iff_iff, decide_eq_true_iff, decide_eq_true_iff]; omega
      rw [e1, e2]
      cases Nat.blt a y
      · cases decide (a = y) <;> rfl
      · rfl
    rw [e]
    cases Nat.blt a y with
    | true => exact maxV_off z ys y
    | false =>
      cases decide (a = y) with
      | true => exact maxV_off z ys a
      | false => exact maxV_off z ys a
theorem shp_off (z : Int) (x : Int) : ∀ ys : List Nat, shpAll (.int x) (ys.map fun k => Va.int (z + ((k : Nat) : Int))) = true
  | [] => rfl
  | y :: ys => by
    rw [List.map_cons]
    unfold shpAll
    simp [shp]
    exact shp_off z x ys
theorem dles_off (z : Int) : ∀ ys : List Nat, dles 7 (ys.map fun k => Va.int (z + ((k : Nat) : Int))) = true
  | [] => rfl
  | y :: ys => by
    rw [List.map_cons]
    unfold dles
    simp [dle]
    exact dles_off z ys
theorem max_off (z : Int) (c : Nat) (cs : List Nat) (h : Hv) : gMax h (.lst ((c :: cs).map fun k => Va.int (z + ((k : Nat) : Int)))) = some (.int (z + ((maxP c cs : Nat) : Int))) := by
  show (match shpAll (.int (z + ((c : Nat) : Int))) ((c :: cs).map fun k => Va.int (z + ((k : Nat) : Int))), dles 7 ((c :: cs).map fun k => Va.int (z + ((k : Nat) : Int))) with | true, true => some (maxV (.int (z + ((c : Nat) : Int))) (cs.map fun k => Va.int (z + ((k : Nat) : Int)))) | _, _ => none) = _
  rw [shp_off, dles_off, maxV_off]
/-! ### next_pair -/
def mn (a b : Nat) : Nat := match Nat.blt b a with
  | true => b
  | false => a
def difs (p q : List Nat) : List Nat := (List.range p.length).filter fun k => !Nat.beq (p.getD k 0) (q.getD k 0)
def nears (p q : List Nat) (s : Nat) : List Nat := (List.range (p.length - 1)).filter fun k => match Nat.ble (landN p s + p.length) (landN q (s + 1 + k)) with
  | true => Nat.blt (landN q (s + 1 + k)) (landN q s + p.length)
  | false => false
def nextN (p q : List Nat) : Option (Nat × Nat) := match (difs p q).map fun k => (mn (p.getD k 0) (q.getD k 0), k) with
  | [] => none
  | c :: cs => match nears p q (minP c cs).2 with
    | [] => none
    | k :: ks => some (((minP c cs).2 + 1 + maxP k ks) % p.length, ((minP c cs).2 + 1 + maxP k ks) % p.length + p.length - 1 - maxP k ks)
theorem minP_mem : ∀ (ys : List (Nat × Nat)) (a : Nat × Nat), minP a ys ∈ a :: ys
  | [], a => List.mem_cons_self
  | y :: ys, a => by
    unfold minP
    cases lexB y a with
    | true => exact List.mem_cons_of_mem _ (minP_mem ys y)
    | false =>
      rcases List.mem_cons.mp (minP_mem ys a) with e | e
      · exact List.mem_cons.mpr (.inl e)
      · exact List.mem_cons_of_mem _ (List.mem_cons_of_mem _ e)
theorem maxP_mem : ∀ (ys : List Nat) (a : Nat), maxP a ys ∈ a :: ys
  | [], a => List.mem_cons_self
  | y :: ys, a => by
    unfold maxP
    cases Nat.blt a y with
    | true => exact List.mem_cons_of_mem _ (maxP_mem ys y)
    | false =>
      rcases List.mem_cons.mp (maxP_mem ys a) with e | e
      · exact List.mem_cons.mpr (.inl e)
      · exact List.mem_cons_of_mem _ (List.mem_cons_of_mem _ e)
theorem next_ok {p q : List Nat} (hp : 0 < p.length) (hq : q.length = p.length) (hs : p.length < 1000) {i j : Nat} (e : nextN p q = some (i, j)) : f_next_pair [pv p, pv q] [] = some (prN (i, j), []) := by
  have hq0 : 0 < q.length := by omega
  unfold nextN at e
  split at e
  · cases e
  · rename_i c cs ed
    split at e
    · cases e
    · rename_i k ks en
      have hin := minP_mem cs c
      rw [← ed] at hin
      obtain ⟨s, hs1, hs2⟩ := List.mem_map.mp hin
      have hsn : s < p.length := List.mem_range.mp (List.mem_filter.mp hs1).1
      rw [← hs2] at en e
      dsimp only at en e
      have hm := maxP_mem ks k
      rw [← en] at hm
      have hmn : maxP k ks < p.length - 1 := List.mem_range.mp (List.mem_filter.mp hm).1
      generalize hM : maxP k ks = M at e hmn
      injection e with e
      injection e with ei ej
      -- the first list
      have l1 : ∀ a3 a4 a5 a6 a7 a8 a9 : Option Va, lcGo [8] (bN 8) (tV (xVV (xIx (xV 0) (xV 8)) (xIx (xV 1) (xV 8)) gNe)) (xTup (aCons (xII (xIx (xV 0) (xV 8)) (xIx (xV 1) (xV 8)) gMin2) (aCons (xV 8) aNil))) [some (pv p), some (pv q), some (.int ((p.length : Nat) : Int)), a3, a4, a5, a6, a7, a8, a9]
          ((List.range p.length).map fun k => Va.int ((k : Nat) : Int)) [] = some ((c :: cs).map prN, []) := by
        intro a3 a4 a5 a6 a7 a8 a9
        have h := lc_pure (i := 8) (tt := (tV (xVV (xIx (xV 0) (xV 8)) (xIx (xV 1) (xV 8)) gNe))) (el := (xTup (aCons (xII (xIx (xV 0) (xV 8)) (xIx (xV 1) (xV 8)) gMin2) (aCons (xV 8) aNil)))) (σ := [some (pv p), some (pv q), some (.int ((p.length : Nat) : Int)), a3, a4, a5, a6, a7, a8, a9]) (h := []) (fun k : Nat => Va.int ((k : Nat) : Int)) (fun k => !Nat.beq (p.getD k 0) (q.getD k 0)) (fun k => prN (mn (p.getD k 0) (q.getD k 0), k)) (List.range p.length) (fun x hx => ?_) (fun x hx _ => ?_)
        · rw [h, ← ed, List.map_map]
          rfl
        · have hx' := List.mem_range.mp hx
          have i1 := ix_pv (p := p) hx' []
          have i2 := ix_pv (p := q) (k := x) (by omega) []
          have e3 : (decide (((p.getD x 0 : Nat) : Int) = ((q.getD x 0 : Nat) : Int))) = Nat.beq (p.getD x 0) (q.getD x 0) := by
            rw [Bool.eq_iff_iff, decide_eq_true_iff, Nat.beq_eq]
            omega
          show tV _ [some (pv p), some (pv q), some (.int ((p.length : Nat) : Int)), a3, a4, a5, a6, a7, some (.int ((x : Nat) : Int)), a9] [] = _
          simp only [tV, xVV, xVH, xV, nth_0, nth_s, i1, i2, ne_int, e3]
        · have hx' := List.mem_range.mp hx
          have i1 := ix_pv (p := p) hx' []
          have i2 := ix_pv (p := q) (k := x) (by omega) []
          have e3 : gMin2 ((p.getD x 0 : Nat) : Int) ((q.getD x 0 : Nat) : Int) = some (.int ((mn (p.getD x 0) (q.getD x 0) : Nat) : Int)) := by
            unfold gMin2 mn
            have : ilt ((q.getD x 0 : Nat) : Int) ((p.getD x 0 : Nat) : Int) = Nat.blt (q.getD x 0) (p.getD x 0) := rfl
            rw [this]
            cases Nat.blt (q.getD x 0) (p.getD x 0) <;> rfl
          refine ⟨?_, rfl⟩
          show xTup _ [some (pv p), some (pv q), some (.int ((p.length : Nat) : Int)), a3, a4, a5, a6, a7, some (.int ((x : Nat) : Int)), a9] [] = _
          generalize p.getD x 0 = u1 at i1 e3 ⊢
          generalize q.getD x 0 = u2 at i2 e3 ⊢
          generalize mn u1 u2 = u3 at e3 ⊢
          simp [xTup, xII, xVH, xV, aCons, aNil, nth_0, nth_s, i1, i2, e3, allP, isP, short_iff, prN]
      -- the second list
      have lp := lands_nat hp s []
      have lq := lands_nat hq0 s []
      have e5 : (((s : Nat) : Int) - ((p.length : Nat) : Int) + 1) = ((s + 1 : Nat) : Int) - ((p.length : Nat) : Int) := by omega
      have rg : rng (((s : Nat) : Int) - ((p.length : Nat) : Int) + 1) ((s : Nat) : Int) = some ((List.range (p.length - 1)).map fun k => Va.int ((((s + 1 : Nat) : Int) - ((p.length : Nat) : Int)) + ((k : Nat) : Int))) := by
        unfold rng
        have h1 : Nat.blt (((s : Nat) : Int) - ((p.length : Nat) : Int) + 1).natAbs 1000000 = true := by rw [Nat.blt_eq]; omega
        have h2 : Nat.blt ((s : Nat) : Int).natAbs 1000000 = true := by rw [Nat.blt_eq]; omega
        rw [h1, h2, rngFrom_eq', e5]
        have h3 : (((s : Nat) : Int) - (((s + 1 : Nat) : Int) - ((p.length : Nat) : Int))).toNat = p.length - 1 := by omega
        rw [h3]
      have l2 : ∀ a3 a7 a8 a9 : Option Va, lcGo [9] (bN 9) (tV (xChain ile ilt (xV 5) (xCallZ g_lands_by (aCons (xV 1) (aCons (xV 9) aNil)) []) (xV 6))) (xV 9) [some (pv p), some (pv q), some (.int ((p.length : Nat) : Int)), a3, some (.int ((s : Nat) : Int)), some (.int ((landN p s : Nat) : Int)), some (.int ((landN q s : Nat) : Int)), a7, a8, a9]
          ((List.range (p.length - 1)).map fun k => Va.int ((((s + 1 : Nat) : Int) - ((p.length : Nat) : Int)) + ((k : Nat) : Int))) [] = some ((k :: ks).map fun k => Va.int ((((s + 1 : Nat) : Int) - ((p.length : Nat) : Int)) + ((k : Nat) : Int)), []) := by
        intro a3 a7 a8 a9
        have h := lc_pure (i := 9) (tt := (tV (xChain ile ilt (xV 5) (xCallZ g_lands_by (aCons (xV 1) (aCons (xV 9) aNil)) []) (xV 6)))) (el := (xV 9)) (σ := [some (pv p), some (pv q), some (.int ((p.length : Nat) : Int)), a3, some (.int ((s : Nat) : Int)), some (.int ((landN p s : Nat) : Int)), some (.int ((landN q s : Nat) : Int)), a7, a8, a9]) (h := []) (fun k : Nat => Va.int ((((s + 1 : Nat) : Int) - ((p.length : Nat) : Int)) + ((k : Nat) : Int))) (fun k => match Nat.ble (landN p s + p.length) (landN q (s + 1 + k)) with | true => Nat.blt (landN q (s + 1 + k)) (landN q s + p.length) | false => false) (fun k => Va.int ((((s + 1 : Nat) : Int) - ((p.length : Nat) : Int)) + ((k : Nat) : Int))) (List.range (p.length - 1)) (fun x hx => ?_) (fun x hx _ => ⟨rfl, rfl⟩)
        · rw [h, ← en]
          rfl
        · show tV _ [some (pv p), some (pv q), some (.int ((p.length : Nat) : Int)), a3, some (.int ((s : Nat) : Int)), some (.int ((landN p s : Nat) : Int)), some (.int ((landN q s : Nat) : Int)), a7, a8, some (.int ((((s + 1 : Nat) : Int) - ((p.length : Nat) : Int)) + ((x : Nat) : Int)))] [] = _
          have lb := lands_back hq0 (s + 1 + x) []
          rw [hq] at lb
          have e6 : (((s + 1 : Nat) : Int) - ((p.length : Nat) : Int)) + ((x : Nat) : Int) = ((s + 1 + x : Nat) : Int) - ((p.length : Nat) : Int) := by omega
          rw [e6]
          have e7 : ile ((landN p s : Nat) : Int) (((landN q (s + 1 + x) : Nat) : Int) - ((p.length : Nat) : Int)) = Nat.ble (landN p s + p.length) (landN q (s + 1 + x)) := by
            rw [ile_eq, Bool.eq_iff_iff, decide_eq_true_iff]
            constructor
            · intro h; exact Nat.ble_eq_true_of_le (by omega)
            · intro h; have := Nat.le_of_ble_eq_true h; omega
          have e8 : ilt (((landN q (s + 1 + x) : Nat) : Int) - ((p.length : Nat) : Int)) ((landN q s : Nat) : Int) = Nat.blt (landN q (s + 1 + x)) (landN q s + p.length) := by
            rw [ilt_eq, Bool.eq_iff_iff, decide_eq_true_iff, Nat.blt_eq]
            omega
          simp only [tV, xChain, xCallZ, aCons, aNil, xV, nth_0, nth_s, List.append_nil, still_pv, still, lb, noL, e7, e8]
          cases Nat.ble (landN p s + p.length) (landN q (s + 1 + x)) <;> rfl
      have hmin := min_prs c cs []
      rw [← hs2] at hmin
      have hmax := max_off (((s + 1 : Nat) : Int) - ((p.length : Nat) : Int)) k ks []
      rw [hM] at hmax
      have sh1 : short 1000000 ((List.range p.length).map fun k => Va.int ((k : Nat) : Int)) = true := by rw [short_iff, decide_eq_true_iff, List.length_map, List.length_range]; omega
      have sh2 : short 1000000 ((List.range (p.length - 1)).map fun k => Va.int ((((s + 1 : Nat) : Int) - ((p.length : Nat) : Int)) + ((k : Nat) : Int))) = true := by rw [short_iff, decide_eq_true_iff, List.length_map, List.length_range]; omega
      have r0 := rng_nat (n := p.length) (by omega)
      have e9 : (((s + 1 : Nat) : Int) - ((p.length : Nat) : Int)) + ((M : Nat) : Int) = ((s + 1 + M : Nat) : Int) - ((p.length : Nat) : Int) := by omega
      rw [e9] at hmax
      have e10 : (((s + 1 + M : Nat) : Int) - ((p.length : Nat) : Int)) % ((p.length : Nat) : Int) = ((i : Nat) : Int) := by
        rw [← ei, Int.natCast_emod, show ((s + 1 + M : Nat) : Int) - ((p.length : Nat) : Int) = ((s + 1 + M : Nat) : Int) + ((p.length : Nat) : Int) * (-1) by omega, Int.add_mul_emod_self_left]
      have hi : (s + 1 + M) % p.length < p.length := Nat.mod_lt _ hp
      have e11 : ((s : Nat) : Int) + ((i : Nat) : Int) - (((s + 1 + M : Nat) : Int) - ((p.length : Nat) : Int)) = ((j : Nat) : Int) := by
        rw [← ej, ei]
        rw [ei] at hi
        omega
      have pos : ilt 0 ((p.length : Nat) : Int) = true := by rw [ilt_eq, decide_eq_true_iff]; omega
      have hix : ∀ h, gIx h (prN (mn (p.getD s 0) (q.getD s 0), s)) (.int 1) = some (.int ((s : Nat) : Int)) := fun _ => rfl
      clear hin hs1 hm
      generalize prN (mn (p.getD s 0) (q.getD s 0), s) = w1 at hmin hix
      generalize (c :: cs).map prN = A1 at l1 hmin
      generalize ((s + 1 + M : Nat) : Int) - ((p.length : Nat) : Int) = z2 at hmax e10 e11
      generalize ((s + 1 : Nat) : Int) - ((p.length : Nat) : Int) = z1 at rg l2 hmax sh2
      generalize ((List.range (p.length - 1)).map fun k => Va.int (z1 + ((k : Nat) : Int))) = B1 at rg l2 sh2
      generalize ((k :: ks).map fun k => Va.int (z1 + ((k : Nat) : Int))) = B2 at l2 hmax
      generalize ((List.range p.length).map fun k => Va.int ((k : Nat) : Int)) = A2 at l1 sh1 r0
      have sh3 : ∀ a b : Va, short 1000000 [a, b] = true := fun _ _ => rfl
      simp [f_next_pair, b_next_pair, fn, sSeq, sSet, sPar, sIf, sRet, sNil, sExpr, tV, tAnd, tOr, tNot, xAnd, xOr, xNot, xIf, xII, xVV, xVH, xU, xC, xV, xTup, xLst, aCons, aNil, xCall, xCallZ, still, noL, noLs, nth_0, nth_s, entry, somes, List.replicate, leave, sh3, xLC, iR1, iR2, len_pv, r0, sh1, l1, hmin, hix, still_pv, lp, lq, gSub, gAdd, rg, sh2, l2, hmax, gMod, pos, e10, e11, allP, isP, prN]
end EvP
end
section
set_option Elab.async false
set_option linter.all false
set_option maxRecDepth 100000
set_option maxHeartbeats 4000000
/-! PlG: swaps by natural numbers, a step of a chain. -/
namespace EvP
open Ev
open PySem (Str)
def swapN (q : List Nat) (i j : Nat) : List Nat := (q.set i (landN q j - i)).set (j % q.length) (landN q i - j)
theorem ints_set (q : List Nat) (k x : Nat) : (intsOf q).set k (.int ((x : Nat) : Int)) = intsOf (q.set k x) := by
  unfold intsOf
  rw [List.map_set]
theorem natIx_nat {n k : Nat} (h : k < n) : natIx n ((k : Nat) : Int) = some k := by
  show (match Nat.blt k n with | true => some k | false => none) = _
  rw [(Nat.blt_eq).mpr h]
theorem land_ge (q : List Nat) (i : Nat) : i ≤ landN q i := by unfold landN; omega
theorem put_nat {q : List Nat} {i j : Nat} (hi : i < q.length) (hij : i < j) (hf : j ≤ landN q i) : putTwo (intsOf q) ((i : Nat) : Int) ((j : Nat) : Int) (((landN q j : Nat) : Int) - ((i : Nat) : Int)) (((landN q i : Nat) : Int) - ((j : Nat) : Int)) = some (intsOf (swapN q i j)) := by
  unfold putTwo
  split
  · rename_i hn
    rw [ints_len] at hn
    omega
  · rename_i n hn
    rw [ints_len] at hn
    have hg := land_ge q j
    have e1 : natIx (n + 1) ((i : Nat) : Int) = some i := natIx_nat (by omega)
    have e2 : natIx (n + 1) (((j : Nat) : Int) % ((n + 1 : Nat) : Int)) = some (j % q.length) := by
      rw [← Int.natCast_emod, show (n + 1 : Nat) = q.length from hn.symm]
      exact natIx_nat (Nat.mod_lt _ (by omega))
    rw [e1, e2]
    dsimp only
    have e3 : ((landN q j : Nat) : Int) - ((i : Nat) : Int) = ((landN q j - i : Nat) : Int) := by omega
    have e4 : ((landN q i : Nat) : Int) - ((j : Nat) : Int) = ((landN q i - j : Nat) : Int) := by omega
    rw [e3, e4, ints_set, ints_set]
    rfl
theorem swapped_nat {q : List Nat} {i j : Nat} (hi : i < q.length) (hij : i < j) (hf : j ≤ landN q i) (hn : landN q j ≤ i + q.length) (h : Hv) : g_swapped_by [pv q, .int ((i : Nat) : Int), .int ((j : Nat) : Int)] h = some (pv (swapN q i j), h) := by
  have hp : 0 < q.length := by omega
  unfold pv g_swapped_by
  dsimp only
  rw [landV_nat hp, landV_nat hp]
  dsimp only
  have e1 : ilt (((intsOf q).length : Nat) : Int) (((landN q j : Nat) : Int) - ((i : Nat) : Int)) = false := by rw [ilt_eq, decide_eq_false_iff_not, ints_len]; omega
  have e2 : ilt (((landN q i : Nat) : Int) - ((j : Nat) : Int)) 0 = false := by rw [ilt_eq, decide_eq_false_iff_not]; omega
  rw [e1, e2, put_nat hi hij hf]
theorem minV_nat : ∀ (ys : List Nat) (a : Nat), ∃ m ∈ a :: ys, minV (.int ((a : Nat) : Int)) (intsOf ys) = .int ((m : Nat) : Int)
  | [], a => ⟨a, List.mem_cons_self, rfl⟩
  | y :: ys, a => by
    unfold intsOf
    rw [List.map_cons]
    unfold minV
    rw [vcmp_int]
    cases Nat.blt y a with
    | true =>
      obtain ⟨m, hm, e⟩ := minV_nat ys y
      exact ⟨m, List.mem_cons_of_mem _ hm, e⟩
    | false =>
      obtain ⟨m, hm, e⟩ := minV_nat ys a
      refine ⟨m, ?_, ?_⟩
      · rcases List.mem_cons.mp hm with q | q
        · exact List.mem_cons.mpr (.inl q)
        · exact List.mem_cons_of_mem _ (List.mem_cons_of_mem _ q)
      · cases Nat.beq y a <;> exact e
theorem maxV_nat : ∀ (ys : List Nat) (a : Nat), ∃ m ∈ a :: ys, maxV (.int ((a : Nat) : Int)) (intsOf ys) = .int ((m : Nat) : Int)
  | [], a => ⟨a, List.mem_cons_self, rfl⟩
  | y :: ys, a => by
    unfold intsOf
    rw [List.map_cons]
    unfold maxV
    rw [vcmp_int]
    cases Nat.blt a y with
    | true =>
      obtain ⟨m, hm, e⟩ := maxV_nat ys y
      exact ⟨m, List.mem_cons_of_mem _ hm, e⟩
    | false =>
      obtain ⟨m, hm, e⟩ := maxV_nat ys a
      refine ⟨m, ?_, ?_⟩
      · rcases List.mem_cons.mp hm with q | q
        · exact List.mem_cons.mpr (.inl q)
        · exact List.mem_cons_of_mem _ (List.mem_cons_of_mem _ q)
      · cases Nat.beq a y <;> exact e
theorem shp_ints (x : Int) : ∀ ys : List Nat, shpAll (.int x) (intsOf ys) = true
  | [] => rfl
  | y :: ys => by
    have := shp_ints x ys
    unfold intsOf at this ⊢
    rw [List.map_cons]
    unfold shpAll
    simp [shp, this]
theorem min_ints {w : List Nat} (hw : 0 < w.length) (h : Hv) : ∃ m ∈ w, gMin h (.lst (intsOf w)) = some (.int ((m : Nat) : Int)) := by
  cases w with
  | nil => simp at hw
  | cons a ys =>
    obtain ⟨m, hm, e⟩ := minV_nat ys a
    refine ⟨m, hm, ?_⟩
    show (match shpAll (.int ((a : Nat) : Int)) (intsOf (a :: ys)), dles 7 (intsOf (a :: ys)) with | true, true => some (minV (.int ((a : Nat) : Int)) (intsOf ys)) | _, _ => none) = _
    rw [shp_ints, dles_ints, e]
theorem max_ints {w : List Nat} (hw : 0 < w.length) (h : Hv) : ∃ m ∈ w, gMax h (.lst (intsOf w)) = some (.int ((m : Nat) : Int)) := by
  cases w with
  | nil => simp at hw
  | cons a ys =>
    obtain ⟨m, hm, e⟩ := maxV_nat ys a
    refine ⟨m, hm, ?_⟩
    show (match shpAll (.int ((a : Nat) : Int)) (intsOf (a :: ys)), dles 7 (intsOf (a :: ys)) with | true, true => some (maxV (.int ((a : Nat) : Int)) (intsOf ys)) | _, _ => none) = _
    rw [shp_ints, dles_ints, e]
theorem swapN_len (q : List Nat) (i j : Nat) : (swapN q i j).length = q.length := by simp [swapN]
theorem mem_set2 {q : List Nat} {i x y : Nat} (h : y ∈ q.set i x) : y = x ∨ y ∈ q := by
  rcases List.mem_or_eq_of_mem_set h with h | h
  · exact .inr h
  · exact .inl h
theorem swapN_le {q : List Nat} {i j : Nat} (hq : ∀ x ∈ q, x ≤ q.length) (hij : i < j) (hn : landN q j ≤ i + q.length) : ∀ x ∈ swapN q i j, x ≤ q.length := by
  intro x hx
  unfold swapN at hx
  have hl : landN q i ≤ i + q.length := by
    unfold landN
    by_cases hlt : i % q.length < q.length
    · have := hq _ (List.getElem_mem hlt)
      rw [List.getD_eq_getElem?_getD, List.getElem?_eq_getElem hlt]
      simp
      omega
    · rw [List.getD_eq_getElem?_getD, List.getElem?_eq_none (by omega)]
      simp
  rcases mem_set2 hx with e | hx
  · omega
  · rcases mem_set2 hx with e | hx
    · omega
    · exact hq x hx
theorem law_swapped_nat {q : List Nat} (hq : ∀ x ∈ q, x ≤ q.length) {i j : Nat} (hi : i < q.length) (hij : i < j) (hf : j ≤ landN q i) (hn : landN q j ≤ i + q.length) (h : Hv) : g__law_swapped [pv q, .int ((i : Nat) : Int), .int ((j : Nat) : Int)] h = some (pv (swapN q i j), h) := by
  have hp : 0 < q.length := by omega
  have hw : 0 < (swapN q i j).length := by rw [swapN_len]; exact hp
  obtain ⟨m1, h1, e1⟩ := min_ints hw []
  obtain ⟨m2, h2, e2⟩ := max_ints hw []
  have hle := swapN_le hq hij hn m2 h2
  unfold pv g__law_swapped
  dsimp only
  rw [landV_nat hp, landV_nat hp]
  dsimp only
  rw [put_nat hi hij hf]
  dsimp only
  rw [e1]
  dsimp only
  have e3 : ile 0 ((m1 : Nat) : Int) = true := by rw [ile_eq, decide_eq_true_iff]; omega
  have e4 : ile ((m2 : Nat) : Int) (((intsOf q).length : Nat) : Int) = true := by rw [ile_eq, decide_eq_true_iff, ints_len]; omega
  rw [e3, e2]
  dsimp only
  rw [e4]
theorem rise_nat {q : List Nat} (hp : 0 < q.length) (i j : Nat) (h : Hv) : f_is_rise [pv q, prN (i, j)] h = some (.bl (Nat.blt (landN q i) (landN q j)), h) := by
  have h0 : ∀ h, gIx h (prN (i, j)) (.int 0) = some (.int ((i : Nat) : Int)) := fun _ => rfl
  have h1 : ∀ h, gIx h (prN (i, j)) (.int 1) = some (.int ((j : Nat) : Int)) := fun _ => rfl
  have e : ilt ((landN q i : Nat) : Int) ((landN q j : Nat) : Int) = Nat.blt (landN q i) (landN q j) := rfl
  simp [f_is_rise, b_is_rise, fn, sSeq, sSet, sPar, sIf, sRet, sNil, sExpr, tV, tAnd, tOr, tNot, xAnd, xOr, xNot, xIf, xII, xVV, xVH, xU, xC, xV, xTup, xLst, aCons, aNil, xCall, xCallZ, still, noL, noLs, nth_0, nth_s, entry, somes, List.replicate, leave, h0, h1, lands_nat hp, gLt, e]
theorem pair_nat {n i j : Nat} (hi : i < n) (hij : i < j) (hj : j < i + n) (h : Hv) : f_is_swap_pair [.int ((n : Nat) : Int), prN (i, j)] h = some (.bl true, h) := by
  have hi' : ∀ (i : Int) (h : Hv), f_is_integer [.int i] h = some (.bl true, h) := fun i h => by
    simp [f_is_integer, b_is_integer, fn, sSeq, sSet, sPar, sIf, sRet, sNil, sExpr, tV, tAnd, tOr, tNot, xAnd, xOr, xNot, xIf, xII, xVV, xVH, xU, xC, xV, xTup, xLst, aCons, aNil, xCall, xCallZ, still, noL, noLs, nth_0, nth_s, entry, somes, List.replicate, leave, gIsi, isTy]
  have hn : ∀ (i : Nat) (h : Hv), f_is_number [.int ((i : Nat) : Int)] h = some (.bl true, h) := fun i h => by
    simp [f_is_number, b_is_number, fn, sSeq, sSet, sPar, sIf, sRet, sNil, sExpr, tV, tAnd, tOr, tNot, xAnd, xOr, xNot, xIf, xII, xVV, xVH, xU, xC, xV, xTup, xLst, aCons, aNil, xCall, xCallZ, still, noL, noLs, nth_0, nth_s, entry, somes, List.replicate, leave, hi', gGe, ile_eq]
  have hx : ∀ (h : Hv), f_is_index [.int ((i : Nat) : Int), .int ((n : Nat) : Int)] h = some (.bl true, h) := fun h => by
    simp [f_is_index, b_is_index, fn, sSeq, sSet, sPar, sIf, sRet, sNil, sExpr, tV, tAnd, tOr, tNot, xAnd, xOr, xNot, xIf, xII, xVV, xVH, xU, xC, xV, xTup, xLst, aCons, aNil, xCall, xCallZ, still, noL, noLs, nth_0, nth_s, entry, somes, List.replicate, leave, hn, gLt, ilt_eq, hi]
  have ht : ∀ (h : Hv), f_is_tuple_of [prN (i, j), .int 2] h = some (.bl true, h) := fun h => by
    simp [f_is_tuple_of, b_is_tuple_of, fn, sSeq, sSet, sPar, sIf, sRet, sNil, sExpr, tV, tAnd, tOr, tNot, xAnd, xOr, xNot, xIf, xII, xVV, xVH, xU, xC, xV, xTup, xLst, aCons, aNil, xCall, xCallZ, still, noL, noLs, nth_0, nth_s, entry, somes, List.replicate, leave, prN, gIsi, isTy, gLen, eq_int]
  have h0 : ∀ h, gIx h (prN (i, j)) (.int 0) = some (.int ((i : Nat) : Int)) := fun _ => rfl
  have h1 : ∀ h, gIx h (prN (i, j)) (.int 1) = some (.int ((j : Nat) : Int)) := fun _ => rfl
  have e1 : ilt ((i : Nat) : Int) ((j : Nat) : Int) = true := by rw [ilt_eq, decide_eq_true_iff]; omega
  have e2 : ilt ((j : Nat) : Int) (((i : Nat) : Int) + ((n : Nat) : Int)) = true := by rw [ilt_eq, decide_eq_true_iff]; omega
  simp [f_is_swap_pair, b_is_swap_pair, fn, sSeq, sSet, sPar, sIf, sRet, sNil, sExpr, tV, tAnd, tOr, tNot, xAnd, xOr, xNot, xIf, xII, xVV, xVH, xU, xC, xV, xTup, xLst, aCons, aNil, xCall, xCallZ, still, noL, noLs, nth_0, nth_s, entry, somes, List.replicate, leave, ht, hx, hi', h0, h1, xChain, e1, e2, gAdd]
/-- one step, by natural numbers -/
def stepN (p q : List Nat) (i j : Nat) : Bool := Nat.blt i q.length && Nat.blt i j && Nat.blt j (i + q.length) && Nat.ble j (landN q i) && Nat.ble (landN q j) (i + q.length) && Nat.blt (landN q i) (landN q j)
theorem step_nat {n : Nat} {p q : List Nat} (hp : p.length = n) (hq : q.length = n) (hn : 0 < n) (hn2 : n < 1000) (hle : ∀ x ∈ q, x ≤ n) {i j : Nat} (e : nextN p q = some (i, j)) (s : stepN p q i j = true) : Step n p q (swapN q i j) ((i : Nat) : Int) ((j : Nat) : Int) := by
  unfold stepN at s
  simp only [Bool.and_eq_true, Nat.blt_eq] at s
  obtain ⟨⟨⟨⟨⟨s1, s2⟩, s3⟩, s4⟩, s5⟩, s6⟩ := s
  have s4 := Nat.le_of_ble_eq_true s4
  have s5 := Nat.le_of_ble_eq_true s5
  subst hq
  refine ⟨next_ok (by omega) hp.symm (by omega) e, swapped_nat s1 s2 s4 s5 [], law_swapped_nat hle s1 s2 s4 s5 [], pair_nat s1 s2 s3 [], ?_⟩
  have := rise_nat (q := q) hn i j []
  rw [(Nat.blt_eq).mpr s6] at this
  exact this
end EvP
end
section
set_option Elab.async false
set_option linter.all false
set_option maxRecDepth 100000
set_option maxHeartbeats 4000000
/-! PlE: what is checked of a class of patterns (one size, one number of balls), and what follows. -/
namespace EvP
open Ev
open PySem (Str)
structure En where
  p : List Nat
  r : Nat
  d : Nat
/-! ### ranks packed -/
def Ls (n : Nat) : List (Nat × Nat) := (List.range (n + 1)).flatMap fun l => (List.range n).map fun s => (l, s)
def pk (xs : List Nat) : Nat := xs.foldr (fun w acc => w + 8 * acc) 0
def rr (p : List Nat) : Nat := pk ((Ls p.length).map fun z => wn p z.2 z.1)
noncomputable def leR (k : Nat) : Nat → Nat → Bool := Nat.rec (motive := fun _ => Nat → Nat → Bool) (fun _ _ => true) (fun _ ih a b => match Nat.ble (a % 8) (b % 8) with | true => ih (a / 8) (b / 8) | false => false) k
theorem leR_s (k a b : Nat) : leR (k + 1) a b = match Nat.ble (a % 8) (b % 8) with | true => leR k (a / 8) (b / 8) | false => false := rfl
theorem leR_pk {α : Type} (f g : α → Nat) : ∀ L : List α, (∀ z ∈ L, f z < 8 ∧ g z < 8) → (leR L.length (pk (L.map f)) (pk (L.map g)) = true ↔ ∀ z ∈ L, f z ≤ g z)
  | [], _ => ⟨fun _ z hz => absurd hz List.not_mem_nil, fun _ => rfl⟩
  | z :: L, h => by
    have ih := leR_pk f g L fun y hy => h y (List.mem_cons_of_mem _ hy)
    obtain ⟨h1, h2⟩ := h z List.mem_cons_self
    rw [List.length_cons, leR_s, List.map_cons, List.map_cons]
    have e1 : pk (f z :: L.map f) = f z + 8 * pk (L.map f) := rfl
    have e2 : pk (g z :: L.map g) = g z + 8 * pk (L.map g) := rfl
    have a1 : (f z + 8 * pk (L.map f)) % 8 = f z := by omega
    have a2 : (g z + 8 * pk (L.map g)) % 8 = g z := by omega
    have a3 : (f z + 8 * pk (L.map f)) / 8 = pk (L.map f) := by omega
    have a4 : (g z + 8 * pk (L.map g)) / 8 = pk (L.map g) := by omega
    rw [e1, e2, a1, a2, a3, a4]
    cases q : Nat.ble (f z) (g z) with
    | true =>
      have := Nat.le_of_ble_eq_true q
      simp [ih, this]
    | false =>
      have : ¬ f z ≤ g z := fun c => by rw [Nat.ble_eq_true_of_le c] at q; cases q
      simp [this]
theorem wn_le (p : List Nat) (s l : Nat) : wn p s l ≤ l := by
  unfold wn
  exact Nat.le_trans (List.length_filter_le _ _) (by simp)
theorem mem_Ls {n l s : Nat} : (l, s) ∈ Ls n ↔ l < n + 1 ∧ s < n := by
  unfold Ls
  simp [List.mem_flatMap]
/-- p lies below q -/
theorem below_iff {n : Nat} {p q : List Nat} (hp : p.length = n) (hq : q.length = n) (hn : n < 8) : leR (Ls n).length (rr q) (rr p) = true ↔ barN p q = none := by
  unfold rr
  rw [hp, hq, leR_pk (fun z => wn q z.2 z.1) (fun z => wn p z.2 z.1) (Ls n) fun z hz => ?_, bar_none, hp]
  · constructor
    · intro h l hl s hs
      have := h (l, s) (mem_Ls.mpr ⟨hl, hs⟩)
      cases e : Nat.blt (wn p s l) (wn q s l) with
      | false => rfl
      | true =>
        rw [Nat.blt_eq] at e
        exact absurd e (Nat.not_lt.mpr this)
    · rintro h ⟨l, s⟩ hz
      obtain ⟨hl, hs⟩ := mem_Ls.mp hz
      have := h l hl s hs
      rcases Nat.lt_or_ge (wn p s l) (wn q s l) with c | c
      · rw [(Nat.blt_eq).mpr c] at this
        cases this
      · exact c
  · obtain ⟨l, s⟩ := z
    obtain ⟨hl, hs⟩ := mem_Ls.mp hz
    have h1 := wn_le q s l
    have h2 := wn_le p s l
    exact ⟨by show wn q s l < 8; omega, by show wn p s l < 8; omega⟩
theorem below_refl (p : List Nat) : barN p p = none := by
  rw [bar_none]
  intro l _ s _
  cases e : Nat.blt (wn p s l) (wn p s l) with
  | false => rfl
  | true =>
    rw [Nat.blt_eq] at e
    exact absurd e (Nat.lt_irrefl _)
theorem below_trans {p q r : List Nat} (e1 : p.length = q.length) (h1 : barN p q = none) (h2 : barN q r = none) : barN p r = none := by
  rw [bar_none] at *
  intro l hl s hs
  have a := h1 l hl s hs
  have b := h2 l (e1 ▸ hl) s (e1 ▸ hs)
  cases e : Nat.blt (wn p s l) (wn r s l) with
  | false => rfl
  | true =>
    rw [Nat.blt_eq] at e
    rcases Nat.lt_or_ge (wn p s l) (wn q s l) with c | c
    · rw [(Nat.blt_eq).mpr c] at a; cases a
    · rcases Nat.lt_or_ge (wn q s l) (wn r s l) with c' | c'
      · rw [(Nat.blt_eq).mpr c'] at b; cases b
      · omega
/-! ### answers read -/
def asNats : List Va → Option (List Nat)
  | [] => some []
  | .int (.ofNat n) :: xs => match asNats xs with
    | some w => some (n :: w)
    | none => none
  | _ => none
theorem asNats_ok : ∀ {xs : List Va} {w : List Nat}, asNats xs = some w → xs = intsOf w
  | [], w, e => by
    unfold asNats at e
    cases e
    rfl
  | x :: xs, w, e => by
    unfold asNats at e
    split at e
    · rename_i h
      cases h
    · rename_i n ys h
      cases h
      split at e
      · rename_i v q
        cases e
        rw [asNats_ok q]
        rfl
      · cases e
    · cases e
def isBl (b : Bool) (x : Option (Va × Hv)) : Bool := match x with
  | some (.bl c, []) => c == b
  | _ => false
theorem isBl_ok {b : Bool} {x : Option (Va × Hv)} (e : isBl b x = true) : x = some (.bl b, []) := by
  unfold isBl at e
  split at e
  · rw [eq_of_beq e]
  · cases e
def isI (i : Int) (x : Option (Va × Hv)) : Bool := match x with
  | some (.int j, []) => ieq j i
  | _ => false
theorem isI_ok {i : Int} {x : Option (Va × Hv)} (e : isI i x = true) : x = some (.int i, []) := by
  unfold isI at e
  split at e
  · rw [ieq_eq, decide_eq_true_iff] at e
    rw [e]
  · cases e
def natsBeq : List Nat → List Nat → Bool
  | [], [] => true
  | x :: xs, y :: ys => match Nat.beq x y with
    | true => natsBeq xs ys
    | false => false
  | _, _ => false
theorem natsBeq_iff : ∀ {xs ys : List Nat}, natsBeq xs ys = true ↔ xs = ys
  | [], [] => by simp [natsBeq]
  | [], _ :: _ => by simp [natsBeq]
  | _ :: _, [] => by simp [natsBeq]
  | x :: xs, y :: ys => by
    unfold natsBeq
    cases q : Nat.beq x y with
    | true =>
      have := Nat.eq_of_beq_eq_true q
      subst this
      simp [natsBeq_iff]
    | false =>
      have : x ≠ y := Nat.ne_of_beq_eq_false q
      simp [this]
/-- a pattern is the answer -/
def isPat (w : List Nat) (x : Option (Va × Hv)) : Bool := match x with
  | some (.tup ys, []) => match asNats ys with
    | some v => natsBeq v w
    | none => false
  | _ => false
theorem isPat_ok {w : List Nat} {x : Option (Va × Hv)} (e : isPat w x = true) : x = some (pv w, []) := by
  unfold isPat at e
  split at e
  · split at e
    · rename_i q
      rw [natsBeq_iff] at e
      subst e
      rw [asNats_ok q]
      rfl
    · cases e
  · cases e
/-! ### the checks -/
noncomputable def oneOk (n b : Nat) (a : En) : Bool := Nat.beq a.p.length n && isBl true (f_is_pattern_by [pv a.p] []) && isI (b : Nat) (f_balls_by [pv a.p] []) && isI (a.d : Nat) (f__law_depth [pv a.p] []) && isI (a.d : Nat) (f_depth_of [pv a.p] []) && Nat.beq a.r (rr a.p) && Nat.ble a.d 50 && a.p.all fun x => Nat.ble x n
noncomputable def stepOk (m : Nat) (C : List En) (a b : En) : Bool := match nextN a.p b.p with
  | some (i, j) => stepN a.p b.p i j && C.any fun e => natsBeq e.p (swapN b.p i j) && Nat.beq e.d (b.d + 1) && leR m e.r a.r
  | none => false
noncomputable def pairOk (m : Nat) (C : List En) (a b : En) : Bool := match leR m b.r a.r with
  | false => true
  | true => match natsBeq b.p a.p with
    | true => true
    | false => Nat.blt b.d a.d && stepOk m C a b
def prs : List Va → Option (List (Int × Int))
  | [] => some []
  | .tup [.int i, .int j] :: xs => match prs xs with
    | some w => some ((i, j) :: w)
    | none => none
  | _ => none
theorem prs_ok : ∀ {xs : List Va} {w : List (Int × Int)}, prs xs = some w → xs = w.map prV
  | [], w, e => by
    unfold prs at e
    cases e
    rfl
  | x :: xs, w, e => by
    unfold prs at e
    split at e
    · rename_i h
      cases h
    · rename_i i j ys h
      cases h
      split at e
      · rename_i v q
        cases e
        rw [prs_ok q]
        rfl
      · cases e
    · cases e
/-- the tuple of pairs that is the answer -/
def asPrs (x : Option (Va × Hv)) : Option (List (Int × Int)) := match x with
  | some (.tup ys, []) => prs ys
  | _ => none
theorem asPrs_ok {x : Option (Va × Hv)} {w : List (Int × Int)} (e : asPrs x = some w) : x = some (.tup (w.map prV), []) := by
  unfold asPrs at e
  split at e
  · rw [prs_ok e]
  · cases e
def prsBeq : List (Int × Int) → List (Int × Int) → Bool
  | [], [] => true
  | x :: xs, y :: ys => match ieq x.1 y.1, ieq x.2 y.2 with
    | true, true => prsBeq xs ys
    | _, _ => false
  | _, _ => false
theorem prsBeq_ok : ∀ {xs ys : List (Int × Int)}, prsBeq xs ys = true → xs = ys
  | [], [], _ => rfl
  | [], _ :: _, e => by simp [prsBeq] at e
  | _ :: _, [], e => by simp [prsBeq] at e
  | (x, x') :: xs, (y, y') :: ys, e => by
    unfold prsBeq at e
    split at e
    · rename_i h1 h2
      rw [ieq_eq, decide_eq_true_iff] at h1 h2
      have a : x = y := h1
      have b : x' = y' := h2
      rw [a, b, prsBeq_ok e]
    · cases e
noncomputable def lowOk (m : Nat) (C : List En) (a : En) : Bool := match asPrs (f__law_lowering [pv a.p] []), asPrs (f_lowering_swaps [pv a.p] []) with
  | some u, some v => prsBeq v u && Nat.blt u.length 1000 && (u.all fun c => C.any fun e => isPat e.p (g__law_swapped [pv a.p, .int c.1, .int c.2] []) && leR m a.r e.r) && (match u with
    | [] => true
    | c :: _ => C.any fun e => isPat e.p (g__law_swapped [pv a.p, .int c.1, .int c.2] []) && isPat e.p (f_swapped [pv a.p, .int c.1, .int c.2] []))
  | _, _ => false
theorem all_app {α : Type} {f : α → Bool} {A B : List α} (a : A.all f = true) (b : B.all f = true) : (A ++ B).all f = true := by rw [List.all_append, a, b]; rfl
/-! ### what follows -/
structure Cls (n b : Nat) (C : List En) : Prop where
  pos : 0 < n
  few : n < 8
  one : (C.all fun a => oneOk n b a) = true
  two : (C.all fun a => C.all fun c => pairOk (Ls n).length C a c) = true
  low : (C.all fun a => lowOk (Ls n).length C a) = true
section
variable {n b : Nat} {C : List En} (K : Cls n b C)
include K
theorem Cls.one' {a : En} (h : a ∈ C) : Pk n b a.p ∧ Dp a.p a.d ∧ f_depth_of [pv a.p] [] = some (.int (a.d : Nat), []) ∧ a.r = rr a.p ∧ a.d ≤ 50 ∧ ∀ x ∈ a.p, x ≤ n := by
  have h1 := List.all_eq_true.mp K.one a h
  unfold oneOk at h1
  simp only [Bool.and_eq_true] at h1
  obtain ⟨⟨⟨⟨⟨⟨⟨h1, h2⟩, h3⟩, h4⟩, h5⟩, h6⟩, h7⟩, h8⟩ := h1
  have hf := K.few
  exact ⟨⟨Nat.eq_of_beq_eq_true h1, K.pos, by omega, isBl_ok h2, isI_ok h3⟩, isI_ok h4, isI_ok h5, Nat.eq_of_beq_eq_true h6, Nat.le_of_ble_eq_true h7, fun x hx => Nat.le_of_ble_eq_true (List.all_eq_true.mp h8 x hx)⟩
theorem Cls.le_iff {a c : En} (ha : a ∈ C) (hc : c ∈ C) : leR (Ls n).length c.r a.r = true ↔ barN a.p c.p = none := by
  obtain ⟨p1, _, _, r1, _, _⟩ := K.one' ha
  obtain ⟨p2, _, _, r2, _, _⟩ := K.one' hc
  rw [r1, r2]
  exact below_iff p1.len p2.len K.few
theorem Cls.step {a c : En} (ha : a ∈ C) (hc : c ∈ C) (hb : barN a.p c.p = none) (ne : c.p ≠ a.p) : c.d < a.d ∧ ∃ e ∈ C, ∃ i j, Step n a.p c.p e.p i j ∧ e.d = c.d + 1 ∧ barN a.p e.p = none := by
  have h1 := List.all_eq_true.mp (List.all_eq_true.mp K.two a ha) c hc
  unfold pairOk at h1
  rw [(K.le_iff ha hc).mpr hb] at h1
  dsimp only at h1
  cases q : natsBeq c.p a.p with
  | true => exact absurd (natsBeq_iff.mp q) ne
  | false =>
    rw [q] at h1
    dsimp only at h1
    rw [Bool.and_eq_true, Nat.blt_eq] at h1
    refine ⟨h1.1, ?_⟩
    have h2 := h1.2
    unfold stepOk at h2
    split at h2
    · rename_i i j e1
      rw [Bool.and_eq_true] at h2
      obtain ⟨h3, h7⟩ := h2
      obtain ⟨e, he, h8⟩ := List.any_eq_true.mp h7
      simp only [Bool.and_eq_true] at h8
      obtain ⟨⟨h9, h10⟩, h11⟩ := h8
      have ew := natsBeq_iff.mp h9
      obtain ⟨p1, _⟩ := K.one' ha
      obtain ⟨p2, _, _, _, _, q2⟩ := K.one' hc
      have st := step_nat p1.len p2.len K.pos (by have := K.few; omega) q2 e1 h3
      rw [← ew] at st
      exact ⟨e, he, _, _, st, Nat.eq_of_beq_eq_true h10, (K.le_iff ha he).mp h11⟩
    · cases h2
theorem Cls.chain {a : En} (ha : a ∈ C) : ∀ (k : Nat) {c : En}, c ∈ C → a.d - c.d = k → barN a.p c.p = none → ∃ cs, Ch n b a.p c.p cs := by
  intro k
  induction k with
  | zero =>
    intro c hc hk hb
    by_cases e : c.p = a.p
    · rw [e]; exact ⟨[], .nil⟩
    · have := (K.step ha hc hb e).1
      omega
  | succ k ih =>
    intro c hc hk hb
    by_cases e : c.p = a.p
    · rw [e]; exact ⟨[], .nil⟩
    · obtain ⟨_, late, hl, i, j, st, hd, hb'⟩ := K.step ha hc hb e
      obtain ⟨cs, r⟩ := ih hl (by omega) hb'
      obtain ⟨pl, dl, _⟩ := K.one' hl
      obtain ⟨_, dc, _⟩ := K.one' hc
      rw [hd] at dl
      exact ⟨(i, j) :: cs, .cons e st pl dc dl r⟩
theorem Cls.right {a c : En} (ha : a ∈ C) (hc : c ∈ C) : f__law_order_right [pv a.p, pv c.p] [] = some (.bl true, []) := by
  obtain ⟨pa, da, _, _, ka, _⟩ := K.one' ha
  obtain ⟨pc, dc, _⟩ := K.one' hc
  refine order_right_ok pa pc dc da fun hb => ?_
  obtain ⟨cs, r⟩ := K.chain ha _ hc rfl hb
  have := r.depth dc da
  exact ⟨cs, r, by omega⟩
theorem Cls.lies {a c : En} (ha : a ∈ C) (hc : c ∈ C) (hb : barN a.p c.p = none) : f_lies_below [pv a.p, pv c.p] [] = some (.bl true, []) := by
  obtain ⟨pa, _⟩ := K.one' ha
  obtain ⟨pc, _⟩ := K.one' hc
  rw [lies_ok pa pc, hb]
  rfl
/-- its lowering swaps -/
theorem Cls.lower {a : En} (ha : a ∈ C) : ∃ u : List (Int × Int), u.length < 1000 ∧ f__law_lowering [pv a.p] [] = some (.tup (u.map prV), []) ∧ f_lowering_swaps [pv a.p] [] = some (.tup (u.map prV), []) ∧
    (∀ c ∈ u, ∃ e ∈ C, g__law_swapped [pv a.p, .int c.1, .int c.2] [] = some (pv e.p, []) ∧ barN e.p a.p = none) ∧
    ∀ c r, u = c :: r → ∃ w, g__law_swapped [pv a.p, .int c.1, .int c.2] [] = some (pv w, []) ∧ f_swapped [pv a.p, .int c.1, .int c.2] [] = some (pv w, []) := by
  have h1 := List.all_eq_true.mp K.low a ha
  unfold lowOk at h1
  split at h1
  · rename_i u v e1 e2
    simp only [Bool.and_eq_true] at h1
    obtain ⟨⟨⟨h2, h3⟩, h4⟩, h5⟩ := h1
    have e3 := prsBeq_ok h2
    subst e3
    rw [Nat.blt_eq] at h3
    refine ⟨v, h3, asPrs_ok e1, asPrs_ok e2, fun c hc => ?_, fun c r er => ?_⟩
    · obtain ⟨e, he, h6⟩ := List.any_eq_true.mp (List.all_eq_true.mp h4 c hc)
      rw [Bool.and_eq_true] at h6
      exact ⟨e, he, isPat_ok h6.1, (K.le_iff he ha).mp h6.2⟩
    · subst er
      obtain ⟨e, he, h6⟩ := List.any_eq_true.mp h5
      rw [Bool.and_eq_true] at h6
      exact ⟨e.p, isPat_ok h6.1, isPat_ok h6.2⟩
  · cases h1
end
end EvP
end
section
set_option Elab.async false
set_option linter.all false
set_option maxRecDepth 100000
set_option maxHeartbeats 0
/-! PlT: the patterns of two to five places, class by class; printed by gen_tab.py. -/
namespace EvP
open Ev
def C2_0_0 : List En := [⟨[0, 0], 74304, 0⟩]
def C2_0 : List En := C2_0_0
theorem a2_0_0 : (C2_0_0.all fun a => oneOk 2 0 a) = true := by decide +kernel
theorem b2_0_0 : (C2_0_0.all fun a => C2_0.all fun c => pairOk (Ls 2).length C2_0 a c) = true := by decide +kernel
theorem c2_0_0 : (C2_0_0.all fun a => lowOk (Ls 2).length C2_0 a) = true := by decide +kernel
theorem K2_0 : Cls 2 0 C2_0 := ⟨by decide, by decide, a2_0_0, b2_0_0, c2_0_0⟩
def C2_1_0 : List En := [⟨[0, 2], 36928, 1⟩, ⟨[1, 1], 36864, 0⟩, ⟨[2, 0], 37376, 1⟩]
def C2_1 : List En := C2_1_0
theorem a2_1_0 : (C2_1_0.all fun a => oneOk 2 1 a) = true := by decide +kernel
theorem b2_1_0 : (C2_1_0.all fun a => C2_1.all fun c => pairOk (Ls 2).length C2_1 a c) = true := by decide +kernel
theorem c2_1_0 : (C2_1_0.all fun a => lowOk (Ls 2).length C2_1 a) = true := by decide +kernel
theorem K2_1 : Cls 2 1 C2_1 := ⟨by decide, by decide, a2_1_0, b2_1_0, c2_1_0⟩
def C2_2_0 : List En := [⟨[2, 2], 0, 0⟩]
def C2_2 : List En := C2_2_0
theorem a2_2_0 : (C2_2_0.all fun a => oneOk 2 2 a) = true := by decide +kernel
theorem b2_2_0 : (C2_2_0.all fun a => C2_2.all fun c => pairOk (Ls 2).length C2_2 a c) = true := by decide +kernel
theorem c2_2_0 : (C2_2_0.all fun a => lowOk (Ls 2).length C2_2 a) = true := by decide +kernel
theorem K2_2 : Cls 2 2 C2_2 := ⟨by decide, by decide, a2_2_0, b2_2_0, c2_2_0⟩
def C3_0_0 : List En := [⟨[0, 0, 0], 29431992832, 0⟩]
def C3_0 : List En := C3_0_0
theorem a3_0_0 : (C3_0_0.all fun a => oneOk 3 0 a) = true := by decide +kernel
theorem b3_0_0 : (C3_0_0.all fun a => C3_0.all fun c => pairOk (Ls 3).length C3_0 a c) = true := by decide +kernel
theorem c3_0_0 : (C3_0_0.all fun a => lowOk (Ls 3).length C3_0 a) = true := by decide +kernel
theorem K3_0 : Cls 3 0 C3_0 := ⟨by decide, by decide, a3_0_0, b3_0_0, c3_0_0⟩
def C3_1_0 : List En := [⟨[0, 0, 3], 19615191552, 2⟩, ⟨[0, 1, 2], 19614925312, 1⟩, ⟨[0, 3, 0], 19631735296, 2⟩, ⟨[1, 1, 1], 19614924800, 0⟩, ⟨[1, 2, 0], 19614957568, 1⟩, ⟨[2, 0, 1], 19614928896, 1⟩, ⟨[3, 0, 0], 19617058816, 2⟩]
def C3_1 : List En := C3_1_0
theorem a3_1_0 : (C3_1_0.all fun a => oneOk 3 1 a) = true := by decide +kernel
theorem b3_1_0 : (C3_1_0.all fun a => C3_1.all fun c => pairOk (Ls 3).length C3_1 a c) = true := by decide +kernel
theorem c3_1_0 : (C3_1_0.all fun a => lowOk (Ls 3).length C3_1 a) = true := by decide +kernel
theorem K3_1 : Cls 3 1 C3_1 := ⟨by decide, by decide, a3_1_0, b3_1_0, c3_1_0⟩
def C3_2_0 : List En := [⟨[0, 3, 3], 9814934016, 2⟩, ⟨[1, 2, 3], 9798156288, 1⟩, ⟨[2, 2, 2], 9797894144, 0⟩, ⟨[2, 3, 1], 9814671360, 1⟩, ⟨[3, 0, 3], 9800257536, 2⟩, ⟨[3, 1, 2], 9799991296, 1⟩, ⟨[3, 3, 0], 9816801280, 2⟩]
def C3_2 : List En := C3_2_0
theorem a3_2_0 : (C3_2_0.all fun a => oneOk 3 2 a) = true := by decide +kernel
theorem b3_2_0 : (C3_2_0.all fun a => C3_2.all fun c => pairOk (Ls 3).length C3_2 a c) = true := by decide +kernel
theorem c3_2_0 : (C3_2_0.all fun a => lowOk (Ls 3).length C3_2 a) = true := by decide +kernel
theorem K3_2 : Cls 3 2 C3_2 := ⟨by decide, by decide, a3_2_0, b3_2_0, c3_2_0⟩
def C3_3_0 : List En := [⟨[3, 3, 3], 0, 0⟩]
def C3_3 : List En := C3_3_0
theorem a3_3_0 : (C3_3_0.all fun a => oneOk 3 3 a) = true := by decide +kernel
theorem b3_3_0 : (C3_3_0.all fun a => C3_3.all fun c => pairOk (Ls 3).length C3_3 a c) = true := by decide +kernel
theorem c3_3_0 : (C3_3_0.all fun a => lowOk (Ls 3).length C3_3 a) = true := by decide +kernel
theorem K3_3 : Cls 3 3 C3_3 := ⟨by decide, by decide, a3_3_0, b3_3_0, c3_3_0⟩
def C4_0_0 : List En := [⟨[0, 0, 0, 0], 658772067816345600, 0⟩]
def C4_0 : List En := C4_0_0
theorem a4_0_0 : (C4_0_0.all fun a => oneOk 4 0 a) = true := by decide +kernel
theorem b4_0_0 : (C4_0_0.all fun a => C4_0.all fun c => pairOk (Ls 4).length C4_0 a c) = true := by decide +kernel
theorem c4_0_0 : (C4_0_0.all fun a => lowOk (Ls 4).length C4_0 a) = true := by decide +kernel
theorem K4_0 : Cls 4 0 C4_0 := ⟨by decide, by decide, a4_0_0, b4_0_0, c4_0_0⟩
def C4_1_0 : List En := [⟨[0, 0, 0, 4], 494069064600424448, 3⟩, ⟨[0, 0, 1, 3], 494068995746467840, 2⟩, ⟨[0, 0, 4, 0], 494104188710588416, 3⟩, ⟨[0, 1, 1, 2], 494068995729657856, 1⟩, ⟨[0, 1, 3, 0], 494069004321689600, 2⟩, ⟨[0, 2, 0, 2], 494068995729920000, 2⟩, ⟨[0, 4, 0, 0], 494073403442204672, 3⟩, ⟨[1, 1, 1, 1], 494068995729653760, 0⟩, ⟨[1, 1, 2, 0], 494068995731750912, 1⟩, ⟨[1, 2, 0, 1], 494068995729915904, 1⟩, ⟨[1, 3, 0, 0], 494068996805754880, 2⟩, ⟨[2, 0, 1, 1], 494068995729686528, 1⟩, ⟨[2, 0, 2, 0], 494068995731783680, 2⟩, ⟨[3, 0, 0, 1], 494068995864166400, 2⟩, ⟨[4, 0, 0, 0], 494069546695819264, 3⟩]
def C4_1 : List En := C4_1_0
theorem a4_1_0 : (C4_1_0.all fun a => oneOk 4 1 a) = true := by decide +kernel
theorem b4_1_0 : (C4_1_0.all fun a => C4_1.all fun c => pairOk (Ls 4).length C4_1 a c) = true := by decide +kernel
theorem c4_1_0 : (C4_1_0.all fun a => lowOk (Ls 4).length C4_1 a) = true := by decide +kernel
theorem K4_1 : Cls 4 1 C4_1 := ⟨by decide, by decide, a4_1_0, b4_1_0, c4_1_0⟩
def C4_2_0 : List En := [⟨[0, 0, 4, 4], 329401185494667264, 4⟩, ⟨[0, 1, 3, 4], 329366001105768448, 3⟩, ⟨[0, 2, 3, 3], 329365932252073984, 2⟩, ⟨[0, 2, 4, 2], 329401116624162816, 3⟩, ⟨[0, 4, 0, 4], 329370400226283520, 4⟩, ⟨[0, 4, 1, 3], 329370331372326912, 3⟩, ⟨[0, 4, 4, 0], 329405524336447488, 4⟩, ⟨[1, 1, 2, 4], 329365992515829760, 2⟩, ⟨[1, 2, 2, 3], 329365923662135296, 1⟩, ⟨[1, 2, 4, 1], 329401116624158720, 2⟩, ⟨[1, 3, 0, 4], 329365993589833728, 3⟩, ⟨[1, 3, 1, 3], 329365924735877120, 2⟩, ⟨[1, 3, 4, 0], 329401117699997696, 3⟩, ⟨[2, 0, 2, 4], 329365992515862528, 3⟩, ⟨[2, 2, 2, 2], 329365923645358080, 0⟩, ⟨[2, 2, 3, 1], 329365932235292672, 1⟩, ⟨[2, 3, 1, 2], 329365924719099904, 1⟩, ⟨[2, 3, 3, 0], 329365933311131648, 2⟩, ⟨[2, 4, 1, 1], 329370331355545600, 2⟩, ⟨[2, 4, 2, 0], 329370331357642752, 3⟩]
def C4_2_1 : List En := [⟨[3, 0, 2, 3], 329365923796385792, 2⟩, ⟨[3, 0, 4, 1], 329401116758409216, 3⟩, ⟨[3, 1, 2, 2], 329365923779575808, 1⟩, ⟨[3, 1, 3, 1], 329365932369510400, 2⟩, ⟨[3, 3, 0, 2], 329365924853579776, 2⟩, ⟨[3, 4, 0, 1], 329370331490025472, 3⟩, ⟨[4, 0, 0, 4], 329366543479898112, 4⟩, ⟨[4, 0, 1, 3], 329366474625941504, 3⟩, ⟨[4, 0, 4, 0], 329401667590062080, 4⟩, ⟨[4, 1, 1, 2], 329366474609131520, 2⟩, ⟨[4, 1, 3, 0], 329366483201163264, 3⟩, ⟨[4, 2, 0, 2], 329366474609393664, 3⟩, ⟨[4, 4, 0, 0], 329370882321678336, 4⟩]
def C4_2 : List En := C4_2_0 ++ (C4_2_1)
theorem a4_2_0 : (C4_2_0.all fun a => oneOk 4 2 a) = true := by decide +kernel
theorem b4_2_0 : (C4_2_0.all fun a => C4_2.all fun c => pairOk (Ls 4).length C4_2 a c) = true := by decide +kernel
theorem c4_2_0 : (C4_2_0.all fun a => lowOk (Ls 4).length C4_2 a) = true := by decide +kernel
theorem a4_2_1 : (C4_2_1.all fun a => oneOk 4 2 a) = true := by decide +kernel
theorem b4_2_1 : (C4_2_1.all fun a => C4_2.all fun c => pairOk (Ls 4).length C4_2 a c) = true := by decide +kernel
theorem c4_2_1 : (C4_2_1.all fun a => lowOk (Ls 4).length C4_2 a) = true := by decide +kernel
theorem K4_2 : Cls 4 2 C4_2 := ⟨by decide, by decide, all_app a4_2_0 (a4_2_1), all_app b4_2_0 (b4_2_1), all_app c4_2_0 (c4_2_1)⟩
def C4_3_0 : List En := [⟨[0, 4, 4, 4], 164702521120526336, 3⟩, ⟨[1, 3, 4, 4], 164698114484076544, 2⟩, ⟨[2, 3, 3, 4], 164662930095210496, 1⟩, ⟨[2, 4, 2, 4], 164667328141721600, 2⟩, ⟨[3, 3, 3, 3], 164662861375733760, 0⟩, ⟨[3, 3, 4, 2], 164698045747822592, 1⟩, ⟨[3, 4, 2, 3], 164667259422244864, 1⟩, ⟨[3, 4, 4, 1], 164702452384268288, 2⟩, ⟨[4, 0, 4, 4], 164698664374140928, 3⟩, ⟨[4, 1, 3, 4], 164663479985242112, 2⟩, ⟨[4, 2, 3, 3], 164663411131547648, 1⟩, ⟨[4, 2, 4, 2], 164698595503636480, 2⟩, ⟨[4, 4, 0, 4], 164667879105757184, 3⟩, ⟨[4, 4, 1, 3], 164667810251800576, 2⟩, ⟨[4, 4, 4, 0], 164703003215921152, 3⟩]
def C4_3 : List En := C4_3_0
theorem a4_3_0 : (C4_3_0.all fun a => oneOk 4 3 a) = true := by decide +kernel
theorem b4_3_0 : (C4_3_0.all fun a => C4_3.all fun c => pairOk (Ls 4).length C4_3 a c) = true := by decide +kernel
theorem c4_3_0 : (C4_3_0.all fun a => lowOk (Ls 4).length C4_3 a) = true := by decide +kernel
theorem K4_3 : Cls 4 3 C4_3 := ⟨by decide, by decide, a4_3_0, b4_3_0, c4_3_0⟩
def C4_4_0 : List En := [⟨[4, 4, 4, 4], 0, 0⟩]
def C4_4 : List En := C4_4_0
theorem a4_4_0 : (C4_4_0.all fun a => oneOk 4 4 a) = true := by decide +kernel
theorem b4_4_0 : (C4_4_0.all fun a => C4_4.all fun c => pairOk (Ls 4).length C4_4 a c) = true := by decide +kernel
theorem c4_4_0 : (C4_4_0.all fun a => lowOk (Ls 4).length C4_4 a) = true := by decide +kernel
theorem K4_4 : Cls 4 4 C4_4 := ⟨by decide, by decide, a4_4_0, b4_4_0, c4_4_0⟩
def C5_0_0 : List En := [⟨[0, 0, 0, 0, 0], 884237488048868818183028736, 0⟩]
def C5_0 : List En := C5_0_0
theorem a5_0_0 : (C5_0_0.all fun a => oneOk 5 0 a) = true := by decide +kernel
theorem b5_0_0 : (C5_0_0.all fun a => C5_0.all fun c => pairOk (Ls 5).length C5_0 a c) = true := by decide +kernel
theorem c5_0_0 : (C5_0_0.all fun a => lowOk (Ls 5).length C5_0 a) = true := by decide +kernel
theorem K5_0 : Cls 5 0 C5_0 := ⟨by decide, by decide, a5_0_0, b5_0_0, c5_0_0⟩
def C5_1_0 : List En := [⟨[0, 0, 0, 0, 5], 707388912161338449841127424, 4⟩, ⟨[0, 0, 0, 1, 4], 707388911008135401521315840, 3⟩, ⟨[0, 0, 0, 5, 0], 707393633518737857423114240, 4⟩, ⟨[0, 0, 1, 1, 3], 707388911008100208557195264, 2⟩, ⟨[0, 0, 1, 4, 0], 707388911152219794813779968, 3⟩, ⟨[0, 0, 2, 0, 3], 707388911008100208573972480, 3⟩, ⟨[0, 0, 5, 0, 0], 707389501466045101801504768, 4⟩, ⟨[0, 1, 1, 1, 2], 707388911008100207483191296, 1⟩, ⟨[0, 1, 1, 3, 0], 707388911008104605663920128, 2⟩, ⟨[0, 1, 2, 0, 2], 707388911008100207499968512, 2⟩, ⟨[0, 1, 4, 0, 0], 707388911026119553945993216, 3⟩, ⟨[0, 2, 0, 1, 2], 707388911008100207485288448, 2⟩, ⟨[0, 2, 0, 3, 0], 707388911008104605666017280, 3⟩, ⟨[0, 3, 0, 0, 2], 707388911008100276221542400, 3⟩, ⟨[0, 5, 0, 0, 0], 707388984815347717319458816, 4⟩, ⟨[1, 1, 1, 1, 1], 707388911008100207483158528, 0⟩, ⟨[1, 1, 1, 2, 0], 707388911008100207617376256, 1⟩, ⟨[1, 1, 2, 0, 1], 707388911008100207499935744, 1⟩, ⟨[1, 1, 3, 0, 0], 707388911008100757389967360, 2⟩, ⟨[1, 2, 0, 1, 1], 707388911008100207485255680, 1⟩]
def C5_1_1 : List En := [⟨[1, 2, 0, 2, 0], 707388911008100207619473408, 2⟩, ⟨[1, 3, 0, 0, 1], 707388911008100276221509632, 2⟩, ⟨[1, 4, 0, 0, 0], 707388911010352625925226496, 3⟩, ⟨[2, 0, 1, 1, 1], 707388911008100207483420672, 1⟩, ⟨[2, 0, 1, 2, 0], 707388911008100207617638400, 2⟩, ⟨[2, 0, 2, 0, 1], 707388911008100207500197888, 2⟩, ⟨[2, 0, 3, 0, 0], 707388911008100757390229504, 3⟩, ⟨[3, 0, 0, 1, 1], 707388911008100216075452416, 2⟩, ⟨[3, 0, 0, 2, 0], 707388911008100216209670144, 3⟩, ⟨[4, 0, 0, 0, 1], 707388911008381759788417024, 3⟩, ⟨[5, 0, 0, 0, 0], 707388920234006146346909696, 4⟩]
def C5_1 : List En := C5_1_0 ++ (C5_1_1)
theorem a5_1_0 : (C5_1_0.all fun a => oneOk 5 1 a) = true := by decide +kernel
theorem b5_1_0 : (C5_1_0.all fun a => C5_1.all fun c => pairOk (Ls 5).length C5_1 a c) = true := by decide +kernel
theorem c5_1_0 : (C5_1_0.all fun a => lowOk (Ls 5).length C5_1 a) = true := by decide +kernel
theorem a5_1_1 : (C5_1_1.all fun a => oneOk 5 1 a) = true := by decide +kernel
theorem b5_1_1 : (C5_1_1.all fun a => C5_1.all fun c => pairOk (Ls 5).length C5_1 a c) = true := by decide +kernel
theorem c5_1_1 : (C5_1_1.all fun a => lowOk (Ls 5).length C5_1 a) = true := by decide +kernel
theorem K5_1 : Cls 5 1 C5_1 := ⟨by decide, by decide, all_app a5_1_0 (a5_1_1), all_app b5_1_0 (b5_1_1), all_app c5_1_0 (c5_1_1)⟩
def C5_2_0 : List En := [⟨[0, 0, 0, 5, 5], 530545057631207489081212928, 6⟩, ⟨[0, 0, 1, 4, 5], 530540335264689426471878656, 5⟩, ⟨[0, 0, 2, 4, 4], 530540334111486378168844288, 4⟩, ⟨[0, 0, 2, 5, 3], 530545056477969247814057984, 5⟩, ⟨[0, 0, 5, 0, 5], 530540925578514733459603456, 6⟩, ⟨[0, 0, 5, 1, 4], 530540924425311685139791872, 5⟩, ⟨[0, 0, 5, 5, 0], 530545646935914141041590272, 6⟩, ⟨[0, 1, 1, 3, 5], 530540335120574237322018816, 4⟩, ⟨[0, 1, 2, 3, 4], 530540333967371189018984448, 3⟩, ⟨[0, 1, 2, 5, 2], 530545056477969246740054016, 4⟩, ⟨[0, 1, 4, 0, 5], 530540335138589185604091904, 5⟩, ⟨[0, 1, 4, 1, 4], 530540333985386137284280320, 4⟩, ⟨[0, 1, 4, 5, 0], 530545056495988593186078720, 5⟩, ⟨[0, 2, 0, 3, 5], 530540335120574237324115968, 5⟩, ⟨[0, 2, 2, 3, 3], 530540333967335996056961024, 2⟩, ⟨[0, 2, 2, 4, 2], 530540334111451184132816896, 3⟩, ⟨[0, 2, 4, 1, 3], 530540333985350944322256896, 3⟩, ⟨[0, 2, 4, 4, 0], 530540334129470530578841600, 4⟩, ⟨[0, 2, 5, 1, 2], 530540924425276491103764480, 4⟩, ⟨[0, 2, 5, 3, 0], 530540924425280889284493312, 5⟩]
def C5_2_1 : List En := [⟨[0, 3, 0, 3, 4], 530540333967371257740558336, 4⟩, ⟨[0, 3, 0, 5, 2], 530545056477969315461627904, 5⟩, ⟨[0, 3, 1, 3, 3], 530540333967336064776437760, 3⟩, ⟨[0, 3, 1, 4, 2], 530540334111451252852293632, 4⟩, ⟨[0, 3, 4, 0, 3], 530540333985351013058510848, 4⟩, ⟨[0, 3, 5, 0, 2], 530540924425276559840018432, 5⟩, ⟨[0, 5, 0, 0, 5], 530540408927817348977557504, 6⟩, ⟨[0, 5, 0, 1, 4], 530540407774614300657745920, 5⟩, ⟨[0, 5, 0, 5, 0], 530545130285216756559544320, 6⟩, ⟨[0, 5, 1, 1, 3], 530540407774579107693625344, 4⟩, ⟨[0, 5, 1, 4, 0], 530540407918698693950210048, 5⟩, ⟨[0, 5, 2, 0, 3], 530540407774579107710402560, 5⟩, ⟨[0, 5, 5, 0, 0], 530540998232524000937934848, 6⟩, ⟨[1, 1, 1, 2, 5], 530540335120569839275474944, 3⟩, ⟨[1, 1, 2, 2, 4], 530540333967366790972440576, 2⟩, ⟨[1, 1, 2, 5, 1], 530545056477969246740021248, 3⟩, ⟨[1, 1, 3, 0, 5], 530540335120570389048066048, 4⟩, ⟨[1, 1, 3, 1, 4], 530540333967367340728254464, 3⟩, ⟨[1, 1, 3, 5, 0], 530545056477969796630052864, 4⟩, ⟨[1, 2, 0, 2, 5], 530540335120569839277572096, 4⟩]
def C5_2_2 : List En := [⟨[1, 2, 2, 2, 3], 530540333967331598010417152, 1⟩, ⟨[1, 2, 2, 4, 1], 530540334111451184132784128, 2⟩, ⟨[1, 2, 3, 1, 3], 530540333967332147766231040, 2⟩, ⟨[1, 2, 3, 4, 0], 530540334111451734022815744, 3⟩, ⟨[1, 2, 5, 1, 1], 530540924425276491103731712, 3⟩, ⟨[1, 2, 5, 2, 0], 530540924425276491237949440, 4⟩, ⟨[1, 3, 0, 2, 4], 530540333967366859694014464, 3⟩, ⟨[1, 3, 0, 5, 1], 530545056477969315461595136, 4⟩, ⟨[1, 3, 1, 2, 3], 530540333967331666729893888, 2⟩, ⟨[1, 3, 1, 4, 1], 530540334111451252852260864, 3⟩, ⟨[1, 3, 3, 0, 3], 530540333967332216502484992, 3⟩, ⟨[1, 3, 5, 0, 1], 530540924425276559839985664, 4⟩, ⟨[1, 4, 0, 0, 5], 530540335122822257583325184, 5⟩, ⟨[1, 4, 0, 1, 4], 530540333969619209263513600, 4⟩, ⟨[1, 4, 0, 5, 0], 530545056480221665165312000, 5⟩, ⟨[1, 4, 1, 1, 3], 530540333969584016299393024, 3⟩, ⟨[1, 4, 1, 4, 0], 530540334113703602555977728, 4⟩, ⟨[1, 4, 2, 0, 3], 530540333969584016316170240, 4⟩, ⟨[1, 4, 5, 0, 0], 530540924427528909543702528, 5⟩, ⟨[2, 0, 1, 2, 5], 530540335120569839275737088, 4⟩]
def C5_2_3 : List En := [⟨[2, 0, 2, 2, 4], 530540333967366790972702720, 3⟩, ⟨[2, 0, 2, 5, 1], 530545056477969246740283392, 4⟩, ⟨[2, 0, 3, 0, 5], 530540335120570389048328192, 5⟩, ⟨[2, 0, 3, 1, 4], 530540333967367340728516608, 4⟩, ⟨[2, 0, 3, 5, 0], 530545056477969796630315008, 5⟩, ⟨[2, 2, 2, 2, 2], 530540333967331596936675328, 0⟩, ⟨[2, 2, 2, 3, 1], 530540333967335994983186432, 1⟩, ⟨[2, 2, 3, 1, 2], 530540333967332146692489216, 1⟩, ⟨[2, 2, 3, 3, 0], 530540333967336544873218048, 2⟩, ⟨[2, 2, 4, 1, 1], 530540333985350943248482304, 2⟩, ⟨[2, 2, 4, 2, 0], 530540333985350943382700032, 3⟩, ⟨[2, 3, 1, 2, 2], 530540333967331665656152064, 1⟩, ⟨[2, 3, 1, 3, 1], 530540333967336063702663168, 2⟩, ⟨[2, 3, 3, 0, 2], 530540333967332215428743168, 2⟩, ⟨[2, 3, 4, 0, 1], 530540333985351011984736256, 3⟩, ⟨[2, 4, 1, 1, 2], 530540333969584015225651200, 2⟩, ⟨[2, 4, 1, 3, 0], 530540333969588413406380032, 3⟩, ⟨[2, 4, 2, 0, 2], 530540333969584015242428416, 3⟩, ⟨[2, 4, 4, 0, 0], 530540333987603361688453120, 4⟩, ⟨[2, 5, 1, 1, 1], 530540407774579106619850752, 3⟩]
def C5_2_4 : List En := [⟨[2, 5, 1, 2, 0], 530540407774579106754068480, 4⟩, ⟨[2, 5, 2, 0, 1], 530540407774579106636627968, 4⟩, ⟨[2, 5, 3, 0, 0], 530540407774579656526659584, 5⟩, ⟨[3, 0, 0, 2, 5], 530540335120569847867768832, 5⟩, ⟨[3, 0, 2, 2, 3], 530540333967331606600613888, 2⟩, ⟨[3, 0, 2, 4, 1], 530540334111451192722980864, 3⟩, ⟨[3, 0, 3, 1, 3], 530540333967332156356427776, 3⟩, ⟨[3, 0, 3, 4, 0], 530540334111451742613012480, 4⟩, ⟨[3, 0, 5, 1, 1], 530540924425276499693928448, 4⟩, ⟨[3, 0, 5, 2, 0], 530540924425276499828146176, 5⟩, ⟨[3, 1, 2, 2, 2], 530540333967331605526609920, 1⟩, ⟨[3, 1, 2, 3, 1], 530540333967336003573121024, 2⟩, ⟨[3, 1, 3, 1, 2], 530540333967332155282423808, 2⟩, ⟨[3, 1, 3, 3, 0], 530540333967336553463152640, 3⟩, ⟨[3, 1, 4, 1, 1], 530540333985350951838416896, 3⟩, ⟨[3, 1, 4, 2, 0], 530540333985350951972634624, 4⟩, ⟨[3, 3, 0, 2, 2], 530540333967331674248183808, 2⟩, ⟨[3, 3, 0, 3, 1], 530540333967336072294694912, 3⟩, ⟨[3, 4, 0, 1, 2], 530540333969584023817682944, 3⟩, ⟨[3, 4, 0, 3, 0], 530540333969588421998411776, 4⟩]
def C5_2_5 : List En := [⟨[3, 5, 0, 1, 1], 530540407774579115211882496, 4⟩, ⟨[3, 5, 0, 2, 0], 530540407774579115346100224, 5⟩, ⟨[4, 0, 0, 2, 4], 530540333967648343260921856, 4⟩, ⟨[4, 0, 0, 5, 1], 530545056478250799028502528, 5⟩, ⟨[4, 0, 1, 2, 3], 530540333967613150296801280, 3⟩, ⟨[4, 0, 1, 4, 1], 530540334111732736419168256, 4⟩, ⟨[4, 0, 3, 0, 3], 530540333967613700069392384, 4⟩, ⟨[4, 0, 5, 0, 1], 530540924425558043406893056, 5⟩, ⟨[4, 1, 1, 2, 2], 530540333967613149222797312, 2⟩, ⟨[4, 1, 1, 3, 1], 530540333967617547269308416, 3⟩, ⟨[4, 1, 3, 0, 2], 530540333967613698995388416, 3⟩, ⟨[4, 1, 4, 0, 1], 530540333985632495551381504, 4⟩, ⟨[4, 2, 0, 2, 2], 530540333967613149224894464, 3⟩, ⟨[4, 2, 0, 3, 1], 530540333967617547271405568, 4⟩, ⟨[4, 4, 0, 0, 2], 530540333969865567530647552, 4⟩, ⟨[4, 5, 0, 0, 1], 530540407774860658924847104, 5⟩, ⟨[5, 0, 0, 0, 5], 530540344346475778005008384, 6⟩, ⟨[5, 0, 0, 1, 4], 530540343193272729685196800, 5⟩, ⟨[5, 0, 0, 5, 0], 530545065703875185586995200, 6⟩, ⟨[5, 0, 1, 1, 3], 530540343193237536721076224, 4⟩]
def C5_2_6 : List En := [⟨[5, 0, 1, 4, 0], 530540343337357122977660928, 5⟩, ⟨[5, 0, 2, 0, 3], 530540343193237536737853440, 5⟩, ⟨[5, 0, 5, 0, 0], 530540933651182429965385728, 6⟩, ⟨[5, 1, 1, 1, 2], 530540343193237535647072256, 3⟩, ⟨[5, 1, 1, 3, 0], 530540343193241933827801088, 4⟩, ⟨[5, 1, 2, 0, 2], 530540343193237535663849472, 4⟩, ⟨[5, 1, 4, 0, 0], 530540343211256882109874176, 5⟩, ⟨[5, 2, 0, 1, 2], 530540343193237535649169408, 4⟩, ⟨[5, 2, 0, 3, 0], 530540343193241933829898240, 5⟩, ⟨[5, 3, 0, 0, 2], 530540343193237604385423360, 5⟩, ⟨[5, 5, 0, 0, 0], 530540417000485045483339776, 6⟩]
def C5_2 : List En := C5_2_0 ++ (C5_2_1 ++ (C5_2_2 ++ (C5_2_3 ++ (C5_2_4 ++ (C5_2_5 ++ (C5_2_6))))))
theorem a5_2_0 : (C5_2_0.all fun a => oneOk 5 2 a) = true := by decide +kernel
theorem b5_2_0 : (C5_2_0.all fun a => C5_2.all fun c => pairOk (Ls 5).length C5_2 a c) = true := by decide +kernel
theorem c5_2_0 : (C5_2_0.all fun a => lowOk (Ls 5).length C5_2 a) = true := by decide +kernel
theorem a5_2_1 : (C5_2_1.all fun a => oneOk 5 2 a) = true := by decide +kernel
theorem b5_2_1 : (C5_2_1.all fun a => C5_2.all fun c => pairOk (Ls 5).length C5_2 a c) = true := by decide +kernel
theorem c5_2_1 : (C5_2_1.all fun a => lowOk (Ls 5).length C5_2 a) = true := by decide +kernel
theorem a5_2_2 : (C5_2_2.all fun a => oneOk 5 2 a) = true := by decide +kernel
theorem b5_2_2 : (C5_2_2.all fun a => C5_2.all fun c => pairOk (Ls 5).length C5_2 a c) = true := by decide +kernel
theorem c5_2_2 : (C5_2_2.all fun a => lowOk (Ls 5).length C5_2 a) = true := by decide +kernel
theorem a5_2_3 : (C5_2_3.all fun a => oneOk 5 2 a) = true := by decide +kernel
theorem b5_2_3 : (C5_2_3.all fun a => C5_2.all fun c => pairOk (Ls 5).length C5_2 a c) = true := by decide +kernel
theorem c5_2_3 : (C5_2_3.all fun a => lowOk (Ls 5).length C5_2 a) = true := by decide +kernel
theorem a5_2_4 : (C5_2_4.all fun a => oneOk 5 2 a) = true := by decide +kernel
theorem b5_2_4 : (C5_2_4.all fun a => C5_2.all fun c => pairOk (Ls 5).length C5_2 a c) = true := by decide +kernel
theorem c5_2_4 : (C5_2_4.all fun a => lowOk (Ls 5).length C5_2 a) = true := by decide +kernel
theorem a5_2_5 : (C5_2_5.all fun a => oneOk 5 2 a) = true := by decide +kernel
theorem b5_2_5 : (C5_2_5.all fun a => C5_2.all fun c => pairOk (Ls 5).length C5_2 a c) = true := by decide +kernel
theorem c5_2_5 : (C5_2_5.all fun a => lowOk (Ls 5).length C5_2 a) = true := by decide +kernel
theorem a5_2_6 : (C5_2_6.all fun a => oneOk 5 2 a) = true := by decide +kernel
theorem b5_2_6 : (C5_2_6.all fun a => C5_2.all fun c => pairOk (Ls 5).length C5_2 a c) = true := by decide +kernel
theorem c5_2_6 : (C5_2_6.all fun a => lowOk (Ls 5).length C5_2 a) = true := by decide +kernel
theorem K5_2 : Cls 5 2 C5_2 := ⟨by decide, by decide, all_app a5_2_0 (all_app a5_2_1 (all_app a5_2_2 (all_app a5_2_3 (all_app a5_2_4 (all_app a5_2_5 (a5_2_6)))))), all_app b5_2_0 (all_app b5_2_1 (all_app b5_2_2 (all_app b5_2_3 (all_app b5_2_4 (all_app b5_2_5 (b5_2_6)))))), all_app c5_2_0 (all_app c5_2_1 (all_app c5_2_2 (all_app c5_2_3 (all_app c5_2_4 (all_app c5_2_5 (c5_2_6))))))⟩
def C5_3_0 : List En := [⟨[0, 0, 5, 5, 5], 353697071048383772699688960, 6⟩, ⟨[0, 1, 4, 5, 5], 353696480608458224844177408, 5⟩, ⟨[0, 2, 4, 4, 5], 353691758241940162236940288, 4⟩, ⟨[0, 2, 5, 3, 5], 353692348537750520942592000, 5⟩, ⟨[0, 3, 4, 4, 4], 353691757088737182653382656, 3⟩, ⟨[0, 3, 4, 5, 3], 353696479455220052298596352, 4⟩, ⟨[0, 3, 5, 3, 4], 353692347384547541359034368, 4⟩, ⟨[0, 3, 5, 5, 2], 353697069895145599080103936, 5⟩, ⟨[0, 5, 0, 5, 5], 353696554397686388217643008, 6⟩, ⟨[0, 5, 1, 4, 5], 353691832031168325608308736, 5⟩, ⟨[0, 5, 2, 4, 4], 353691830877965277305274368, 4⟩, ⟨[0, 5, 2, 5, 3], 353696553244448146950488064, 5⟩, ⟨[0, 5, 5, 0, 5], 353692422344993632596033536, 6⟩, ⟨[0, 5, 5, 1, 4], 353692421191790584276221952, 5⟩, ⟨[0, 5, 5, 5, 0], 353697143702393040178020352, 6⟩, ⟨[1, 1, 3, 5, 5], 353696480590439428288151552, 4⟩, ⟨[1, 2, 3, 4, 5], 353691758223921365680914432, 3⟩, ⟨[1, 2, 5, 2, 5], 353692348537746122896048128, 4⟩, ⟨[1, 3, 3, 4, 4], 353691757070718386097356800, 2⟩, ⟨[1, 3, 3, 5, 3], 353696479437201255742570496, 3⟩]
def C5_3_1 : List En := [⟨[1, 3, 5, 2, 4], 353692347384543143312490496, 3⟩, ⟨[1, 3, 5, 5, 1], 353697069895145599080071168, 4⟩, ⟨[1, 4, 0, 5, 5], 353696480592691296823410688, 5⟩, ⟨[1, 4, 1, 4, 5], 353691758226173234214076416, 4⟩, ⟨[1, 4, 2, 4, 4], 353691757072970185911042048, 3⟩, ⟨[1, 4, 2, 5, 3], 353696479439453055556255744, 4⟩, ⟨[1, 4, 5, 0, 5], 353692348539998541201801216, 5⟩, ⟨[1, 4, 5, 1, 4], 353692347386795492881989632, 4⟩, ⟨[1, 4, 5, 5, 0], 353697069897397948783788032, 5⟩, ⟨[2, 0, 3, 5, 5], 353696480590439428288413696, 5⟩, ⟨[2, 2, 3, 3, 5], 353691758079806176531316736, 2⟩, ⟨[2, 2, 4, 2, 5], 353691758097820575040798720, 3⟩, ⟨[2, 3, 3, 3, 4], 353691756926603196947759104, 1⟩, ⟨[2, 3, 3, 5, 2], 353696479437201254668828672, 2⟩, ⟨[2, 3, 4, 2, 4], 353691756944617595457241088, 2⟩, ⟨[2, 3, 4, 5, 1], 353696479455220051224821760, 3⟩, ⟨[2, 4, 1, 3, 5], 353691758082058045064478720, 3⟩, ⟨[2, 4, 2, 3, 4], 353691756928854996761444352, 2⟩, ⟨[2, 4, 2, 5, 2], 353696479439453054482513920, 3⟩, ⟨[2, 4, 4, 0, 5], 353691758100072993346551808, 4⟩]
def C5_3_2 : List En := [⟨[2, 4, 4, 1, 4], 353691756946869945026740224, 3⟩, ⟨[2, 4, 4, 5, 0], 353696479457472400928538624, 4⟩, ⟨[2, 5, 1, 2, 5], 353691831887048738412167168, 4⟩, ⟨[2, 5, 2, 2, 4], 353691830733845690109132800, 3⟩, ⟨[2, 5, 2, 5, 1], 353696553244448145876713472, 4⟩, ⟨[2, 5, 3, 0, 5], 353691831887049288184758272, 5⟩, ⟨[2, 5, 3, 1, 4], 353691830733846239864946688, 4⟩, ⟨[2, 5, 3, 5, 0], 353696553244448695766745088, 5⟩, ⟨[3, 0, 3, 4, 5], 353691758223921374271111168, 4⟩, ⟨[3, 0, 5, 2, 5], 353692348537746131486244864, 5⟩, ⟨[3, 1, 3, 3, 5], 353691758079806185121251328, 3⟩, ⟨[3, 1, 4, 2, 5], 353691758097820583630733312, 4⟩, ⟨[3, 3, 3, 3, 3], 353691756926568012575670272, 0⟩, ⟨[3, 3, 3, 4, 2], 353691757070683200651526144, 1⟩, ⟨[3, 3, 4, 2, 3], 353691756944582411085152256, 1⟩, ⟨[3, 3, 4, 4, 1], 353691757088701997207519232, 2⟩, ⟨[3, 3, 5, 2, 2], 353692347384507957866659840, 2⟩, ⟨[3, 3, 5, 3, 1], 353692347384512355913170944, 3⟩, ⟨[3, 4, 0, 3, 5], 353691758082058053656510464, 4⟩, ⟨[3, 4, 2, 3, 3], 353691756928819812389355520, 1⟩]
def C5_3_3 : List En := [⟨[3, 4, 2, 4, 2], 353691757072935000465211392, 2⟩, ⟨[3, 4, 4, 1, 3], 353691756946834760654651392, 2⟩, ⟨[3, 4, 4, 4, 0], 353691757090954346911236096, 3⟩, ⟨[3, 4, 5, 1, 2], 353692347386760307436158976, 3⟩, ⟨[3, 4, 5, 3, 0], 353692347386764705616887808, 4⟩, ⟨[3, 5, 0, 2, 5], 353691831887048747004198912, 5⟩, ⟨[3, 5, 2, 2, 3], 353691830733810505737043968, 2⟩, ⟨[3, 5, 2, 4, 1], 353691830877930091859410944, 3⟩, ⟨[3, 5, 3, 1, 3], 353691830733811055492857856, 3⟩, ⟨[3, 5, 3, 4, 0], 353691830877930641749442560, 4⟩, ⟨[3, 5, 5, 1, 1], 353692421191755398830358528, 4⟩, ⟨[3, 5, 5, 2, 0], 353692421191755398964576256, 5⟩, ⟨[4, 0, 3, 4, 4], 353691757070999869664264192, 3⟩, ⟨[4, 0, 3, 5, 3], 353696479437482739309477888, 4⟩, ⟨[4, 0, 5, 2, 4], 353692347384824626879397888, 4⟩, ⟨[4, 0, 5, 5, 1], 353697069895427082646978560, 5⟩, ⟨[4, 1, 3, 3, 4], 353691756926884680514404352, 2⟩, ⟨[4, 1, 3, 5, 2], 353696479437482738235473920, 3⟩, ⟨[4, 1, 4, 2, 4], 353691756944899079023886336, 3⟩, ⟨[4, 1, 4, 5, 1], 353696479455501534791467008, 4⟩]
def C5_3_4 : List En := [⟨[4, 2, 3, 3, 3], 353691756926849487552380928, 1⟩, ⟨[4, 2, 3, 4, 2], 353691757070964675628236800, 2⟩, ⟨[4, 2, 4, 2, 3], 353691756944863886061862912, 2⟩, ⟨[4, 2, 4, 4, 1], 353691757088983472184229888, 3⟩, ⟨[4, 2, 5, 2, 2], 353692347384789432843370496, 3⟩, ⟨[4, 2, 5, 3, 1], 353692347384793830889881600, 4⟩, ⟨[4, 4, 0, 3, 4], 353691756929136549049663488, 3⟩, ⟨[4, 4, 0, 5, 2], 353696479439734606770733056, 4⟩, ⟨[4, 4, 1, 3, 3], 353691756929101356085542912, 2⟩, ⟨[4, 4, 1, 4, 2], 353691757073216544161398784, 3⟩, ⟨[4, 4, 4, 0, 3], 353691756947116304367616000, 3⟩, ⟨[4, 4, 5, 0, 2], 353692347387041851149123584, 4⟩, ⟨[4, 5, 0, 2, 4], 353691830734127242397351936, 4⟩, ⟨[4, 5, 0, 5, 1], 353696553244729698164932608, 5⟩, ⟨[4, 5, 1, 2, 3], 353691830734092049433231360, 3⟩, ⟨[4, 5, 1, 4, 1], 353691830878211635555598336, 4⟩, ⟨[4, 5, 3, 0, 3], 353691830734092599205822464, 4⟩, ⟨[4, 5, 5, 0, 1], 353692421192036942543323136, 5⟩, ⟨[5, 0, 0, 5, 5], 353696489816344817245093888, 6⟩, ⟨[5, 0, 1, 4, 5], 353691767449826754635759616, 5⟩]
def C5_3_5 : List En := [⟨[5, 0, 2, 4, 4], 353691766296623706332725248, 4⟩, ⟨[5, 0, 2, 5, 3], 353696488663106575977938944, 5⟩, ⟨[5, 0, 5, 0, 5], 353692357763652061623484416, 6⟩, ⟨[5, 0, 5, 1, 4], 353692356610449013303672832, 5⟩, ⟨[5, 0, 5, 5, 0], 353697079121051469205471232, 6⟩, ⟨[5, 1, 1, 3, 5], 353691767305711565485899776, 4⟩, ⟨[5, 1, 2, 3, 4], 353691766152508517182865408, 3⟩, ⟨[5, 1, 2, 5, 2], 353696488663106574903934976, 4⟩, ⟨[5, 1, 4, 0, 5], 353691767323726513767972864, 5⟩, ⟨[5, 1, 4, 1, 4], 353691766170523465448161280, 4⟩, ⟨[5, 1, 4, 5, 0], 353696488681125921349959680, 5⟩, ⟨[5, 2, 0, 3, 5], 353691767305711565487996928, 5⟩, ⟨[5, 2, 2, 3, 3], 353691766152473324220841984, 2⟩, ⟨[5, 2, 2, 4, 2], 353691766296588512296697856, 3⟩, ⟨[5, 2, 4, 1, 3], 353691766170488272486137856, 3⟩, ⟨[5, 2, 4, 4, 0], 353691766314607858742722560, 4⟩, ⟨[5, 2, 5, 1, 2], 353692356610413819267645440, 4⟩, ⟨[5, 2, 5, 3, 0], 353692356610418217448374272, 5⟩, ⟨[5, 3, 0, 3, 4], 353691766152508585904439296, 4⟩, ⟨[5, 3, 0, 5, 2], 353696488663106643625508864, 5⟩]
def C5_3_6 : List En := [⟨[5, 3, 1, 3, 3], 353691766152473392940318720, 3⟩, ⟨[5, 3, 1, 4, 2], 353691766296588581016174592, 4⟩, ⟨[5, 3, 4, 0, 3], 353691766170488341222391808, 4⟩, ⟨[5, 3, 5, 0, 2], 353692356610413888003899392, 5⟩, ⟨[5, 5, 0, 0, 5], 353691841112954677141438464, 6⟩, ⟨[5, 5, 0, 1, 4], 353691839959751628821626880, 5⟩, ⟨[5, 5, 0, 5, 0], 353696562470354084723425280, 6⟩, ⟨[5, 5, 1, 1, 3], 353691839959716435857506304, 4⟩, ⟨[5, 5, 1, 4, 0], 353691840103836022114091008, 5⟩, ⟨[5, 5, 2, 0, 3], 353691839959716435874283520, 5⟩, ⟨[5, 5, 5, 0, 0], 353692430417661329101815808, 6⟩]
def C5_3 : List En := C5_3_0 ++ (C5_3_1 ++ (C5_3_2 ++ (C5_3_3 ++ (C5_3_4 ++ (C5_3_5 ++ (C5_3_6))))))
theorem a5_3_0 : (C5_3_0.all fun a => oneOk 5 3 a) = true := by decide +kernel
theorem b5_3_0 : (C5_3_0.all fun a => C5_3.all fun c => pairOk (Ls 5).length C5_3 a c) = true := by decide +kernel
theorem c5_3_0 : (C5_3_0.all fun a => lowOk (Ls 5).length C5_3 a) = true := by decide +kernel
theorem a5_3_1 : (C5_3_1.all fun a => oneOk 5 3 a) = true := by decide +kernel
theorem b5_3_1 : (C5_3_1.all fun a => C5_3.all fun c => pairOk (Ls 5).length C5_3 a c) = true := by decide +kernel
theorem c5_3_1 : (C5_3_1.all fun a => lowOk (Ls 5).length C5_3 a) = true := by decide +kernel
theorem a5_3_2 : (C5_3_2.all fun a => oneOk 5 3 a) = true := by decide +kernel
theorem b5_3_2 : (C5_3_2.all fun a => C5_3.all fun c => pairOk (Ls 5).length C5_3 a c) = true := by decide +kernel
theorem c5_3_2 : (C5_3_2.all fun a => lowOk (Ls 5).length C5_3 a) = true := by decide +kernel
theorem a5_3_3 : (C5_3_3.all fun a => oneOk 5 3 a) = true := by decide +kernel
theorem b5_3_3 : (C5_3_3.all fun a => C5_3.all fun c => pairOk (Ls 5).length C5_3 a c) = true := by decide +kernel
theorem c5_3_3 : (C5_3_3.all fun a => lowOk (Ls 5).length C5_3 a) = true := by decide +kernel
theorem a5_3_4 : (C5_3_4.all fun a => oneOk 5 3 a) = true := by decide +kernel
theorem b5_3_4 : (C5_3_4.all fun a => C5_3.all fun c => pairOk (Ls 5).length C5_3 a c) = true := by decide +kernel
theorem c5_3_4 : (C5_3_4.all fun a => lowOk (Ls 5).length C5_3 a) = true := by decide +kernel
theorem a5_3_5 : (C5_3_5.all fun a => oneOk 5 3 a) = true := by decide +kernel
theorem b5_3_5 : (C5_3_5.all fun a => C5_3.all fun c => pairOk (Ls 5).length C5_3 a c) = true := by decide +kernel
theorem c5_3_5 : (C5_3_5.all fun a => lowOk (Ls 5).length C5_3 a) = true := by decide +kernel
theorem a5_3_6 : (C5_3_6.all fun a => oneOk 5 3 a) = true := by decide +kernel
theorem b5_3_6 : (C5_3_6.all fun a => C5_3.all fun c => pairOk (Ls 5).length C5_3 a c) = true := by decide +kernel
theorem c5_3_6 : (C5_3_6.all fun a => lowOk (Ls 5).length C5_3 a) = true := by decide +kernel
theorem K5_3 : Cls 5 3 C5_3 := ⟨by decide, by decide, all_app a5_3_0 (all_app a5_3_1 (all_app a5_3_2 (all_app a5_3_3 (all_app a5_3_4 (all_app a5_3_5 (a5_3_6)))))), all_app b5_3_0 (all_app b5_3_1 (all_app b5_3_2 (all_app b5_3_3 (all_app b5_3_4 (all_app b5_3_5 (b5_3_6)))))), all_app c5_3_0 (all_app c5_3_1 (all_app c5_3_2 (all_app c5_3_3 (all_app c5_3_4 (all_app c5_3_5 (c5_3_6))))))⟩
def C5_4_0 : List En := [⟨[0, 5, 5, 5, 5], 176848567814862671836119040, 4⟩, ⟨[1, 4, 5, 5, 5], 176848494009867580441886720, 3⟩, ⟨[2, 4, 4, 5, 5], 176847903569942032586637312, 2⟩, ⟨[2, 5, 3, 5, 5], 176847977356918327424843776, 3⟩, ⟨[3, 4, 4, 4, 5], 176843181203423978569334784, 1⟩, ⟨[3, 4, 5, 3, 5], 176843771499234337274986496, 2⟩, ⟨[3, 5, 3, 4, 5], 176843254990400273407541248, 2⟩, ⟨[3, 5, 5, 2, 5], 176843845304225030622674944, 3⟩, ⟨[4, 4, 4, 4, 4], 176843180050502473962487808, 0⟩, ⟨[4, 4, 4, 5, 3], 176847902416985343607701504, 1⟩, ⟨[4, 4, 5, 3, 4], 176843770346312832668139520, 1⟩, ⟨[4, 4, 5, 5, 2], 176848492856910890389209088, 2⟩, ⟨[4, 5, 3, 4, 4], 176843253837478768800694272, 1⟩, ⟨[4, 5, 3, 5, 3], 176847976203961638445907968, 2⟩, ⟨[4, 5, 5, 2, 4], 176843844151303526015827968, 2⟩, ⟨[4, 5, 5, 5, 1], 176848566661905981783408640, 3⟩, ⟨[5, 0, 5, 5, 5], 176848503233521100863569920, 4⟩, ⟨[5, 1, 4, 5, 5], 176847912793595553008058368, 3⟩, ⟨[5, 2, 4, 4, 5], 176843190427077490400821248, 2⟩, ⟨[5, 2, 5, 3, 5], 176843780722887849106472960, 3⟩]
def C5_4_1 : List En := [⟨[5, 3, 4, 4, 4], 176843189273874510817263616, 1⟩, ⟨[5, 3, 4, 5, 3], 176847911640357380462477312, 2⟩, ⟨[5, 3, 5, 3, 4], 176843779569684869522915328, 2⟩, ⟨[5, 3, 5, 5, 2], 176848502080282927243984896, 3⟩, ⟨[5, 5, 0, 5, 5], 176847986582823716381523968, 4⟩, ⟨[5, 5, 1, 4, 5], 176843264216305653772189696, 3⟩, ⟨[5, 5, 2, 4, 4], 176843263063102605469155328, 2⟩, ⟨[5, 5, 2, 5, 3], 176847985429585475114369024, 3⟩, ⟨[5, 5, 5, 0, 5], 176843854530130960759914496, 4⟩, ⟨[5, 5, 5, 1, 4], 176843853376927912440102912, 3⟩, ⟨[5, 5, 5, 5, 0], 176848575887530368341901312, 4⟩]
def C5_4 : List En := C5_4_0 ++ (C5_4_1)
theorem a5_4_0 : (C5_4_0.all fun a => oneOk 5 4 a) = true := by decide +kernel
theorem b5_4_0 : (C5_4_0.all fun a => C5_4.all fun c => pairOk (Ls 5).length C5_4 a c) = true := by decide +kernel
theorem c5_4_0 : (C5_4_0.all fun a => lowOk (Ls 5).length C5_4 a) = true := by decide +kernel
theorem a5_4_1 : (C5_4_1.all fun a => oneOk 5 4 a) = true := by decide +kernel
theorem b5_4_1 : (C5_4_1.all fun a => C5_4.all fun c => pairOk (Ls 5).length C5_4 a c) = true := by decide +kernel
theorem c5_4_1 : (C5_4_1.all fun a => lowOk (Ls 5).length C5_4 a) = true := by decide +kernel
theorem K5_4 : Cls 5 4 C5_4 := ⟨by decide, by decide, all_app a5_4_0 (a5_4_1), all_app b5_4_0 (b5_4_1), all_app c5_4_0 (c5_4_1)⟩
def C5_5_0 : List En := [⟨[5, 5, 5, 5, 5], 0, 0⟩]
def C5_5 : List En := C5_5_0
theorem a5_5_0 : (C5_5_0.all fun a => oneOk 5 5 a) = true := by decide +kernel
theorem b5_5_0 : (C5_5_0.all fun a => C5_5.all fun c => pairOk (Ls 5).length C5_5 a c) = true := by decide +kernel
theorem c5_5_0 : (C5_5_0.all fun a => lowOk (Ls 5).length C5_5 a) = true := by decide +kernel
theorem K5_5 : Cls 5 5 C5_5 := ⟨by decide, by decide, a5_5_0, b5_5_0, c5_5_0⟩
end EvP
end
section
set_option Elab.async false
set_option linter.all false
set_option maxRecDepth 100000
set_option maxHeartbeats 4000000
/-! PlH: a draw: some number below the bound; the feed stays a feed. -/
namespace EvP
open Ev
open PySem (Str)
/-- the feed's cell after c draws -/
structure Fd (c : Int) (v : List Va) : Prop where
  ex : ∃ (s : List Int) (a r : Int), v = [.lst (s.map .int), .int a, .int r, .int c] ∧ s.length ≤ 63 ∧ 0 ≤ a ∧ 0 ≤ r
  pos : 0 ≤ c
  few : c < 1000
theorem ixF0 (w x y z : Va) (H : Hv) : gIx (.lst [w, x, y, z] :: H) (.ref 0) (.int 0) = some w := rfl
theorem ixF1 (w x y z : Va) (H : Hv) : gIx (.lst [w, x, y, z] :: H) (.ref 0) (.int 1) = some x := rfl
theorem ixF2 (w x y z : Va) (H : Hv) : gIx (.lst [w, x, y, z] :: H) (.ref 0) (.int 2) = some y := rfl
theorem ixF3 (w x y z : Va) (H : Hv) : gIx (.lst [w, x, y, z] :: H) (.ref 0) (.int 3) = some z := rfl
theorem putF1 (w x y z : Va) (H : Hv) (t : Int) : putIx (.lst [w, x, y, z] :: H) (.ref 0) (.int 1) (.int t) = some (.lst [w, .int t, y, z] :: H) := rfl
theorem putF2 (w x y z : Va) (H : Hv) (t : Int) : putIx (.lst [w, x, y, z] :: H) (.ref 0) (.int 2) (.int t) = some (.lst [w, x, .int t, z] :: H) := rfl
theorem putF3 (w x y z : Va) (H : Hv) (t : Int) : putIx (.lst [w, x, y, z] :: H) (.ref 0) (.int 3) (.int t) = some (.lst [w, x, y, .int t] :: H) := rfl
theorem add_ok (i j : Int) : gAdd i j = some (.int (i + j)) := rfl
theorem sub_ok (i j : Int) : gSub i j = some (.int (i - j)) := rfl
theorem mod_ok (i : Int) {j : Int} (h : 0 < j) : gMod i j = some (.int (i % j)) := by
  unfold gMod
  rw [ilt_eq, decide_eq_true h]
theorem div_ok (i : Int) {j : Int} (h : 0 < j) (h2 : j < 1073741824) : gDiv i j = some (.int (i / j)) := by
  unfold gDiv
  rw [ilt_eq, ilt_eq, decide_eq_true h, decide_eq_true h2]
theorem small_of {i : Int} (h1 : 0 ≤ i) (h2 : i < 9223372036854775808) : small64 i = true := by
  unfold small64
  rw [Nat.blt_eq]
  omega
theorem mul_ok {i : Int} (j : Int) (h : small64 i = true) : gMul i j = some (.int (i * j)) := by
  unfold gMul
  rw [h]
theorem pow_ok {i : Int} (m : Nat) (hm : Nat.ble m 100 = true) (h : small64 i = true) : gPow i (.ofNat m) = some (.int (i ^ m)) := by
  unfold gPow
  rw [h]
  simp only [hm]
theorem pow_3 {i : Int} (h : small64 i = true) : gPow i 3 = some (.int (i ^ 3)) := pow_ok 3 rfl h
theorem pow_5 {i : Int} (h : small64 i = true) : gPow i 5 = some (.int (i ^ 5)) := pow_ok 5 rfl h
theorem pow_18 : gPow 10 18 = some (.int (1000000000000000000)) := by
  have := pow_ok (i := 10) 18 rfl rfl
  exact this
theorem gt_ok (i j : Int) : gGt i j = some (.bl (decide (j < i))) := by unfold gGt; rw [ilt_eq]
theorem ge_ok (i j : Int) : gGe i j = some (.bl (decide (j ≤ i))) := by unfold gGe; rw [ile_eq]
theorem lt_ok (i j : Int) : gLt i j = some (.bl (decide (i < j))) := by unfold gLt; rw [ilt_eq]
theorem int_ok (h : Hv) (i : Int) : gInt h (.int i) = some (.int i) := rfl
theorem lenL_ok (h : Hv) (s : List Int) : gLen h (.lst (s.map .int)) = some (.int ((s.length : Nat) : Int)) := by
  show some (Va.int (((s.map Va.int).length : Nat) : Int)) = _
  rw [List.length_map]
theorem dlesI (k : Nat) : ∀ s : List Int, dles k (s.map .int) = true
  | [] => rfl
  | i :: s => by
    rw [List.map_cons]
    unfold dles
    rw [dlesI k s]
    cases k <;> rfl
theorem neE_ok : ∀ s : List Int, gNe (.lst (s.map .int)) (.lst []) = some (.bl (!s.isEmpty))
  | [] => rfl
  | i :: s => by
    unfold gNe
    have : dle 8 (.lst ((i :: s).map .int)) = true := by
      unfold dle
      exact dlesI 7 (i :: s)
    rw [this]
    rfl
theorem itemAt_map : ∀ (s : List Int) (k : Nat) (h : k < s.length), itemAt (s.map .int) k = some (.int s[k])
  | x :: s, 0, h => rfl
  | x :: s, k + 1, h => itemAt_map s k (Nat.lt_of_succ_lt_succ h)
theorem ixL_ok (h : Hv) (s : List Int) {k : Int} (h1 : 0 ≤ k) (h2 : k < (s.length : Nat)) : ∃ t, gIx h (.lst (s.map .int)) (.int k) = some (.int t) := by
  obtain ⟨m, rfl⟩ := Int.eq_ofNat_of_zero_le h1
  have hm : m < s.length := by omega
  refine ⟨s[m], ?_⟩
  show itemI (s.map .int) _ = _
  unfold itemI
  rw [List.length_map, natIx_nat hm]
  exact itemAt_map s m hm
theorem leave_int (n : Nat) (i : Int) (h : Hv) : leave n (.int i) h = some (.int i, h.take n) := rfl
/-- the entry that is read -/
noncomputable def eDraw : EM := (xIf (tV (xVV (xIx (xV 0) (xC (.int 0))) (xLst aNil) gNe)) (xIx (xIx (xV 0) (xC (.int 0))) (xMod (xU (xV 3) gInt) (xU (xIx (xV 0) (xC (.int 0))) gLen))) (xC (.int 513)))
theorem b_draw : b__law_draw = (sSeq (sIx (xV 0) (xC (.int 3)) (xAdd (xIx (xV 0) (xC (.int 3))) (xC (.int 1)))) (sSeq (sIf (tV (xGt (xIx (xV 0) (xC (.int 2))) (xC (.int 0)))) (sSeq (sSet 2 (xMod (xU (xIx (xV 0) (xC (.int 2))) gInt) (xV 1))) (sSeq (sIx (xV 0) (xC (.int 2)) (xDiv (xIx (xV 0) (xC (.int 2))) (xV 1))) (sRet (xV 2)))) sNil) (sSeq (sSet 3 (xIx (xV 0) (xC (.int 1)))) (sSeq (sIx (xV 0) (xC (.int 1)) (xAdd (xV 3) (xC (.int 1)))) (sSeq (sSet 4 eDraw) (sSeq (sIf (tAnd (tV (xGe (xV 4) (xPow (xC (.int 10)) (xC (.int 18))))) (tV (xLt (xV 3) (xU (xIx (xV 0) (xC (.int 0))) gLen)))) (sSeq (sIx (xV 0) (xC (.int 2)) (xDiv (xV 4) (xV 1))) (sRet (xMod (xU (xV 4) gInt) (xV 1)))) sNil) (sSeq (sSet 5 (xMod (xU (xPow (xAdd (xAdd (xMod (xU (xV 4) gInt) (xC (.int 1999986491))) (xMul (xC (.int 35165)) (xIx (xV 0) (xC (.int 3))))) (xC (.int 929))) (xC (.int 3))) gInt) (xC (.int 2147473549)))) (sSeq (sSet 5 (xMod (xU (xPow (xAdd (xAdd (xV 5) (xMul (xMul (xC (.int 23089)) (xIx (xV 0) (xC (.int 3)))) (xIx (xV 0) (xC (.int 3))))) (xC (.int 871))) (xC (.int 5))) gInt) (xC (.int 2147473421)))) (sRet (xMod (xU (xDiv (xV 5) (xC (.int 64))) gInt) (xV 1))))))))))) := rfl
theorem draw_ok {c : Int} {v : List Va} (F : Fd c v) (hc : c + 1 < 1000) {n : Int} (h0 : 0 < n) (h1 : n < 1073741824) (H : Hv) :
    ∃ k v', 0 ≤ k ∧ k < n ∧ Fd (c + 1) v' ∧ f__law_draw [.ref 0, .int n] (.lst v :: H) = some (.int k, .lst v' :: H) := by
  obtain ⟨s, a, r, rfl, hs, ha, hr⟩ := F.ex
  have hp := F.pos
  by_cases q : 0 < r
  · refine ⟨r % n, [.lst (s.map .int), .int a, .int (r / n), .int (c + 1)], Int.emod_nonneg _ (by omega), Int.emod_lt_of_pos _ h0, ⟨⟨s, a, r / n, rfl, hs, ha, Int.ediv_nonneg hr (by omega)⟩, by omega, hc⟩, ?_⟩
    simp [f__law_draw, b_draw, fn, sSeq, sSet, sPar, sIf, sRet, sNil, sExpr, tV, tAnd, tOr, tNot, xAnd, xOr, xNot, xIf, xII, xVV, xVH, xU, xC, xV, xTup, xLst, aCons, aNil, xCall, xCallZ, still, noL, noLs, nth_0, nth_s, entry, somes, List.replicate, leave, Nat.beq, ixF0, ixF1, ixF2, ixF3, putF1, putF2, putF3, sIx, add_ok, mod_ok _ h0, div_ok _ h0 h1, gt_ok, q, int_ok, leave_int]
  · have key : ∃ w, eDraw [some (.ref 0), some (.int n), none, some (.int a), none, none] (.lst [.lst (s.map .int), .int (a + 1), .int r, .int (c + 1)] :: H) = some (.int w, .lst [.lst (s.map .int), .int (a + 1), .int r, .int (c + 1)] :: H) := by
      have e0 : allP [] = true := rfl
      have e1 : short 1000000 ([] : List Va) = true := rfl
      rcases Nat.eq_zero_or_pos s.length with z | z
      · have : s = [] := List.length_eq_zero_iff.mp z
        subst this
        exact ⟨513, by simp only [eDraw, fn, sSeq, sSet, sPar, sIf, sRet, sNil, sExpr, tV, tAnd, tOr, tNot, xAnd, xOr, xNot, xIf, xII, xVV, xVH, xU, xC, xV, xTup, xLst, aCons, aNil, xCall, xCallZ, still, noL, noLs, nth_0, nth_s, entry, somes, List.replicate, leave, ixF0, e0, e1, neE_ok, List.isEmpty_nil, Bool.not_true]⟩
      · obtain ⟨t, et⟩ := ixL_ok (.lst [.lst (s.map .int), .int (a + 1), .int r, .int (c + 1)] :: H) s (k := a % (s.length : Nat)) (Int.emod_nonneg _ (by omega)) (Int.emod_lt_of_pos _ (by omega))
        have ne : s.isEmpty = false := by
          cases s with
          | nil => cases z
          | cons _ _ => rfl
        refine ⟨t, ?_⟩
        have hz : (0 : Int) < (s.length : Nat) := by omega
        simp only [eDraw, fn, sSeq, sSet, sPar, sIf, sRet, sNil, sExpr, tV, tAnd, tOr, tNot, xAnd, xOr, xNot, xIf, xII, xVV, xVH, xU, xC, xV, xTup, xLst, aCons, aNil, xCall, xCallZ, still, noL, noLs, nth_0, nth_s, entry, somes, List.replicate, leave, ixF0, e0, e1, neE_ok, ne, Bool.not_false, lenL_ok, int_ok, mod_ok _ hz, et]
    obtain ⟨w, ew⟩ := key
    have w1 := Int.emod_nonneg w (b := 1999986491) (by omega)
    have w2 := Int.emod_lt_of_pos w (b := 1999986491) (by omega)
    have a1 : small64 (w % 1999986491 + 35165 * (c + 1) + 929) = true := small_of (by omega) (by omega)
    have b1 : small64 35165 = true := rfl
    have b2 : small64 23089 = true := rfl
    have b3 : small64 (23089 * (c + 1)) = true := small_of (by omega) (by omega)
    have a2 : ∀ z : Int, small64 (z % 2147473549 + 23089 * (c + 1) * (c + 1) + 871) = true := fun z => by
      have z1 := Int.emod_nonneg z (b := 2147473549) (by omega)
      have z2 := Int.emod_lt_of_pos z (b := 2147473549) (by omega)
      have g1 : (0 : Int) ≤ 23089 * (c + 1) * (c + 1) := Int.mul_nonneg (by omega) (by omega)
      have g2 : 23089 * (c + 1) * (c + 1) ≤ (23089 * 1000) * 1000 := Int.mul_le_mul (by omega) (by omega) (by omega) (by omega)
      exact small_of (by omega) (by omega)
    have m1 : (0 : Int) < 1999986491 := by omega
    have m2 : (0 : Int) < 2147473549 := by omega
    have m3 : (0 : Int) < 2147473421 := by omega
    have m4 : (0 : Int) < 64 := by omega
    have m5 : (64 : Int) < 1073741824 := by omega
    by_cases q1 : 1000000000000000000 ≤ w
    · by_cases q2 : a < (s.length : Nat)
      · refine ⟨w % n, [.lst (s.map .int), .int (a + 1), .int (w / n), .int (c + 1)], Int.emod_nonneg _ (by omega), Int.emod_lt_of_pos _ h0, ⟨⟨s, a + 1, w / n, rfl, hs, by omega, Int.ediv_nonneg (by omega) (by omega)⟩, by omega, hc⟩, ?_⟩
        simp [f__law_draw, b_draw, fn, sSeq, sSet, sPar, sIf, sRet, sNil, sExpr, tV, tAnd, tOr, tNot, xAnd, xOr, xNot, xII, xVV, xVH, xU, xC, xV, xTup, xLst, aCons, aNil, xCall, xCallZ, still, noL, noLs, nth_0, nth_s, entry, somes, List.replicate, leave, Nat.beq, ixF0, ixF1, ixF2, ixF3, putF1, putF2, putF3, sIx, add_ok, mod_ok _ h0, div_ok _ h0 h1, gt_ok, ge_ok, lt_ok, q, q1, q2, int_ok, leave_int, ew, pow_18, lenL_ok]
      · refine ⟨(((w % 1999986491 + 35165 * (c + 1) + 929) ^ 3 % 2147473549 + 23089 * (c + 1) * (c + 1) + 871) ^ 5 % 2147473421) / 64 % n, [.lst (s.map .int), .int (a + 1), .int r, .int (c + 1)], Int.emod_nonneg _ (by omega), Int.emod_lt_of_pos _ h0, ⟨⟨s, a + 1, r, rfl, hs, by omega, hr⟩, by omega, hc⟩, ?_⟩
        simp [f__law_draw, b_draw, fn, sSeq, sSet, sPar, sIf, sRet, sNil, sExpr, tV, tAnd, tOr, tNot, xAnd, xOr, xNot, xII, xVV, xVH, xU, xC, xV, xTup, xLst, aCons, aNil, xCall, xCallZ, still, noL, noLs, nth_0, nth_s, entry, somes, List.replicate, leave, Nat.beq, ixF0, ixF1, ixF2, ixF3, putF1, putF2, putF3, sIx, add_ok, mod_ok _ h0, mod_ok _ m1, mod_ok _ m2, mod_ok _ m3, div_ok _ m4 m5, mul_ok _ b1, mul_ok _ b2, mul_ok _ b3, pow_3 a1, pow_5 (a2 _), gt_ok, ge_ok, lt_ok, q, q1, q2, int_ok, leave_int, ew, pow_18, lenL_ok]
    · refine ⟨(((w % 1999986491 + 35165 * (c + 1) + 929) ^ 3 % 2147473549 + 23089 * (c + 1) * (c + 1) + 871) ^ 5 % 2147473421) / 64 % n, [.lst (s.map .int), .int (a + 1), .int r, .int (c + 1)], Int.emod_nonneg _ (by omega), Int.emod_lt_of_pos _ h0, ⟨⟨s, a + 1, r, rfl, hs, by omega, hr⟩, by omega, hc⟩, ?_⟩
      simp [f__law_draw, b_draw, fn, sSeq, sSet, sPar, sIf, sRet, sNil, sExpr, tV, tAnd, tOr, tNot, xAnd, xOr, xNot, xII, xVV, xVH, xU, xC, xV, xTup, xLst, aCons, aNil, xCall, xCallZ, still, noL, noLs, nth_0, nth_s, entry, somes, List.replicate, leave, Nat.beq, ixF0, ixF1, ixF2, ixF3, putF1, putF2, putF3, sIx, add_ok, mod_ok _ h0, mod_ok _ m1, mod_ok _ m2, mod_ok _ m3, div_ok _ m4 m5, mul_ok _ b1, mul_ok _ b2, mul_ok _ b3, pow_3 a1, pow_5 (a2 _), gt_ok, ge_ok, lt_ok, q, q1, int_ok, leave_int, ew, pow_18, lenL_ok]
end EvP
end
section
set_option Elab.async false
set_option linter.all false
set_option maxRecDepth 100000
set_option maxHeartbeats 4000000
/-! PlI: the source, an order, a pattern: what they may be. -/
namespace EvP
open Ev
open PySem (Str)
theorem source_ok (ns : List Int) (h : ns.length ≤ 63) : ∃ v, Fd 0 v ∧ f__law_source [.lst (ns.map .int)] [] = some (.ref 0, [.lst v]) := by
  refine ⟨[.lst (ns.map .int), .int 0, .int 0, .int 0], ⟨⟨ns, 0, 0, rfl, h, by omega, by omega⟩, by omega, by omega⟩, ?_⟩
  have e : cut (ns.map .int) none (some 63) = ns.map Va.int := by
    unfold cut
    show ((ns.map Va.int).drop 0).take (sEnd (ns.map Va.int).length (Int.ofNat 63) - 0) = _
    rw [List.drop_zero, Nat.sub_zero]
    unfold sEnd
    dsimp only
    split
    · rename_i q
      exact List.take_of_length_le (by rw [List.length_map]; omega)
    · exact List.take_of_length_le (by omega)
  have s : ∀ a b c d : Va, short 1000000 [a, b, c, d] = true := fun _ _ _ _ => rfl
  simp [f__law_source, b__law_source, fnK, sRet, xNewL, aCons, aNil, xSl, ends, xV, xC, entry, somes, nth_0, nth_s, e, allP, isP, s, Nat.beq]
theorem ixN_ok (h : Hv) {L : List Nat} {m : Nat} (hm : m < L.length) : gIx h (.lst (intsOf L)) (.int ((m : Nat) : Int)) = some (.int ((L.getD m 0 : Nat) : Int)) := ix_pv hm h
theorem lenN_ok (h : Hv) (L : List Nat) : gLen h (.lst (intsOf L)) = some (.int ((L.length : Nat) : Int)) := by
  show some (Va.int (((intsOf L).length : Nat) : Int)) = _
  rw [ints_len]
noncomputable def oBody : SM := (sSeq (sSet 5 (xIx (xV 2) (xCall f__law_draw (aCons (xV 0) (aCons (xU (xV 2) gLen) aNil)) []))) (sSeq (sSet 2 (xLC [6] (iVal (xV 2)) (bN 6) (tV (xVV (xV 6) (xV 5) gNe)) (xV 6))) (sApp (xV 3) (xV 5))))
theorem b_order : b__law_order = (sSeq (sPar 2 3 (xLstRg (xC (.int 0)) (xV 1)) (xNewL aNil)) (sSeq (sFor (iR1 (xV 1)) (bN 4) oBody) (sRet (xV 3)))) := rfl
/-- the orders that can come -/
def ords : Nat → List Nat → List Nat → List (List Nat)
  | 0, _, f => [f]
  | m + 1, L, f => L.flatMap fun x => ords m (L.filter fun y => !Nat.beq y x) (f ++ [x])
theorem order_step {c : Int} {v : List Va} (F : Fd c v) (hc : c + 1 < 1000) {L f : List Nat} (hL : 0 < L.length) (hL2 : L.length < 1000) (hf : f.length < 1000) (n : Va) (C : Cell) (a4 a5 : Option Va) :
    ∃ x ∈ L, ∃ v', Fd (c + 1) v' ∧ oBody [some (.ref 0), some n, some (.lst (intsOf L)), some (.ref 2), a4, a5, none] [.lst v, C, .lst (intsOf f)] = some (.nx [some (.ref 0), some n, some (.lst (intsOf (L.filter fun y => !Nat.beq y x))), some (.ref 2), a4, some (.int ((x : Nat) : Int)), none] [.lst v', C, .lst (intsOf (f ++ [x]))]) := by
  obtain ⟨k, v', h0, h1, F', e⟩ := draw_ok F hc (n := (L.length : Nat)) (by omega) (by omega) [C, .lst (intsOf f)]
  obtain ⟨m, rfl⟩ := Int.eq_ofNat_of_zero_le h0
  have hm : m < L.length := by omega
  have gx : L.getD m 0 = L[m] := by simp [hm]
  refine ⟨L[m], List.getElem_mem hm, v', F', ?_⟩
  have i1 := ixN_ok [.lst v', C, .lst (intsOf f)] hm
  rw [gx] at i1
  generalize L[m] = x at i1
  have lc : lcGo [6] (bN 6) (tV (xVV (xV 6) (xV 5) gNe)) (xV 6) [some (.ref 0), some n, some (.lst (intsOf L)), some (.ref 2), a4, some (.int ((x : Nat) : Int)), none] (intsOf L) [.lst v', C, .lst (intsOf f)] = some (intsOf (L.filter fun y => !Nat.beq y x), [.lst v', C, .lst (intsOf f)]) := by
    have h := lc_pure (i := 6) (tt := (tV (xVV (xV 6) (xV 5) gNe))) (el := (xV 6)) (σ := [some (.ref 0), some n, some (.lst (intsOf L)), some (.ref 2), a4, some (.int ((x : Nat) : Int)), none]) (h := [.lst v', C, .lst (intsOf f)]) (fun k : Nat => Va.int ((k : Nat) : Int)) (fun y => !Nat.beq y x) (fun k : Nat => Va.int ((k : Nat) : Int)) L (fun y hy => ?_) (fun y hy _ => ⟨rfl, rfl⟩)
    · exact h
    · show tV _ [some (.ref 0), some n, some (.lst (intsOf L)), some (.ref 2), a4, some (.int ((x : Nat) : Int)), some (.int ((y : Nat) : Int))] _ = _
      have e3 : (decide (((y : Nat) : Int) = ((x : Nat) : Int))) = Nat.beq y x := by
        rw [Bool.eq_iff_iff, decide_eq_true_iff, Nat.beq_eq]
        omega
      simp only [tV, xVV, xV, nth_0, nth_s, ne_int, e3]
  have sL : short 1000000 (intsOf L) = true := by rw [short_iff, ints_len]; exact decide_eq_true (by omega)
  have sf : short 1000000 (intsOf f) = true := by rw [short_iff, ints_len]; exact decide_eq_true (by omega)
  have ef : intsOf f ++ [.int ((x : Nat) : Int)] = intsOf (f ++ [x]) := by simp [intsOf]
  simp only [oBody, xLC, fn, sSeq, sSet, sPar, sIf, sRet, sNil, sExpr, tV, tAnd, tOr, tNot, xAnd, xOr, xNot, xIf, xII, xVV, xVH, xU, xC, xV, xTup, xLst, aCons, aNil, xCall, xCallZ, still, noL, noLs, nth_0, nth_s, entry, somes, List.replicate, leave, lenN_ok, List.append_nil, e, i1, List.set, iVal, lc, sL, sApp, isL, cellAt, isP, sf, setC, ef]
theorem order_loop (n : Va) (C : Cell) : ∀ (xs : List Va) {c : Int} {v : List Va} {L f : List Nat} (a4 a5 : Option Va), Fd c v → c + (xs.length : Nat) < 1000 → L.Nodup → L.length = xs.length → L.length < 500 → f.length + xs.length < 500 →
    ∃ r ∈ ords xs.length L f, ∃ v' a2 b4 b5, Fd (c + (xs.length : Nat)) v' ∧ forGo (bN 4) oBody xs [some (.ref 0), some n, some (.lst (intsOf L)), some (.ref 2), a4, a5, none] [.lst v, C, .lst (intsOf f)] = some (.nx [some (.ref 0), some n, a2, some (.ref 2), b4, b5, none] [.lst v', C, .lst (intsOf r)])
  | [], c, v, L, f, a4, a5, F, _, _, _, _, _ => by
    refine ⟨f, by simp [ords], v, some (.lst (intsOf L)), a4, a5, ?_, rfl⟩
    have : c + (([] : List Va).length : Nat) = c := by simp
    rw [this]
    exact F
  | x :: xs, c, v, L, f, a4, a5, F, hc, hN, hL, h5, h6 => by
    rw [List.length_cons] at hc hL h6
    obtain ⟨y, hy, v1, F1, e⟩ := order_step F (by omega) (L := L) (f := f) (by omega) (by omega) (by omega) n C (some x) a5
    have ee : (L.filter fun z => !Nat.beq z y) = L.erase y := by
      rw [hN.erase_eq_filter]
      refine List.filter_congr fun z _ => ?_
      have : Nat.beq z y = (z == y) := by rw [Bool.eq_iff_iff, Nat.beq_eq, beq_iff_eq]
      rw [this]
      rfl
    obtain ⟨r, hr, v2, a2, b4, b5, F2, e2⟩ := order_loop n C xs (c := c + 1) (v := v1) (L := L.filter fun z => !Nat.beq z y) (f := f ++ [y]) (some x) (some (.int ((y : Nat) : Int))) F1 (by omega) (by rw [ee]; exact hN.erase y) (by rw [ee, List.length_erase_of_mem hy]; omega) (by rw [ee, List.length_erase_of_mem hy]; omega) (by rw [List.length_append, List.length_singleton]; omega)
    refine ⟨r, ?_, v2, a2, b4, b5, ?_, ?_⟩
    · rw [List.length_cons]
      unfold ords
      exact List.mem_flatMap.mpr ⟨y, hy, hr⟩
    · have : c + ((x :: xs).length : Nat) = c + 1 + (xs.length : Nat) := by rw [List.length_cons]; omega
      rw [this]
      exact F2
    · unfold forGo
      show (match oBody [some (.ref 0), some n, some (.lst (intsOf L)), some (.ref 2), some x, a5, none] [.lst v, C, .lst (intsOf f)] with | some (.nx σ2 h2) => forGo (bN 4) oBody xs σ2 h2 | r => r) = _
      rw [e]
      exact e2
theorem range_ints (n : Nat) : ((List.range n).map fun k => Va.int ((k : Nat) : Int)) = intsOf (List.range n) := rfl
theorem order_made {c : Int} {v : List Va} (F : Fd c v) {n : Nat} (hn : n < 400) (hc : c + (n : Nat) < 1000) (C : Cell) :
    ∃ r ∈ ords n (List.range n) [], ∃ v', Fd (c + (n : Nat)) v' ∧ f__law_order [.ref 0, .int (n : Nat)] [.lst v, C] = some (.lst (intsOf r), [.lst v', C]) := by
  have el : ((List.range n).map fun k => Va.int ((k : Nat) : Int)).length = n := by rw [List.length_map, List.length_range]
  obtain ⟨r, hr, v', a2, b4, b5, F', e⟩ := order_loop (.int (n : Nat)) C ((List.range n).map fun k => Va.int ((k : Nat) : Int)) (L := List.range n) (f := []) none none F (by rw [el]; exact hc) List.nodup_range (by rw [el, List.length_range]) (by rw [List.length_range]; omega) (by rw [el]; simp; omega)
  rw [el] at hr F'
  refine ⟨r, hr, v', F', ?_⟩
  have rg := rng_nat (n := n) (by omega)
  have e0 : allP [] = true := rfl
  have e1 : short 1000000 ([] : List Va) = true := rfl
  have e2 : intsOf [] = [] := rfl
  rw [e2] at e
  rw [range_ints] at rg e
  simp [f__law_order, b_order, fn, sSeq, sSet, sPar, sIf, sRet, sNil, sExpr, tV, tAnd, tOr, tNot, xAnd, xOr, xNot, xIf, xII, xVV, xVH, xU, xC, xV, xTup, xLst, aCons, aNil, xCall, xCallZ, still, noL, noLs, nth_0, nth_s, entry, somes, List.replicate, leave, xLstRg, rg, xNewL, e0, e1, sFor, iR1, e, Nat.beq, cellAt, Nat.blt, Nat.ble]
/-! ### a pattern -/
noncomputable def pBody : SM := (sIf (tV (xVV (xV 4) (xV 3) gEq)) (sApp (xV 2) (xMul (xV 1) (xCall f__law_draw (aCons (xV 0) (aCons (xC (.int 2)) aNil)) []))) (sApp (xV 2) (xMod (xU (xSub (xV 4) (xV 3)) gInt) (xV 1))))
theorem b_pattern : b__law_pattern = (sSeq (sSet 2 (xNewL aNil)) (sSeq (sFor (iEnum (xCall f__law_order (aCons (xV 0) (aCons (xV 1) aNil)) [])) (bT [3, 4]) pBody) (sRet (xU (xV 2) gTupOf)))) := rfl
def pts (n : Nat) : Nat → List Nat → List (List Nat) → List (List Nat)
  | _, [], acc => acc
  | k, x :: xs, acc => pts n (k + 1) xs (match Nat.beq x k with
    | true => (acc.map fun w => w ++ [0]) ++ (acc.map fun w => w ++ [n])
    | false => acc.map fun w => w ++ [(x + n - k) % n])
theorem pat_step {c : Int} {v : List Va} (F : Fd c v) (hc : c + 1 < 1000) {n k x : Nat} (hn : 0 < n) (hn2 : n < 1000) (hk : k < n) (hx : x < n) {w : List Nat} (hw : w.length < 1000) (a3 a4 : Option Va) :
    ∃ y c' v', Fd c' v' ∧ c' ≤ c + 1 ∧ (w ++ [y]) ∈ pts n k [x] [w] ∧ pBody [some (.ref 0), some (.int ((n : Nat) : Int)), some (.ref 1), some (.int ((k : Nat) : Int)), some (.int ((x : Nat) : Int))] [.lst v, .lst (intsOf w)] = some (.nx [some (.ref 0), some (.int ((n : Nat) : Int)), some (.ref 1), some (.int ((k : Nat) : Int)), some (.int ((x : Nat) : Int))] [.lst v', .lst (intsOf (w ++ [y]))]) := by
  have sw : short 1000000 (intsOf w) = true := by rw [short_iff, ints_len]; exact decide_eq_true (by omega)
  have ew : ∀ y : Nat, intsOf w ++ [.int ((y : Nat) : Int)] = intsOf (w ++ [y]) := fun y => by simp [intsOf]
  have e3 : (decide (((x : Nat) : Int) = ((k : Nat) : Int))) = Nat.beq x k := by
    rw [Bool.eq_iff_iff, decide_eq_true_iff, Nat.beq_eq]
    omega
  have hn0 : (0 : Int) < ((n : Nat) : Int) := by omega
  cases q : Nat.beq x k with
  | true =>
    obtain ⟨z, v', h0, h1, F', e⟩ := draw_ok F hc (n := 2) (by omega) (by omega) [.lst (intsOf w)]
    obtain ⟨m, rfl⟩ := Int.eq_ofNat_of_zero_le h0
    have sn : small64 ((n : Nat) : Int) = true := small_of (by omega) (by omega)
    have em : ((n : Nat) : Int) * ((m : Nat) : Int) = ((n * m : Nat) : Int) := by rw [Int.natCast_mul]
    refine ⟨n * m, c + 1, v', F', by omega, ?_, ?_⟩
    · unfold pts pts
      rw [q]
      have : m = 0 ∨ m = 1 := by omega
      rcases this with rfl | rfl <;> simp
    · simp only [pBody, fn, sSeq, sSet, sPar, sIf, sRet, sNil, sExpr, tV, tAnd, tOr, tNot, xAnd, xOr, xNot, xIf, xII, xVV, xVH, xU, xC, xV, xTup, xLst, aCons, aNil, xCall, xCallZ, still, noL, noLs, nth_0, nth_s, entry, somes, List.replicate, leave, eq_int, e3, q, sApp, isL, cellAt, List.append_nil, e, mul_ok _ sn, isP, sw, setC, em, ew]
  | false =>
    have hm : (((x : Nat) : Int) - ((k : Nat) : Int)) % ((n : Nat) : Int) = (((x + n - k) % n : Nat) : Int) := by
      have h2 : ((x + n - k : Nat) : Int) = (((x : Nat) : Int) - ((k : Nat) : Int)) + ((n : Nat) : Int) := by omega
      rw [Int.natCast_emod, h2, Int.add_emod_right]
    refine ⟨(x + n - k) % n, c, v, F, by omega, ?_, ?_⟩
    · unfold pts pts
      rw [q]
      simp
    · simp only [pBody, fn, sSeq, sSet, sPar, sIf, sRet, sNil, sExpr, tV, tAnd, tOr, tNot, xAnd, xOr, xNot, xIf, xII, xVV, xVH, xU, xC, xV, xTup, xLst, aCons, aNil, xCall, xCallZ, still, noL, noLs, nth_0, nth_s, entry, somes, List.replicate, leave, eq_int, e3, q, sApp, isL, cellAt, sub_ok, int_ok, mod_ok _ hn0, isP, sw, setC, hm, ew]
theorem pts_mono {n : Nat} : ∀ (xs : List Nat) (k : Nat) {A B : List (List Nat)}, (∀ w ∈ A, w ∈ B) → ∀ w ∈ pts n k xs A, w ∈ pts n k xs B
  | [], k, A, B, h, w, hw => h w hw
  | x :: xs, k, A, B, h, w, hw => by
    unfold pts at hw ⊢
    refine pts_mono xs (k + 1) (fun u hu => ?_) w hw
    cases q : Nat.beq x k with
    | true =>
      rw [q] at hu
      simp only [List.mem_append, List.mem_map] at hu ⊢
      rcases hu with ⟨z, hz, rfl⟩ | ⟨z, hz, rfl⟩
      · exact Or.inl ⟨z, h z hz, rfl⟩
      · exact Or.inr ⟨z, h z hz, rfl⟩
    | false =>
      rw [q] at hu
      simp only [List.mem_map] at hu ⊢
      obtain ⟨z, hz, rfl⟩ := hu
      exact ⟨z, h z hz, rfl⟩
theorem pat_loop {n : Nat} (hn : 0 < n) (hn2 : n < 1000) : ∀ (xs : List Nat) (k : Nat) {c : Int} {v : List Va} {w : List Nat} (a3 a4 : Option Va), Fd c v → c + (xs.length : Nat) < 1000 → k + xs.length ≤ n → (∀ x ∈ xs, x < n) → w.length + xs.length < 1000 →
    ∃ r ∈ pts n k xs [w], ∃ c' v' b3 b4, Fd c' v' ∧ c' ≤ c + (xs.length : Nat) ∧ forGo (bT [3, 4]) pBody (numb k (intsOf xs)) [some (.ref 0), some (.int ((n : Nat) : Int)), some (.ref 1), a3, a4] [.lst v, .lst (intsOf w)] = some (.nx [some (.ref 0), some (.int ((n : Nat) : Int)), some (.ref 1), b3, b4] [.lst v', .lst (intsOf r)])
  | [], k, c, v, w, a3, a4, F, _, _, _, _ => ⟨w, by simp [pts], c, v, a3, a4, F, by simp, rfl⟩
  | x :: xs, k, c, v, w, a3, a4, F, hc, hk, hx, hw => by
    rw [List.length_cons] at hc hk hw
    obtain ⟨y, c1, v1, F1, l1, m1, e1⟩ := pat_step F (by omega) hn hn2 (k := k) (x := x) (by omega) (hx x List.mem_cons_self) (w := w) (by omega) none none
    obtain ⟨r, hr, c2, v2, b3, b4, F2, l2, e2⟩ := pat_loop hn hn2 xs (k + 1) (w := w ++ [y]) (some (.int ((k : Nat) : Int))) (some (.int ((x : Nat) : Int))) F1 (by omega) (by omega) (fun z hz => hx z (List.mem_cons_of_mem _ hz)) (by rw [List.length_append, List.length_singleton]; omega)
    refine ⟨r, ?_, c2, v2, b3, b4, F2, by rw [List.length_cons]; omega, ?_⟩
    · have : pts n k (x :: xs) [w] = pts n (k + 1) xs (pts n k [x] [w]) := rfl
      rw [this]
      refine pts_mono xs (k + 1) (fun u hu => ?_) r hr
      rw [List.mem_singleton] at hu
      rw [hu]
      exact m1
    · show forGo _ _ (Va.tup [.int ((k : Nat) : Int), .int ((x : Nat) : Int)] :: numb (k + 1) (intsOf xs)) _ _ = _
      unfold forGo
      show (match pBody [some (.ref 0), some (.int ((n : Nat) : Int)), some (.ref 1), some (.int ((k : Nat) : Int)), some (.int ((x : Nat) : Int))] [.lst v, .lst (intsOf w)] with | some (.nx σ2 h2) => forGo (bT [3, 4]) pBody (numb (k + 1) (intsOf xs)) σ2 h2 | r => r) = _
      rw [e1]
      exact e2
theorem ords_mem : ∀ (m : Nat) {L f r : List Nat}, r ∈ ords m L f → r.length = f.length + m ∧ ∀ x ∈ r, x ∈ f ∨ x ∈ L
  | 0, L, f, r, h => by
    unfold ords at h
    rw [List.mem_singleton] at h
    subst h
    exact ⟨rfl, fun x hx => Or.inl hx⟩
  | m + 1, L, f, r, h => by
    unfold ords at h
    obtain ⟨y, hy, hr⟩ := List.mem_flatMap.mp h
    obtain ⟨h1, h2⟩ := ords_mem m hr
    rw [List.length_append, List.length_singleton] at h1
    refine ⟨by omega, fun x hx => ?_⟩
    rcases h2 x hx with q | q
    · rcases List.mem_append.mp q with q | q
      · exact Or.inl q
      · rw [List.mem_singleton] at q
        subst q
        exact Or.inr hy
    · exact Or.inr ((List.mem_filter.mp q).1)
/-- the patterns that can come -/
def pats (n : Nat) : List (List Nat) := (ords n (List.range n) []).flatMap fun r => pts n 0 r [[]]
theorem pattern_made {c : Int} {v : List Va} (F : Fd c v) {n : Nat} (hn : 0 < n) (hn2 : n < 200) (hc : c + 2 * (n : Nat) < 1000) :
    ∃ p ∈ pats n, ∃ c' v', Fd c' v' ∧ c' ≤ c + 2 * (n : Nat) ∧ f__law_pattern [.ref 0, .int (n : Nat)] [.lst v] = some (pv p, [.lst v']) := by
  obtain ⟨o, ho, v1, F1, e1⟩ := order_made F (n := n) (by omega) (by omega) (.lst [])
  obtain ⟨h1, h2⟩ := ords_mem n ho
  rw [List.length_nil, Nat.zero_add] at h1
  obtain ⟨r, hr, c2, v2, b3, b4, F2, l2, e2⟩ := pat_loop hn (by omega) o 0 (w := []) none none F1 (by omega) (by omega) (fun x hx => by
    rcases h2 x hx with q | q
    · cases q
    · exact List.mem_range.mp q) (by rw [List.length_nil]; omega)
  refine ⟨r, List.mem_flatMap.mpr ⟨o, ho, hr⟩, c2, v2, F2, by omega, ?_⟩
  have e0 : allP [] = true := rfl
  have es : short 1000000 ([] : List Va) = true := rfl
  have ei : intsOf [] = [] := rfl
  rw [ei] at e2
  have el : ∀ h : Hv, leave 1 (.tup (intsOf r)) h = some (.tup (intsOf r), h.take 1) := fun _ => rfl
  simp [f__law_pattern, b_pattern, fn, sSeq, sSet, sPar, sIf, sRet, sNil, sExpr, tV, tAnd, tOr, tNot, xAnd, xOr, xNot, xIf, xII, xVV, xVH, xU, xC, xV, xTup, xLst, aCons, aNil, xCall, xCallZ, still, noL, noLs, nth_0, nth_s, entry, somes, List.replicate, xNewL, e0, es, sFor, iEnum, e1, e2, Nat.beq, gTupOf, itemsOf, cellAt, el, pv]
end EvP
end
section
set_option Elab.async false
set_option linter.all false
set_option maxRecDepth 100000
set_option maxHeartbeats 4000000
/-! PlJ: the law's own steps. -/
namespace EvP
open Ev
open PySem (Str)
noncomputable def lBody : SM := (sSeq (sSet 6 (xCallZ f__law_lowering (aCons (xV 4) aNil) [])) (sIf (tV (xVV (xV 6) (xTup aNil) gNe)) (sSeq (sUnp [7, 8] (xIx (xV 6) (xCall f__law_draw (aCons (xV 1) (aCons (xU (xV 6) gLen) aNil)) []))) (sSet 4 (xCallZ g__law_swapped (aCons (xV 4) (aCons (xV 7) (aCons (xV 8) aNil))) []))) sNil))
noncomputable def L0 : SM := (sSet 1 (xCall f__law_source (aCons (xV 0) aNil) []))
noncomputable def L1 : SM := (sSet 2 (xAdd (xC (.int 2)) (xCall f__law_draw (aCons (xV 1) (aCons (xC (.int 4)) aNil)) [])))
noncomputable def L2 : SM := (sSet 3 (xCall f__law_pattern (aCons (xV 1) (aCons (xV 2) aNil)) []))
noncomputable def L3 : SM := (sSet 4 (xV 3))
noncomputable def L4 : SM := (sFor (iR1 (xCall f__law_draw (aCons (xV 1) (aCons (xC (.int 5)) aNil)) [])) (bN 5) lBody)
noncomputable def L5 : SM := (sIf (tOr (tV (xVV (xCallZ f_lowering_swaps (aCons (xV 3) aNil) []) (xCallZ f__law_lowering (aCons (xV 3) aNil) []) gNe)) (tV (xVV (xCallZ f_depth_of (aCons (xV 4) aNil) []) (xCallZ f__law_depth (aCons (xV 4) aNil) []) gNe))) (sRet (xC (.bl false))) sNil)
noncomputable def L6 : SM := (sIf (tV (xVV (xCallZ f__law_lowering (aCons (xV 3) aNil) []) (xTup aNil) gNe)) (sSeq (sUnp [7, 8] (xIx (xCallZ f__law_lowering (aCons (xV 3) aNil) []) (xC (.int 0)))) (sIf (tV (xVV (xCallZ f_swapped (aCons (xV 3) (aCons (xV 7) (aCons (xV 8) aNil))) []) (xCallZ g__law_swapped (aCons (xV 3) (aCons (xV 7) (aCons (xV 8) aNil))) []) gNe)) (sRet (xC (.bl false))) sNil)) sNil)
noncomputable def L7 : SM := (sIf (tOr (tNot (tV (xCallZ f__law_order_right (aCons (xV 4) (aCons (xV 3) aNil)) []))) (tV (xVV (xCallZ f_lies_below (aCons (xV 4) (aCons (xV 3) aNil)) []) (xC (.bl true)) gNotB))) (sRet (xC (.bl false))) sNil)
noncomputable def L8 : SM := (sSet 9 (xCall f__law_pattern (aCons (xV 1) (aCons (xV 2) aNil)) []))
noncomputable def L9 : SM := (sIf (tAnd (tV (xVV (xU (xV 9) gSum) (xU (xV 3) gSum) gEq)) (tNot (tV (xCallZ f__law_order_right (aCons (xV 9) (aCons (xV 3) aNil)) [])))) (sRet (xC (.bl false))) sNil)
noncomputable def L10 : SM := (sRet (xAnd (xVV (xMul (xCallZ f_balls_of (aCons (xV 3) aNil) []) (xV 2)) (xU (xV 3) gSum) gEq) (xCall f__law_counts_right (aCons (xV 1) aNil) [])))
theorem b_law_eq : b_law = (sSeq L0 (sSeq L1 (sSeq L2 (sSeq L3 (sSeq L4 (sSeq L5 (sSeq L6 (sSeq L7 (sSeq L8 (sSeq L9 L10)))))))))) := rfl
theorem prs_len (u : List (Int × Int)) : (u.map prV).length = u.length := List.length_map _
theorem lenP_ok (h : Hv) (u : List (Int × Int)) : gLen h (.tup (u.map prV)) = some (.int ((u.length : Nat) : Int)) := by
  show some (Va.int (((u.map prV).length : Nat) : Int)) = _
  rw [List.length_map]
theorem dlesP (k : Nat) : ∀ u : List (Int × Int), dles (k + 1) (u.map prV) = true
  | [] => rfl
  | c :: u => by
    rw [List.map_cons]
    unfold dles
    rw [dlesP k u]
    simp [prV, dle, dles]
theorem veqsP : ∀ u : List (Int × Int), veqs (u.map prV) (u.map prV) = true
  | [] => rfl
  | c :: u => by
    rw [List.map_cons]
    unfold veqs
    rw [veqsP u]
    simp [prV, veq, veqs, ieq_eq]
theorem ne_prs (u : List (Int × Int)) : gNe (.tup (u.map prV)) (.tup (u.map prV)) = some (.bl false) := by
  unfold gNe
  have h : dle 8 (.tup (u.map prV)) = true := by
    unfold dle
    exact dlesP 6 u
  have h2 : veq (.tup (u.map prV)) (.tup (u.map prV)) = true := by
    unfold veq
    exact veqsP u
  rw [h, h2]
  rfl
theorem ne_prs0 : ∀ u : List (Int × Int), gNe (.tup (u.map prV)) (.tup []) = some (.bl (!u.isEmpty))
  | [] => rfl
  | c :: u => by
    unfold gNe
    have h : dle 8 (.tup ((c :: u).map prV)) = true := by
      unfold dle
      exact dlesP 6 (c :: u)
    rw [h]
    rfl
theorem itemAtP : ∀ (u : List (Int × Int)) (k : Nat) (h : k < u.length), itemAt (u.map prV) k = some (prV u[k])
  | x :: u, 0, h => rfl
  | x :: u, k + 1, h => itemAtP u k (Nat.lt_of_succ_lt_succ h)
theorem ixP_ok (h : Hv) (u : List (Int × Int)) {m : Nat} (hm : m < u.length) : gIx h (.tup (u.map prV)) (.int ((m : Nat) : Int)) = some (prV u[m]) := by
  show itemI (u.map prV) _ = _
  unfold itemI
  rw [List.length_map, natIx_nat hm]
  exact itemAtP u m hm
theorem noL_prs (u : List (Int × Int)) : noL (.tup (u.map prV)) = true := by
  unfold noL
  exact noLs_prs u
theorem still_int (h : Hv) (i : Int) (vs : List Va) : still h (.int i :: vs) = (match still h vs with | some us => some (.int i :: us) | none => none) := rfl
theorem still_nil (h : Hv) : still h [] = some [] := rfl
theorem sum_pv (h : Hv) (p : List Nat) : gSum h (pv p) = some (.int ((p.sum : Nat) : Int)) := by
  have : ∀ q : List Nat, sumI (intsOf q) = some ((q.sum : Nat) : Int) := by
    intro q
    induction q with
    | nil => rfl
    | cons x q ih =>
      show (match sumI (intsOf q) with | some n => some (((x : Nat) : Int) + n) | none => none) = _
      rw [ih, List.sum_cons]
      rfl
  show (match sumI (intsOf p) with | some n => some (Va.int n) | none => none) = _
  rw [this]
section
variable {n b : Nat} {C : List En} (K : Cls n b C)
include K
/-- one lap: a lowering swap, if there is one -/
theorem lap_ok {c : Int} {v : List Va} (F : Fd c v) (hc : c + 1 < 1000) {e : En} (he : e ∈ C) (a0 a2 a3 a5 a6 a7 a8 : Option Va) :
    ∃ e' ∈ C, barN e'.p e.p = none ∧ ∃ c' v' b6 b7 b8, Fd c' v' ∧ c' ≤ c + 1 ∧ lBody [a0, some (.ref 0), a2, a3, some (pv e.p), a5, a6, a7, a8, none] [.lst v] = some (.nx [a0, some (.ref 0), a2, a3, some (pv e'.p), a5, b6, b7, b8, none] [.lst v']) := by
  obtain ⟨u, hu, lo, _, sw, _⟩ := K.lower he
  cases q : u.isEmpty with
  | true =>
    refine ⟨e, he, below_refl _, c, v, some (.tup (u.map prV)), a7, a8, F, by omega, ?_⟩
    simp only [lBody, fn, sSeq, sSet, sPar, sIf, sRet, sNil, sExpr, tV, tAnd, tOr, tNot, xAnd, xOr, xNot, xIf, xII, xVV, xVH, xU, xC, xV, xTup, xLst, aCons, aNil, xCall, xCallZ, still, nth_0, nth_s, entry, somes, List.replicate, leave, List.append_nil, still_pv, still_nil, lo, noL_prs, List.set, ne_prs0, q, allP, short, Bool.not_true]
  | false =>
    have hu0 : 0 < u.length := by
      cases u with
      | nil => cases q
      | cons _ _ => simp
    obtain ⟨k, v', h0, h1, F', ed⟩ := draw_ok F hc (n := (u.length : Nat)) (by omega) (by omega) []
    obtain ⟨m, rfl⟩ := Int.eq_ofNat_of_zero_le h0
    have hm : m < u.length := by omega
    have ix := ixP_ok [.lst v'] u hm
    obtain ⟨e', he', e1, e2⟩ := sw u[m] (List.getElem_mem hm)
    refine ⟨e', he', e2, c + 1, v', some (.tup (u.map prV)), some (.int u[m].1), some (.int u[m].2), F', by omega, ?_⟩
    generalize u[m] = z at ix e1
    have e3 : ∀ σ : Sv, bT [7, 8] (prV z) σ = some ((σ.set 7 (some (.int z.1))).set 8 (some (.int z.2))) := fun _ => rfl
    simp only [lBody, fn, sSeq, sSet, sPar, sIf, sRet, sNil, sExpr, tV, tAnd, tOr, tNot, xAnd, xOr, xNot, xIf, xII, xVV, xVH, xU, xC, xV, xTup, xLst, aCons, aNil, xCall, xCallZ, still, nth_0, nth_s, entry, somes, List.replicate, leave, List.append_nil, still_pv, still_int, still_nil, lo, noL_prs, List.set, ne_prs0, q, allP, short, Bool.not_false, lenP_ok, ed, ix, sUnp, e3, e1, noL_pv]
theorem laps_ok {o : List Nat} (a0 a2 a3 : Option Va) : ∀ (xs : List Va) {c : Int} {v : List Va} {e : En} (a5 a6 a7 a8 : Option Va), Fd c v → c + (xs.length : Nat) < 1000 → e ∈ C → barN e.p o = none →
    ∃ e' ∈ C, barN e'.p o = none ∧ ∃ c' v' b5 b6 b7 b8, Fd c' v' ∧ c' ≤ c + (xs.length : Nat) ∧ forGo (bN 5) lBody xs [a0, some (.ref 0), a2, a3, some (pv e.p), a5, a6, a7, a8, none] [.lst v] = some (.nx [a0, some (.ref 0), a2, a3, some (pv e'.p), b5, b6, b7, b8, none] [.lst v'])
  | [], c, v, e, a5, a6, a7, a8, F, _, he, hb => ⟨e, he, hb, c, v, a5, a6, a7, a8, F, by simp, rfl⟩
  | x :: xs, c, v, e, a5, a6, a7, a8, F, hc, he, hb => by
    rw [List.length_cons] at hc
    obtain ⟨e1, h1, hb1, c1, v1, b6, b7, b8, F1, l1, q1⟩ := lap_ok K F (by omega) he a0 a2 a3 (some x) a6 a7 a8
    have len1 : e1.p.length = e.p.length := by rw [(K.one' h1).1.len, (K.one' he).1.len]
    obtain ⟨e2, h2, hb2, c2, v2, d5, d6, d7, d8, F2, l2, q2⟩ := laps_ok a0 a2 a3 xs (some x) b6 b7 b8 F1 (by omega) h1 (below_trans len1 hb1 hb)
    refine ⟨e2, h2, hb2, c2, v2, d5, d6, d7, d8, F2, by rw [List.length_cons]; omega, ?_⟩
    unfold forGo
    show (match lBody [a0, some (.ref 0), a2, a3, some (pv e.p), some x, a6, a7, a8, none] [.lst v] with | some (.nx σ2 h2) => forGo (bN 5) lBody xs σ2 h2 | r => r) = _
    rw [q1]
    exact q2
theorem five_ok {a e : En} (ha : a ∈ C) (he : e ∈ C) (a0 a1 a2 a5 a6 a7 a8 : Option Va) (H : Hv) : L5 [a0, a1, a2, some (pv a.p), some (pv e.p), a5, a6, a7, a8, none] H = some (.nx [a0, a1, a2, some (pv a.p), some (pv e.p), a5, a6, a7, a8, none] H) := by
  obtain ⟨u, _, lo, lo2, _⟩ := K.lower ha
  obtain ⟨_, de, de2, _⟩ := K.one' he
  have de1 : f__law_depth [pv e.p] [] = some (.int (e.d : Nat), []) := de
  have ni : ∀ i : Int, noL (.int i) = true := fun _ => rfl
  simp only [L5, fn, sSeq, sSet, sPar, sIf, sRet, sNil, sExpr, tV, tAnd, tOr, tNot, xAnd, xOr, xNot, xIf, xII, xVV, xVH, xU, xC, xV, xTup, xLst, aCons, aNil, xCall, xCallZ, still, nth_0, nth_s, entry, somes, List.replicate, leave, List.append_nil, still_pv, still_int, still_nil, lo, lo2, noL_prs, ne_prs, de1, de2, ni, ne_int, decide_true, Bool.not_true]
theorem six_ok {a e : En} (ha : a ∈ C) (he : e ∈ C) (a0 a1 a2 a5 a6 a7 a8 : Option Va) (H : Hv) : ∃ b7 b8, L6 [a0, a1, a2, some (pv a.p), some (pv e.p), a5, a6, a7, a8, none] H = some (.nx [a0, a1, a2, some (pv a.p), some (pv e.p), a5, a6, b7, b8, none] H) := by
  obtain ⟨u, _, lo, _, _, fst⟩ := K.lower ha
  cases u with
  | nil =>
    refine ⟨a7, a8, ?_⟩
    have q : ([] : List (Int × Int)).isEmpty = true := rfl
    simp only [L6, fn, sSeq, sSet, sPar, sIf, sRet, sNil, sExpr, tV, tAnd, tOr, tNot, xAnd, xOr, xNot, xIf, xII, xVV, xVH, xU, xC, xV, xTup, xLst, aCons, aNil, xCall, xCallZ, still, nth_0, nth_s, entry, somes, List.replicate, leave, List.append_nil, still_pv, still_nil, lo, noL_prs, ne_prs0, q, allP, short, Bool.not_true]
  | cons z u =>
    refine ⟨some (.int z.1), some (.int z.2), ?_⟩
    obtain ⟨w, e1, e2⟩ := fst z u rfl
    have q : (z :: u).isEmpty = false := rfl
    have ix : gIx H (.tup ((z :: u).map prV)) (.int 0) = some (prV z) := ixP_ok H (z :: u) (m := 0) (by simp)
    have e3 : ∀ σ : Sv, bT [7, 8] (prV z) σ = some ((σ.set 7 (some (.int z.1))).set 8 (some (.int z.2))) := fun _ => rfl
    simp only [L6, fn, sSeq, sSet, sPar, sIf, sRet, sNil, sExpr, tV, tAnd, tOr, tNot, xAnd, xOr, xNot, xIf, xII, xVV, xVH, xU, xC, xV, xTup, xLst, aCons, aNil, xCall, xCallZ, still, nth_0, nth_s, entry, somes, List.replicate, leave, List.append_nil, still_pv, still_int, still_nil, lo, noL_prs, ne_prs0, q, allP, short, Bool.not_false, ix, sUnp, e3, List.set, e1, e2, noL_pv, ne_pv, decide_true, Bool.not_true]
theorem seven_ok {a e : En} (ha : a ∈ C) (he : e ∈ C) (hb : barN e.p a.p = none) (a0 a1 a2 a5 a6 a7 a8 : Option Va) (H : Hv) : L7 [a0, a1, a2, some (pv a.p), some (pv e.p), a5, a6, a7, a8, none] H = some (.nx [a0, a1, a2, some (pv a.p), some (pv e.p), a5, a6, a7, a8, none] H) := by
  have e1 := K.right he ha
  have e2 := K.lies he ha hb
  have nb : noL (.bl true) = true := rfl
  simp only [L7, fn, sSeq, sSet, sPar, sIf, sRet, sNil, sExpr, tV, tAnd, tOr, tNot, xAnd, xOr, xNot, xIf, xII, xVV, xVH, xU, xC, xV, xTup, xLst, aCons, aNil, xCall, xCallZ, still, nth_0, nth_s, entry, somes, List.replicate, leave, List.append_nil, still_pv, still_nil, e1, e2, nb, Bool.not_true, gNotB, bne_self_eq_false]
end
/-- the sums agree: then the class is one, and the answer right -/
theorem nine_ok {p l : List Nat} (h : l.sum = p.sum → f__law_order_right [pv l, pv p] [] = some (.bl true, [])) (a0 a1 a2 a4 a5 a6 a7 a8 : Option Va) (H : Hv) : L9 [a0, a1, a2, some (pv p), a4, a5, a6, a7, a8, some (pv l)] H = some (.nx [a0, a1, a2, some (pv p), a4, a5, a6, a7, a8, some (pv l)] H) := by
  have nb : noL (.bl true) = true := rfl
  by_cases q : l.sum = p.sum
  · have e1 := h q
    have e2 : decide (((l.sum : Nat) : Int) = ((p.sum : Nat) : Int)) = true := decide_eq_true (by rw [q])
    simp only [L9, fn, sSeq, sSet, sPar, sIf, sRet, sNil, sExpr, tV, tAnd, tOr, tNot, xAnd, xOr, xNot, xIf, xII, xVV, xVH, xU, xC, xV, xTup, xLst, aCons, aNil, xCall, xCallZ, still, nth_0, nth_s, entry, somes, List.replicate, leave, List.append_nil, still_pv, still_nil, sum_pv, eq_int, e1, e2, nb, Bool.not_true]
  · have e2 : decide (((l.sum : Nat) : Int) = ((p.sum : Nat) : Int)) = false := decide_eq_false (by omega)
    simp only [L9, fn, sSeq, sSet, sPar, sIf, sRet, sNil, sExpr, tV, tAnd, tOr, tNot, xAnd, xOr, xNot, xIf, xII, xVV, xVH, xU, xC, xV, xTup, xLst, aCons, aNil, xCall, xCallZ, still, nth_0, nth_s, entry, somes, List.replicate, leave, List.append_nil, still_pv, still_nil, sum_pv, eq_int, e2]
theorem ten_ok {n b : Nat} {p : List Nat} (P : Pk n b p) (hb : b < 1000) (hs : p.sum = n * b) {v v' : List Va} (hq : f__law_counts_right [.ref 0] [.lst v] = some (.bl true, [.lst v'])) (a0 a4 a5 a6 a7 a8 a9 : Option Va) : L10 [a0, some (.ref 0), some (.int ((n : Nat) : Int)), some (pv p), a4, a5, a6, a7, a8, a9] [.lst v] = some (.rt (.bl true) [.lst v']) := by
  have e0 := P.bal
  have e1 : f_balls_of [pv p] [] = some (.int (b : Nat), []) := by
    have ex : f_balls_of [pv p] [] = fn 1 1 (sRet (xCall f_balls_by (aCons (xV 0) aNil) [])) [pv p] [] := rfl
    rw [ex]
    simp [fn, sSeq, sSet, sPar, sIf, sRet, sNil, sExpr, tV, tAnd, tOr, tNot, xAnd, xOr, xNot, xIf, xII, xVV, xVH, xU, xC, xV, xTup, xLst, aCons, aNil, xCall, xCallZ, still, nth_0, nth_s, entry, somes, List.replicate, leave, Nat.beq, e0, leave_int]
  have ni : ∀ i : Int, noL (.int i) = true := fun _ => rfl
  have sb : small64 ((b : Nat) : Int) = true := small_of (by omega) (by omega)
  have e2 : decide (((b : Nat) : Int) * ((n : Nat) : Int) = ((p.sum : Nat) : Int)) = true := decide_eq_true (by rw [hs, Int.natCast_mul, Int.mul_comm])
  simp only [L10, fn, sSeq, sSet, sPar, sIf, sRet, sNil, sExpr, tV, tAnd, tOr, tNot, xAnd, xOr, xNot, xIf, xII, xVV, xVH, xU, xC, xV, xTup, xLst, aCons, aNil, xCall, xCallZ, still, nth_0, nth_s, entry, somes, List.replicate, leave, List.append_nil, still_pv, still_nil, e1, ni, mul_ok _ sb, sum_pv, eq_int, e2, hq]
theorem plain_of (CC : Nat → Nat → List En) (KK : ∀ n b, 2 ≤ n → n < 6 → b ≤ n → Cls n b (CC n b))
    (made : ∀ n, 2 ≤ n → n < 6 → ∀ p ∈ pats n, ∃ b, b ≤ n ∧ p.sum = n * b ∧ ∃ e ∈ CC n b, e.p = p)
    (cnt : ∀ (c : Int) (v : List Va), Fd c v → c < 900 → ∃ v', f__law_counts_right [.ref 0] [.lst v] = some (.bl true, [.lst v']))
    (ns : List Int) (hns : ns.length ≤ 63) : ∃ h, f_law [.lst (ns.map Va.int)] [] = some (.bl true, h) := by
  obtain ⟨v0, F0, e0⟩ := source_ok ns hns
  obtain ⟨k, v1, k0, k1, F1, e1⟩ := draw_ok F0 (by omega) (n := 4) (by omega) (by omega) []
  obtain ⟨m, rfl⟩ := Int.eq_ofNat_of_zero_le k0
  have en : (2 : Int) + ((m : Nat) : Int) = ((2 + m : Nat) : Int) := by omega
  have n1 : 2 ≤ 2 + m := by omega
  have n2 : 2 + m < 6 := by omega
  generalize 2 + m = n at en n1 n2
  obtain ⟨p, hp, c2, v2, F2, l2, e2⟩ := pattern_made F1 (n := n) (by omega) (by omega) (by omega)
  obtain ⟨b, hb, hs, a, ha, ep⟩ := made n n1 n2 p hp
  subst ep
  have K := KK n b n1 n2 hb
  obtain ⟨k, v3, k0, k1', F3, e3⟩ := draw_ok F2 (by omega) (n := 5) (by omega) (by omega) []
  obtain ⟨j, rfl⟩ := Int.eq_ofNat_of_zero_le k0
  have rg := rng_nat (n := j) (by omega)
  obtain ⟨e, he, hbe, c4, v4, b5, b6, b7, b8, F4, l4, e4⟩ := laps_ok K (o := a.p) (some (.lst (ns.map Va.int))) (some (.int ((n : Nat) : Int))) (some (pv a.p)) ((List.range j).map fun k => Va.int ((k : Nat) : Int)) none none none none F3 (by rw [List.length_map, List.length_range]; omega) ha (below_refl _)
  rw [List.length_map, List.length_range] at l4
  have s5 := five_ok K ha he (some (.lst (ns.map Va.int))) (some (.ref 0)) (some (.int ((n : Nat) : Int))) b5 b6 b7 b8 [.lst v4]
  obtain ⟨d7, d8, s6⟩ := six_ok K ha he (some (.lst (ns.map Va.int))) (some (.ref 0)) (some (.int ((n : Nat) : Int))) b5 b6 b7 b8 [.lst v4]
  have s7 := seven_ok K ha he hbe (some (.lst (ns.map Va.int))) (some (.ref 0)) (some (.int ((n : Nat) : Int))) b5 b6 d7 d8 [.lst v4]
  obtain ⟨l, hl, c5, v5, F5, l5, e5⟩ := pattern_made F4 (n := n) (by omega) (by omega) (by omega)
  obtain ⟨b', hb', hs', a', ha', ep'⟩ := made n n1 n2 l hl
  subst ep'
  have s9 := nine_ok (p := a.p) (l := a'.p) (fun es => by
    rw [hs, hs'] at es
    have : b' = b := Nat.eq_of_mul_eq_mul_left (by omega) es
    subst this
    exact K.right ha' ha) (some (.lst (ns.map Va.int))) (some (.ref 0)) (some (.int ((n : Nat) : Int))) (some (pv e.p)) b5 b6 d7 d8 [.lst v5]
  obtain ⟨v6, e6⟩ := cnt c5 v5 F5 (by omega)
  have s10 := ten_ok (K.one' ha).1 (by omega) hs e6 (some (.lst (ns.map Va.int))) (some (pv e.p)) b5 b6 d7 d8 (some (pv a'.p))
  have t0 : L0 [some (.lst (ns.map Va.int)), none, none, none, none, none, none, none, none, none] [] = some (.nx [some (.lst (ns.map Va.int)), some (.ref 0), none, none, none, none, none, none, none, none] [.lst v0]) := by
    simp only [L0, fn, sSeq, sSet, sPar, sIf, sRet, sNil, sExpr, tV, tAnd, tOr, tNot, xAnd, xOr, xNot, xIf, xII, xVV, xVH, xU, xC, xV, xTup, xLst, aCons, aNil, xCall, xCallZ, still, nth_0, nth_s, entry, somes, List.replicate, leave, List.append_nil, e0, List.set]
  have t1 : L1 [some (.lst (ns.map Va.int)), some (.ref 0), none, none, none, none, none, none, none, none] [.lst v0] = some (.nx [some (.lst (ns.map Va.int)), some (.ref 0), some (.int ((n : Nat) : Int)), none, none, none, none, none, none, none] [.lst v1]) := by
    simp only [L1, fn, sSeq, sSet, sPar, sIf, sRet, sNil, sExpr, tV, tAnd, tOr, tNot, xAnd, xOr, xNot, xIf, xII, xVV, xVH, xU, xC, xV, xTup, xLst, aCons, aNil, xCall, xCallZ, still, nth_0, nth_s, entry, somes, List.replicate, leave, List.append_nil, e1, add_ok, en, List.set]
  have t2 : L2 [some (.lst (ns.map Va.int)), some (.ref 0), some (.int ((n : Nat) : Int)), none, none, none, none, none, none, none] [.lst v1] = some (.nx [some (.lst (ns.map Va.int)), some (.ref 0), some (.int ((n : Nat) : Int)), some (pv a.p), none, none, none, none, none, none] [.lst v2]) := by
    simp only [L2, fn, sSeq, sSet, sPar, sIf, sRet, sNil, sExpr, tV, tAnd, tOr, tNot, xAnd, xOr, xNot, xIf, xII, xVV, xVH, xU, xC, xV, xTup, xLst, aCons, aNil, xCall, xCallZ, still, nth_0, nth_s, entry, somes, List.replicate, leave, List.append_nil, e2, List.set]
  have t3 : L3 [some (.lst (ns.map Va.int)), some (.ref 0), some (.int ((n : Nat) : Int)), some (pv a.p), none, none, none, none, none, none] [.lst v2] = some (.nx [some (.lst (ns.map Va.int)), some (.ref 0), some (.int ((n : Nat) : Int)), some (pv a.p), some (pv a.p), none, none, none, none, none] [.lst v2]) := by
    simp only [L3, fn, sSeq, sSet, sPar, sIf, sRet, sNil, sExpr, tV, tAnd, tOr, tNot, xAnd, xOr, xNot, xIf, xII, xVV, xVH, xU, xC, xV, xTup, xLst, aCons, aNil, xCall, xCallZ, still, nth_0, nth_s, entry, somes, List.replicate, leave, List.set]
  have t4 : L4 [some (.lst (ns.map Va.int)), some (.ref 0), some (.int ((n : Nat) : Int)), some (pv a.p), some (pv a.p), none, none, none, none, none] [.lst v2] = some (.nx [some (.lst (ns.map Va.int)), some (.ref 0), some (.int ((n : Nat) : Int)), some (pv a.p), some (pv e.p), b5, b6, b7, b8, none] [.lst v4]) := by
    simp only [L4, fn, sSeq, sSet, sPar, sIf, sRet, sNil, sExpr, tV, tAnd, tOr, tNot, xAnd, xOr, xNot, xIf, xII, xVV, xVH, xU, xC, xV, xTup, xLst, aCons, aNil, xCall, xCallZ, still, nth_0, nth_s, entry, somes, List.replicate, leave, List.append_nil, sFor, iR1, e3, rg]
    exact e4
  have t8 : L8 [some (.lst (ns.map Va.int)), some (.ref 0), some (.int ((n : Nat) : Int)), some (pv a.p), some (pv e.p), b5, b6, d7, d8, none] [.lst v4] = some (.nx [some (.lst (ns.map Va.int)), some (.ref 0), some (.int ((n : Nat) : Int)), some (pv a.p), some (pv e.p), b5, b6, d7, d8, some (pv a'.p)] [.lst v5]) := by
    simp only [L8, fn, sSeq, sSet, sPar, sIf, sRet, sNil, sExpr, tV, tAnd, tOr, tNot, xAnd, xOr, xNot, xIf, xII, xVV, xVH, xU, xC, xV, xTup, xLst, aCons, aNil, xCall, xCallZ, still, nth_0, nth_s, entry, somes, List.replicate, leave, List.append_nil, e5, List.set]
  refine ⟨[], ?_⟩
  have eb : entry 10 [.lst (ns.map Va.int)] = [some (.lst (ns.map Va.int)), none, none, none, none, none, none, none, none, none] := rfl
  have ebq : Nat.beq [Va.lst (ns.map Va.int)].length 1 = true := rfl
  unfold f_law fn
  rw [ebq, eb, b_law_eq]
  simp only [sSeq, t0, t1, t2, t3, t4, s5, s6, s7, t8, s9, s10]
  rfl
end EvP
end
section
set_option Elab.async false
set_option linter.all false
set_option maxRecDepth 100000
set_option maxHeartbeats 4000000
/-! PlK: each pattern that can be drawn lies in one of the classes. -/
namespace EvP
open Ev
open PySem (Str)
def CC : Nat → Nat → List En
  | 2, 0 => C2_0
  | 2, 1 => C2_1
  | 2, 2 => C2_2
  | 3, 0 => C3_0
  | 3, 1 => C3_1
  | 3, 2 => C3_2
  | 3, 3 => C3_3
  | 4, 0 => C4_0
  | 4, 1 => C4_1
  | 4, 2 => C4_2
  | 4, 3 => C4_3
  | 4, 4 => C4_4
  | 5, 0 => C5_0
  | 5, 1 => C5_1
  | 5, 2 => C5_2
  | 5, 3 => C5_3
  | 5, 4 => C5_4
  | 5, 5 => C5_5
  | _, _ => []
theorem KK : ∀ n b, 2 ≤ n → n < 6 → b ≤ n → Cls n b (CC n b)
  | 0, _, h, _, _ => absurd h (by omega)
  | 1, _, h, _, _ => absurd h (by omega)
  | 2, 0, _, _, _ => K2_0
  | 2, 1, _, _, _ => K2_1
  | 2, 2, _, _, _ => K2_2
  | 2, b + 3, _, _, h => absurd h (by omega)
  | 3, 0, _, _, _ => K3_0
  | 3, 1, _, _, _ => K3_1
  | 3, 2, _, _, _ => K3_2
  | 3, 3, _, _, _ => K3_3
  | 3, b + 4, _, _, h => absurd h (by omega)
  | 4, 0, _, _, _ => K4_0
  | 4, 1, _, _, _ => K4_1
  | 4, 2, _, _, _ => K4_2
  | 4, 3, _, _, _ => K4_3
  | 4, 4, _, _, _ => K4_4
  | 4, b + 5, _, _, h => absurd h (by omega)
  | 5, 0, _, _, _ => K5_0
  | 5, 1, _, _, _ => K5_1
  | 5, 2, _, _, _ => K5_2
  | 5, 3, _, _, _ => K5_3
  | 5, 4, _, _, _ => K5_4
  | 5, 5, _, _, _ => K5_5
  | 5, b + 6, _, _, h => absurd h (by omega)
  | n + 6, _, _, h, _ => absurd h (by omega)
def sumN : List Nat → Nat
  | [] => 0
  | x :: xs => x + sumN xs
theorem sumN_ok : ∀ p : List Nat, sumN p = p.sum
  | [] => rfl
  | x :: p => by rw [List.sum_cons, ← sumN_ok p]; rfl
def inOk (n : Nat) (p : List Nat) : Bool := match sumN p / n with
  | b => match Nat.ble b n, Nat.beq (sumN p) (n * b) with
    | true, true => (CC n b).any fun e => natsBeq e.p p
    | _, _ => false
theorem in_2 : ((pats 2).all (inOk 2)) = true := by decide +kernel
theorem in_3 : ((pats 3).all (inOk 3)) = true := by decide +kernel
theorem in_4 : ((pats 4).all (inOk 4)) = true := by decide +kernel
theorem in_5 : ((pats 5).all (inOk 5)) = true := by decide +kernel
theorem inOk_ok {n : Nat} {p : List Nat} (h : inOk n p = true) : ∃ b, b ≤ n ∧ p.sum = n * b ∧ ∃ e ∈ CC n b, e.p = p := by
  unfold inOk at h
  refine ⟨sumN p / n, ?_⟩
  generalize sumN p / n = b at h
  dsimp only at h
  split at h
  · rename_i h1 h2
    obtain ⟨e, he, h3⟩ := List.any_eq_true.mp h
    refine ⟨Nat.le_of_ble_eq_true h1, ?_, e, he, natsBeq_iff.mp h3⟩
    rw [← sumN_ok]
    exact Nat.eq_of_beq_eq_true h2
  · cases h
theorem made : ∀ n, 2 ≤ n → n < 6 → ∀ p ∈ pats n, ∃ b, b ≤ n ∧ p.sum = n * b ∧ ∃ e ∈ CC n b, e.p = p
  | 0, h, _, _, _ => absurd h (by omega)
  | 1, h, _, _, _ => absurd h (by omega)
  | 2, _, _, p, hp => inOk_ok (List.all_eq_true.mp in_2 p hp)
  | 3, _, _, p, hp => inOk_ok (List.all_eq_true.mp in_3 p hp)
  | 4, _, _, p, hp => inOk_ok (List.all_eq_true.mp in_4 p hp)
  | 5, _, _, p, hp => inOk_ok (List.all_eq_true.mp in_5 p hp)
  | n + 6, _, h, _, _ => absurd h (by omega)
end EvP
end
section
set_option Elab.async false
set_option linter.all false
set_option maxRecDepth 100000
set_option maxHeartbeats 4000000
/-! PlM: the six settings: their books and patterns. -/
namespace EvP
open Ev
open PySem (Str)
noncomputable def R0 : SM := (sUnp [1, 2, 3] (xIx (xLst (aCons (xTup (aCons (xC (.int 2)) (aCons (xC (.int 1)) (aCons (xC (.int 3)) aNil)))) (aCons (xTup (aCons (xC (.int 3)) (aCons (xC (.int 1)) (aCons (xC (.int 2)) aNil)))) (aCons (xTup (aCons (xC (.int 3)) (aCons (xC (.int 2)) (aCons (xC (.int 2)) aNil)))) (aCons (xTup (aCons (xC (.int 3)) (aCons (xC (.int 2)) (aCons (xC (.int 3)) aNil)))) (aCons (xTup (aCons (xC (.int 4)) (aCons (xC (.int 2)) (aCons (xC (.int 2)) aNil)))) (aCons (xTup (aCons (xC (.int 2)) (aCons (xC (.int 1)) (aCons (xC (.int 5)) aNil)))) aNil))))))) (xCall f__law_draw (aCons (xV 0) (aCons (xC (.int 6)) aNil)) [])))
noncomputable def R1 : SM := (sSet 4 (xListG f_all_books (aCons (xV 1) (aCons (xV 2) (aCons (xV 3) aNil)))))
noncomputable def R2 : SM := (sIf (tOr (tV (xVV (xU (xV 4) gLen) (xCallZ f_total_count (aCons (xV 1) (aCons (xV 2) (aCons (xV 3) aNil))) []) gNe)) (tV (xVV (xU (xV 4) gSortSet) (xV 4) gNe))) (sRet (xC (.bl false))) sNil)
noncomputable def R3 : SM := (sSet 5 (xNewDT))
noncomputable def R4 : SM := (sFor (iVal (xV 4)) (bN 6) (sSeq (sSet 7 (xCallZ f__law_throws (aCons (xV 6) aNil) [])) (sDput (xV 5) (xV 7) (xAdd (xGet (xV 5) (xV 7) (xC (.int 0))) (xC (.int 1))))))
noncomputable def R5 : SM := (sSet 8 (xListG f_patterns_of (aCons (xV 1) (aCons (xV 2) aNil))))
noncomputable def R6 : SM := (sIf (tOr (tV (xVV (xU (xV 8) gLen) (xCallZ f_pattern_count (aCons (xV 1) (aCons (xV 2) aNil)) []) gNe)) (tV (xVV (xLCK [7] 5 (bN 7) (tV (xVV (xV 7) (xV 8) gNin)) (xV 7)) (xLst aNil) gNe))) (sRet (xC (.bl false))) sNil)
noncomputable def R7 : SM := (sFor (iVal (xV 8)) (bN 7) (sSeq (sPar 9 10 (xCallZ f_count_polynomial (aCons (xV 7) aNil) []) (xC (.int 0))) (sSeq (sFor (iVal (xU (xV 9) gRev)) (bN 11) (sSet 10 (xAdd (xMul (xV 10) (xV 3)) (xV 11)))) (sSeq (sIf (tOr (tV (xVV (xCallZ f_book_count (aCons (xV 7) (aCons (xV 3) aNil)) []) (xGet (xV 5) (xV 7) (xC (.int 0))) gNe)) (tV (xVV (xV 10) (xGet (xV 5) (xV 7) (xC (.int 0))) gNe))) (sRet (xC (.bl false))) sNil) (sSeq (sSet 12 (xSub (xMul (xV 2) (xSub (xV 1) (xV 2))) (xCallZ f__law_depth (aCons (xV 7) aNil) []))) (sIf (tOr (tV (xVV (xIx (xV 9) (xU (xC (.int 1)) gNeg)) (xC (.int 1)) gNe)) (tV (xVV (xSub (xU (xV 9) gLen) (xC (.int 1))) (xV 12) gNe))) (sRet (xC (.bl false))) sNil))))))
noncomputable def R8 : SM := (sSet 13 (xIx (xV 8) (xCall f__law_draw (aCons (xV 0) (aCons (xU (xV 8) gLen) aNil)) [])))
noncomputable def R9 : SM := (sSet 14 (xListG f_books_of (aCons (xV 13) (aCons (xV 3) aNil))))
noncomputable def R10 : SM := (sRet (xAnd (xVV (xV 14) (xLC [6] (iVal (xV 4)) (bN 6) (tV (xVV (xCallZ f_pattern_of (aCons (xV 6) aNil) []) (xV 13) gEq)) (xV 6)) gEq) (xVV (xV 14) (xLst aNil) gNe)))
theorem b_counts_eq : b__law_counts_right = (sSeq R0 (sSeq R1 (sSeq R2 (sSeq R3 (sSeq R4 (sSeq R5 (sSeq R6 (sSeq R7 (sSeq R8 (sSeq R9 R10)))))))))) := rfl
noncomputable def pre : SM := (sSeq R1 (sSeq R2 (sSeq R3 (sSeq R4 (sSeq R5 (sSeq R6 R7))))))
/-- a book -/
def bk (p n : Nat) (z : List (List Nat) × List Nat) : Va := .tup [.int (p : Nat), .int (n : Nat), .tup (z.1.map pv)]
def ten : Sv → Bool
  | [_, _, _, _, _, _, _, _, _, _, _, _, _, _, _] => true
  | _ => false
def fstC : Hv → Option Cell
  | [a, _] => some a
  | _ => none
noncomputable def proj (x : Option Fl) : Option (Option Va × Option Va × Option Va × Option Va × Bool × Option Cell) := match x with
  | some (.nx σ h) => some (nth σ 0, nth σ 3, nth σ 4, nth σ 8, ten σ, fstC h)
  | _ => none
noncomputable def st0 (n r p : Nat) : Sv := [some (.ref 0), some (.int (n : Nat)), some (.int (r : Nat)), some (.int (p : Nat)), none, none, none, none, none, none, none, none, none, none, none]

def B0 : List (List (List Nat) × List Nat) := [([[0, 1]], [0, 2]), ([[1, 0]], [2, 0]), ([[1, 1]], [1, 1]), ([[1, 2]], [1, 1])]
def Q0 : List (List Nat) := [[0, 2], [1, 1], [2, 0]]
def B1 : List (List (List Nat) × List Nat) := [([[0, 0, 1]], [0, 0, 3]), ([[0, 1, 0]], [0, 3, 0]), ([[0, 1, 1]], [0, 1, 2]), ([[1, 0, 0]], [3, 0, 0]), ([[1, 0, 1]], [2, 0, 1]), ([[1, 1, 0]], [1, 2, 0]), ([[1, 1, 1]], [1, 1, 1])]
def Q1 : List (List Nat) := [[0, 0, 3], [0, 1, 2], [0, 3, 0], [1, 1, 1], [1, 2, 0], [2, 0, 1], [3, 0, 0]]
def B2 : List (List (List Nat) × List Nat) := [([[0, 1, 0], [0, 0, 1]], [0, 3, 3]), ([[1, 0, 0], [0, 0, 1]], [3, 0, 3]), ([[1, 0, 0], [0, 1, 0]], [3, 3, 0]), ([[1, 0, 0], [0, 1, 1]], [3, 1, 2]), ([[1, 0, 1], [0, 1, 0]], [2, 3, 1]), ([[1, 0, 1], [0, 1, 1]], [2, 2, 2]), ([[1, 1, 0], [0, 0, 1]], [1, 2, 3])]
def Q2 : List (List Nat) := [[0, 3, 3], [1, 2, 3], [2, 2, 2], [2, 3, 1], [3, 0, 3], [3, 1, 2], [3, 3, 0]]
def B3 : List (List (List Nat) × List Nat) := [([[0, 1, 0], [0, 0, 1]], [0, 3, 3]), ([[1, 0, 0], [0, 0, 1]], [3, 0, 3]), ([[1, 0, 0], [0, 1, 0]], [3, 3, 0]), ([[1, 0, 0], [0, 1, 1]], [3, 1, 2]), ([[1, 0, 0], [0, 1, 2]], [3, 1, 2]), ([[1, 0, 1], [0, 1, 0]], [2, 3, 1]), ([[1, 0, 1], [0, 1, 1]], [2, 2, 2]), ([[1, 0, 1], [0, 1, 2]], [2, 2, 2]), ([[1, 0, 2], [0, 1, 0]], [2, 3, 1]), ([[1, 0, 2], [0, 1, 1]], [2, 2, 2]), ([[1, 0, 2], [0, 1, 2]], [2, 2, 2]), ([[1, 1, 0], [0, 0, 1]], [1, 2, 3]), ([[1, 2, 0], [0, 0, 1]], [1, 2, 3])]
def Q3 : List (List Nat) := [[0, 3, 3], [1, 2, 3], [2, 2, 2], [2, 3, 1], [3, 0, 3], [3, 1, 2], [3, 3, 0]]
def B4 : List (List (List Nat) × List Nat) := [([[0, 0, 1, 0], [0, 0, 0, 1]], [0, 0, 4, 4]), ([[0, 1, 0, 0], [0, 0, 0, 1]], [0, 4, 0, 4]), ([[0, 1, 0, 0], [0, 0, 1, 0]], [0, 4, 4, 0]), ([[0, 1, 0, 0], [0, 0, 1, 1]], [0, 4, 1, 3]), ([[0, 1, 0, 1], [0, 0, 1, 0]], [0, 2, 4, 2]), ([[0, 1, 0, 1], [0, 0, 1, 1]], [0, 2, 3, 3]), ([[0, 1, 1, 0], [0, 0, 0, 1]], [0, 1, 3, 4]), ([[1, 0, 0, 0], [0, 0, 0, 1]], [4, 0, 0, 4]), ([[1, 0, 0, 0], [0, 0, 1, 0]], [4, 0, 4, 0]), ([[1, 0, 0, 0], [0, 0, 1, 1]], [4, 0, 1, 3]), ([[1, 0, 0, 0], [0, 1, 0, 0]], [4, 4, 0, 0]), ([[1, 0, 0, 0], [0, 1, 0, 1]], [4, 2, 0, 2]), ([[1, 0, 0, 0], [0, 1, 1, 0]], [4, 1, 3, 0]), ([[1, 0, 0, 0], [0, 1, 1, 1]], [4, 1, 1, 2]), ([[1, 0, 0, 1], [0, 0, 1, 0]], [3, 0, 4, 1]), ([[1, 0, 0, 1], [0, 0, 1, 1]], [3, 0, 2, 3]), ([[1, 0, 0, 1], [0, 1, 0, 0]], [3, 4, 0, 1]), ([[1, 0, 0, 1], [0, 1, 0, 1]], [3, 3, 0, 2]), ([[1, 0, 0, 1], [0, 1, 1, 0]], [3, 1, 3, 1]), ([[1, 0, 0, 1], [0, 1, 1, 1]], [3, 1, 2, 2]), ([[1, 0, 1, 0], [0, 0, 0, 1]], [2, 0, 2, 4]), ([[1, 0, 1, 0], [0, 1, 0, 0]], [2, 4, 2, 0]), ([[1, 0, 1, 0], [0, 1, 0, 1]], [2, 2, 2, 2]), ([[1, 0, 1, 0], [0, 1, 1, 0]], [2, 3, 3, 0]), ([[1, 0, 1, 0], [0, 1, 1, 1]], [2, 2, 2, 2]), ([[1, 0, 1, 1], [0, 1, 0, 0]], [2, 4, 1, 1]), ([[1, 0, 1, 1], [0, 1, 0, 1]], [2, 2, 2, 2]), ([[1, 0, 1, 1], [0, 1, 1, 0]], [2, 2, 3, 1]), ([[1, 0, 1, 1], [0, 1, 1, 1]], [2, 3, 1, 2]), ([[1, 1, 0, 0], [0, 0, 0, 1]], [1, 3, 0, 4]), ([[1, 1, 0, 0], [0, 0, 1, 0]], [1, 3, 4, 0]), ([[1, 1, 0, 0], [0, 0, 1, 1]], [1, 3, 1, 3]), ([[1, 1, 0, 1], [0, 0, 1, 0]], [1, 2, 4, 1]), ([[1, 1, 0, 1], [0, 0, 1, 1]], [1, 2, 2, 3]), ([[1, 1, 1, 0], [0, 0, 0, 1]], [1, 1, 2, 4])]
def Q4 : List (List Nat) := [[0, 0, 4, 4], [0, 1, 3, 4], [0, 2, 3, 3], [0, 2, 4, 2], [0, 4, 0, 4], [0, 4, 1, 3], [0, 4, 4, 0], [1, 1, 2, 4], [1, 2, 2, 3], [1, 2, 4, 1], [1, 3, 0, 4], [1, 3, 1, 3], [1, 3, 4, 0], [2, 0, 2, 4], [2, 2, 2, 2], [2, 2, 3, 1], [2, 3, 1, 2], [2, 3, 3, 0], [2, 4, 1, 1], [2, 4, 2, 0], [3, 0, 2, 3], [3, 0, 4, 1], [3, 1, 2, 2], [3, 1, 3, 1], [3, 3, 0, 2], [3, 4, 0, 1], [4, 0, 0, 4], [4, 0, 1, 3], [4, 0, 4, 0], [4, 1, 1, 2], [4, 1, 3, 0], [4, 2, 0, 2], [4, 4, 0, 0]]
def B5 : List (List (List Nat) × List Nat) := [([[0, 1]], [0, 2]), ([[1, 0]], [2, 0]), ([[1, 1]], [1, 1]), ([[1, 2]], [1, 1]), ([[1, 3]], [1, 1]), ([[1, 4]], [1, 1])]
def Q5 : List (List Nat) := [[0, 2], [1, 1], [2, 0]]
end EvP
end
section
set_option Elab.async false
set_option linter.all false
set_option maxRecDepth 100000
set_option maxHeartbeats 4000000
/-! PlN: the run up to the last draw. -/
namespace EvP
open Ev
open PySem (Str)
theorem run0 (v : List Va) : proj (pre (st0 2 1 3) [.lst v]) = some (some (.ref 0), some (.int (3 : Nat)), some (.lst (B0.map (bk 3 2))), some (.lst (Q0.map pv)), true, some (.lst v)) := by kernel_rfl
theorem run1 (v : List Va) : proj (pre (st0 3 1 2) [.lst v]) = some (some (.ref 0), some (.int (2 : Nat)), some (.lst (B1.map (bk 2 3))), some (.lst (Q1.map pv)), true, some (.lst v)) := by kernel_rfl
theorem run2 (v : List Va) : proj (pre (st0 3 2 2) [.lst v]) = some (some (.ref 0), some (.int (2 : Nat)), some (.lst (B2.map (bk 2 3))), some (.lst (Q2.map pv)), true, some (.lst v)) := by kernel_rfl
theorem run3 (v : List Va) : proj (pre (st0 3 2 3) [.lst v]) = some (some (.ref 0), some (.int (3 : Nat)), some (.lst (B3.map (bk 3 3))), some (.lst (Q3.map pv)), true, some (.lst v)) := by kernel_rfl
theorem run4 (v : List Va) : proj (pre (st0 4 2 2) [.lst v]) = some (some (.ref 0), some (.int (2 : Nat)), some (.lst (B4.map (bk 2 4))), some (.lst (Q4.map pv)), true, some (.lst v)) := by kernel_rfl
theorem run5 (v : List Va) : proj (pre (st0 2 1 5) [.lst v]) = some (some (.ref 0), some (.int (5 : Nat)), some (.lst (B5.map (bk 5 2))), some (.lst (Q5.map pv)), true, some (.lst v)) := by kernel_rfl
end EvP
end
section
set_option Elab.async false
set_option linter.all false
set_option maxRecDepth 100000
set_option maxHeartbeats 4000000
/-! PlO: after the run: the last draw, the books of one pattern. -/
namespace EvP
open Ev
open PySem (Str)
noncomputable def yBody : YM := (yIf (tV (xVV (xCallZ f_throws_in (aCons (xV 2) aNil) []) (xV 0) gEq)) (yYield (xV 2)) yNil)
theorem b_books_eq : b_books_of = (ySeq (yPlain (sExpr (xCallZ f_want_prime (aCons (xV 1) aNil) []))) (yFor (iVal (xCall f_books_by (aCons (xU (xV 0) gLen) (aCons (xCallZ f_balls_by (aCons (xV 0) aNil) []) (aCons (xV 1) aNil))) [])) (bN 2) yBody)) := rfl
theorem sSeq_assoc (a b c : SM) : sSeq (sSeq a b) c = sSeq a (sSeq b c) := by
  funext σ h
  unfold sSeq
  cases a σ h with
  | none => rfl
  | some x => cases x <;> rfl
theorem b_counts_two : b__law_counts_right = sSeq R0 (sSeq pre (sSeq R8 (sSeq R9 R10))) := by
  rw [b_counts_eq]
  unfold pre
  simp only [sSeq_assoc]
theorem still_bk (h : Hv) (p n : Nat) (z : List (List Nat) × List Nat) (vs : List Va) : still h (bk p n z :: vs) = (match still h vs with | some us => some (bk p n z :: us) | none => none) := rfl
theorem isP_bk (p n : Nat) (z : List (List Nat) × List Nat) : isP (bk p n z) = true := rfl
theorem dlesV (k : Nat) : ∀ rows : List (List Nat), dles (k + 1) (rows.map pv) = true
  | [] => rfl
  | w :: rows => by
    rw [List.map_cons]
    unfold dles
    rw [dlesV k rows, dle_pv k]
theorem veqsV : ∀ rows : List (List Nat), veqs (rows.map pv) (rows.map pv) = true
  | [] => rfl
  | w :: rows => by
    rw [List.map_cons]
    unfold veqs
    rw [veqsV rows, veq_pv]
    simp
theorem dle_bk (k : Nat) (p n : Nat) (z : List (List Nat) × List Nat) : dle (k + 3) (bk p n z) = true := by
  unfold bk dle
  have : dle (k + 2) (.tup (z.1.map pv)) = true := by
    unfold dle
    exact dlesV k z.1
  have hi : ∀ i : Int, dle (k + 2) (.int i) = true := fun _ => rfl
  simp only [dles, this, hi]
theorem veq_bk (p n : Nat) (z : List (List Nat) × List Nat) : veq (bk p n z) (bk p n z) = true := by
  unfold bk veq
  have : veq (.tup (z.1.map pv)) (.tup (z.1.map pv)) = true := by
    unfold veq
    exact veqsV z.1
  have h : ∀ i : Nat, veq (.int (i : Nat)) (.int (i : Nat)) = true := fun i => by simp [veq, ieq_eq]
  simp [veqs, this, h]
theorem dlesB (k p n : Nat) : ∀ zs : List (List (List Nat) × List Nat), dles (k + 3) (zs.map (bk p n)) = true
  | [] => rfl
  | z :: zs => by
    rw [List.map_cons]
    unfold dles
    rw [dlesB k p n zs, dle_bk k]
theorem veqsB (p n : Nat) : ∀ zs : List (List (List Nat) × List Nat), veqs (zs.map (bk p n)) (zs.map (bk p n)) = true
  | [] => rfl
  | z :: zs => by
    rw [List.map_cons]
    unfold veqs
    rw [veqsB p n zs, veq_bk]
theorem eq_books (p n : Nat) (zs : List (List (List Nat) × List Nat)) : gEq (.lst (zs.map (bk p n))) (.lst (zs.map (bk p n))) = some (.bl true) := by
  have h1 : dle 8 (.lst (zs.map (bk p n))) = true := by
    unfold dle
    exact dlesB 4 p n zs
  have h2 : veq (.lst (zs.map (bk p n))) (.lst (zs.map (bk p n))) = true := by
    unfold veq
    exact veqsB p n zs
  unfold gEq
  rw [h1, h2]
theorem ne_books (p n : Nat) : ∀ zs : List (List (List Nat) × List Nat), gNe (.lst (zs.map (bk p n))) (.lst []) = some (.bl (!zs.isEmpty))
  | [] => rfl
  | z :: zs => by
    have h1 : dle 8 (.lst ((z :: zs).map (bk p n))) = true := by
      unfold dle
      exact dlesB 4 p n (z :: zs)
    unfold gNe
    rw [h1]
    rfl
theorem lenQ_ok (h : Hv) (Q : List (List Nat)) : gLen h (.lst (Q.map pv)) = some (.int ((Q.length : Nat) : Int)) := by
  show some (Va.int (((Q.map pv).length : Nat) : Int)) = _
  rw [List.length_map]
theorem itemAtQ : ∀ (Q : List (List Nat)) (k : Nat) (h : k < Q.length), itemAt (Q.map pv) k = some (pv Q[k])
  | x :: Q, 0, h => rfl
  | x :: Q, k + 1, h => itemAtQ Q k (Nat.lt_of_succ_lt_succ h)
theorem ixQ_ok (h : Hv) (Q : List (List Nat)) {m : Nat} (hm : m < Q.length) : gIx h (.lst (Q.map pv)) (.int ((m : Nat) : Int)) = some (pv Q[m]) := by
  show itemI (Q.map pv) _ = _
  unfold itemI
  rw [List.length_map, natIx_nat hm]
  exact itemAtQ Q m hm
theorem nb_dec (x y : List Nat) : decide (x = y) = natsBeq x y := by
  rw [Bool.eq_iff_iff, decide_eq_true_iff, natsBeq_iff]
/-- what is known of a setting -/
structure Cn (n r p : Nat) (B : List (List (List Nat) × List Nat)) (Q : List (List Nat)) : Prop where
  run : ∀ v, proj (pre (st0 n r p) [.lst v]) = some (some (.ref 0), some (.int (p : Nat)), some (.lst (B.map (bk p n))), some (.lst (Q.map pv)), true, some (.lst v))
  made : ∀ v C, f_books_by [.int (n : Nat), .int (r : Nat), .int (p : Nat)] [.lst v, C] = some (.lst (B.map (bk p n)), [.lst v, C])
  thr : (B.all fun z => isPat z.2 (f_throws_in [bk p n z] [])) = true
  bal : (Q.all fun q => isI (r : Nat) (f_balls_by [pv q] []) && Nat.beq q.length n && B.any fun z => natsBeq z.2 q) = true
  prime : f_want_prime [.int (p : Nat)] [] = some (.non, [])
  few : B.length < 1000
  pos : 0 < Q.length
  lim : Q.length < 1000
section
variable {n r p : Nat} {B : List (List (List Nat) × List Nat)} {Q : List (List Nat)} (K : Cn n r p B Q)
include K
theorem Cn.thr' {z : List (List Nat) × List Nat} (hz : z ∈ B) : f_throws_in [bk p n z] [] = some (pv z.2, []) := isPat_ok (List.all_eq_true.mp K.thr z hz)
theorem Cn.pat' {z : List (List Nat) × List Nat} (hz : z ∈ B) : f_pattern_of [bk p n z] [] = some (pv z.2, []) := by
  have e := K.thr' hz
  have ex : f_pattern_of [bk p n z] [] = fn 1 1 (sRet (xCallZ f_throws_in (aCons (xV 0) aNil) [])) [bk p n z] [] := rfl
  rw [ex]
  simp [fn, sSeq, sSet, sPar, sIf, sRet, sNil, sExpr, tV, tAnd, tOr, tNot, xAnd, xOr, xNot, xIf, xII, xVV, xVH, xU, xC, xV, xTup, xLst, aCons, aNil, xCall, xCallZ, still, nth_0, nth_s, entry, somes, List.replicate, leave, Nat.beq, still_bk, still_nil, e, noL_pv]
  rfl
theorem Cn.go {q : List Nat} {h : Hv} : ∀ (zs : List (List (List Nat) × List Nat)) (ys : List Va) (a2 : Option Va), (∀ z ∈ zs, z ∈ B) → ys.length + zs.length < 1000000 →
    ∃ b2, yForGo (bN 2) yBody (zs.map (bk p n)) ys [some (pv q), some (.int (p : Nat)), a2] h = some (.nx (ys ++ (zs.filter fun z => natsBeq z.2 q).map (bk p n)) [some (pv q), some (.int (p : Nat)), b2] h)
  | [], ys, a2, _, _ => ⟨a2, by simp [yForGo]⟩
  | z :: zs, ys, a2, hz, hy => by
    rw [List.length_cons] at hy
    have e := K.thr' (hz z List.mem_cons_self)
    have sy : short 1000000 ys = true := by rw [short_iff]; exact decide_eq_true (by omega)
    rw [List.map_cons]
    unfold yForGo
    cases c : natsBeq z.2 q with
    | true =>
      obtain ⟨b2, eg⟩ := Cn.go zs (ys ++ [bk p n z]) (some (bk p n z)) (fun y hh => hz y (List.mem_cons_of_mem _ hh)) (by rw [List.length_append, List.length_singleton]; omega)
      have eb : yBody ys [some (pv q), some (.int (p : Nat)), some (bk p n z)] h = some (.nx (ys ++ [bk p n z]) [some (pv q), some (.int (p : Nat)), some (bk p n z)] h) := by
        simp only [yBody, yIf, yYield, fn, sSeq, sSet, sPar, sIf, sRet, sNil, sExpr, tV, tAnd, tOr, tNot, xAnd, xOr, xNot, xIf, xII, xVV, xVH, xU, xC, xV, xTup, xLst, aCons, aNil, xCall, xCallZ, still, nth_0, nth_s, entry, somes, List.replicate, leave, List.append_nil, still_bk, still_nil, e, noL_pv, eq_pv, nb_dec, c, isP_bk, sy]
      refine ⟨b2, ?_⟩
      show (match yBody ys [some (pv q), some (.int (p : Nat)), some (bk p n z)] h with | some (.nx ys2 σ2 h2) => yForGo (bN 2) yBody (zs.map (bk p n)) ys2 σ2 h2 | r => r) = _
      rw [eb]
      show yForGo (bN 2) yBody (zs.map (bk p n)) (ys ++ [bk p n z]) _ h = _
      rw [eg, List.filter_cons, c]
      simp
    | false =>
      obtain ⟨b2, eg⟩ := Cn.go zs ys (some (bk p n z)) (fun y hh => hz y (List.mem_cons_of_mem _ hh)) (by omega)
      have eb : yBody ys [some (pv q), some (.int (p : Nat)), some (bk p n z)] h = some (.nx ys [some (pv q), some (.int (p : Nat)), some (bk p n z)] h) := by
        simp only [yBody, yIf, yYield, yNil, fn, sSeq, sSet, sPar, sIf, sRet, sNil, sExpr, tV, tAnd, tOr, tNot, xAnd, xOr, xNot, xIf, xII, xVV, xVH, xU, xC, xV, xTup, xLst, aCons, aNil, xCall, xCallZ, still, nth_0, nth_s, entry, somes, List.replicate, leave, List.append_nil, still_bk, still_nil, e, noL_pv, eq_pv, nb_dec, c]
      refine ⟨b2, ?_⟩
      show (match yBody ys [some (pv q), some (.int (p : Nat)), some (bk p n z)] h with | some (.nx ys2 σ2 h2) => yForGo (bN 2) yBody (zs.map (bk p n)) ys2 σ2 h2 | r => r) = _
      rw [eb]
      show yForGo (bN 2) yBody (zs.map (bk p n)) ys _ h = _
      rw [eg, List.filter_cons, c]
      simp
theorem Cn.q' {q : List Nat} (hq : q ∈ Q) : f_balls_by [pv q] [] = some (.int (r : Nat), []) ∧ q.length = n ∧ (B.filter fun z => natsBeq z.2 q).isEmpty = false := by
  have h := List.all_eq_true.mp K.bal q hq
  simp only [Bool.and_eq_true] at h
  obtain ⟨⟨h1, h2⟩, h3⟩ := h
  refine ⟨isI_ok h1, Nat.eq_of_beq_eq_true h2, ?_⟩
  obtain ⟨z, hz, e⟩ := List.any_eq_true.mp h3
  cases f : B.filter fun z => natsBeq z.2 q with
  | nil =>
    have : z ∈ B.filter fun z => natsBeq z.2 q := List.mem_filter.mpr ⟨hz, e⟩
    rw [f] at this
    cases this
  | cons _ _ => rfl
theorem Cn.books {q : List Nat} (hq : q ∈ Q) (v : List Va) (C : Cell) : f_books_of [pv q, .int (p : Nat)] [.lst v, C] = some ((B.filter fun z => natsBeq z.2 q).map (bk p n), [.lst v, C]) := by
  obtain ⟨eb, el, _⟩ := K.q' hq
  obtain ⟨b2, eg⟩ := K.go (q := q) (h := [.lst v, C]) B [] none (fun z hz => hz) (by have := K.few; simp; omega)
  have em := K.made v C
  have ep := K.prime
  have ni : ∀ i : Int, noL (.int i) = true := fun _ => rfl
  have nn : noL .non = true := rfl
  have ee : entry 3 [pv q, .int (p : Nat)] = [some (pv q), some (.int (p : Nat)), none] := rfl
  have eq2 : Nat.beq [pv q, .int (p : Nat)].length 2 = true := rfl
  unfold f_books_of gen
  rw [eq2, ee, b_books_eq]
  simp only [ySeq, yPlain, yFor, iVal, fn, sSeq, sSet, sPar, sIf, sRet, sNil, sExpr, tV, tAnd, tOr, tNot, xAnd, xOr, xNot, xIf, xII, xVV, xVH, xU, xC, xV, xTup, xLst, aCons, aNil, xCall, xCallZ, still, nth_0, nth_s, entry, somes, List.replicate, leave, List.append_nil, still_pv, still_int, still_nil, ep, nn, len_pv, el, eb, ni, em, eg]
  rfl

theorem Cn.last {c : Int} {v : List Va} (F : Fd c v) (hc : c + 1 < 1000) :
    ∃ v' C, sSeq pre (sSeq R8 (sSeq R9 R10)) (st0 n r p) [.lst v] = some (.rt (.bl true) [.lst v', C]) := by
  have er := K.run v
  have hpos := K.pos
  have hsome := K.lim
  unfold proj at er
  split at er
  · rename_i σ h e
    injection er with er
    simp only [Prod.mk.injEq] at er
    obtain ⟨e0, e3, e4, e8, e15, eh⟩ := er
    unfold ten at e15
    split at e15
    · rename_i a0 a1 a2 a3 a4 a5 a6 a7 a8 a9 a10 a11 a12 a13 a14
      simp only [nth_0, nth_s] at e0 e3 e4 e8
      subst e0 e3 e4 e8
      unfold fstC at eh
      split at eh
      · rename_i D C
        injection eh with eh
        subst eh
        obtain ⟨k, v', h0, h1, F', ed⟩ := draw_ok F hc (n := (Q.length : Nat)) (by omega) (by omega) [C]
        obtain ⟨m, rfl⟩ := Int.eq_ofNat_of_zero_le h0
        have hm : m < Q.length := by omega
        have ix := ixQ_ok [.lst v', C] Q hm
        have hq : Q[m] ∈ Q := List.getElem_mem hm
        generalize Q[m] = q at ix hq
        have eb := K.books hq v' C
        obtain ⟨_, _, en⟩ := K.q' hq
        have sB : short 1000000 (B.map (bk p n)) = true := by
          have := K.few
          rw [short_iff, List.length_map]
          exact decide_eq_true (by omega)
        have lcq : lcGo [6] (bN 6) (tV (xVV (xCallZ f_pattern_of (aCons (xV 6) aNil) []) (xV 13) gEq)) (xV 6) [some (.ref 0), a1, a2, some (.int (p : Nat)), some (.lst (B.map (bk p n))), a5, a6, a7, some (.lst (Q.map pv)), a9, a10, a11, a12, some (pv q), some (.lst ((B.filter fun z => natsBeq z.2 q).map (bk p n)))] (B.map (bk p n)) [.lst v', C] = some ((B.filter fun z => natsBeq z.2 q).map (bk p n), [.lst v', C]) := by
          refine lc_pure (i := 6) (bk p n) (fun z => natsBeq z.2 q) (bk p n) B (fun z hz => ?_) (fun z hz _ => ⟨rfl, rfl⟩)
          have e1 := K.pat' hz
          show tV _ [some (.ref 0), a1, a2, some (.int (p : Nat)), some (.lst (B.map (bk p n))), a5, some (bk p n z), a7, some (.lst (Q.map pv)), a9, a10, a11, a12, some (pv q), some (.lst ((B.filter fun z => natsBeq z.2 q).map (bk p n)))] _ = _
          simp only [fn, sSeq, sSet, sPar, sIf, sRet, sNil, sExpr, tV, tAnd, tOr, tNot, xAnd, xOr, xNot, xIf, xII, xVV, xVH, xU, xC, xV, xTup, xLst, aCons, aNil, xCall, xCallZ, still, nth_0, nth_s, entry, somes, List.replicate, leave, List.append_nil, still_bk, still_nil, e1, noL_pv, eq_pv, nb_dec]
        refine ⟨v', C, ?_⟩
        have t8 : R8 [some (.ref 0), a1, a2, some (.int (p : Nat)), some (.lst (B.map (bk p n))), a5, a6, a7, some (.lst (Q.map pv)), a9, a10, a11, a12, a13, a14] [.lst v, C] = some (.nx [some (.ref 0), a1, a2, some (.int (p : Nat)), some (.lst (B.map (bk p n))), a5, a6, a7, some (.lst (Q.map pv)), a9, a10, a11, a12, some (pv q), a14] [.lst v', C]) := by
          simp only [R8, fn, sSeq, sSet, sPar, sIf, sRet, sNil, sExpr, tV, tAnd, tOr, tNot, xAnd, xOr, xNot, xIf, xII, xVV, xVH, xU, xC, xV, xTup, xLst, aCons, aNil, xCall, xCallZ, still, nth_0, nth_s, entry, somes, List.replicate, leave, List.append_nil, lenQ_ok, ed, ix, List.set]
        have t9 : R9 [some (.ref 0), a1, a2, some (.int (p : Nat)), some (.lst (B.map (bk p n))), a5, a6, a7, some (.lst (Q.map pv)), a9, a10, a11, a12, some (pv q), a14] [.lst v', C] = some (.nx [some (.ref 0), a1, a2, some (.int (p : Nat)), some (.lst (B.map (bk p n))), a5, a6, a7, some (.lst (Q.map pv)), a9, a10, a11, a12, some (pv q), some (.lst ((B.filter fun z => natsBeq z.2 q).map (bk p n)))] [.lst v', C]) := by
          simp only [R9, xListG, fn, sSeq, sSet, sPar, sIf, sRet, sNil, sExpr, tV, tAnd, tOr, tNot, xAnd, xOr, xNot, xIf, xII, xVV, xVH, xU, xC, xV, xTup, xLst, aCons, aNil, xCall, xCallZ, still, nth_0, nth_s, entry, somes, List.replicate, leave, List.append_nil, eb, List.set]
        have t10 : R10 [some (.ref 0), a1, a2, some (.int (p : Nat)), some (.lst (B.map (bk p n))), a5, a6, a7, some (.lst (Q.map pv)), a9, a10, a11, a12, some (pv q), some (.lst ((B.filter fun z => natsBeq z.2 q).map (bk p n)))] [.lst v', C] = some (.rt (.bl true) [.lst v', C]) := by
          have e0 : allP [] = true := rfl
          have e1 : short 1000000 ([] : List Va) = true := rfl
          simp only [R10, xLC, iVal, fn, sSeq, sSet, sPar, sIf, sRet, sNil, sExpr, tV, tAnd, tOr, tNot, xAnd, xOr, xNot, xIf, xII, xVV, xVH, xU, xC, xV, xTup, xLst, aCons, aNil, xCall, xCallZ, still, nth_0, nth_s, entry, somes, List.replicate, leave, lcq, sB, eq_books, e0, e1, ne_books, en, Bool.not_false]
        simp only [sSeq, e, t8, t9, t10]
      · cases eh
    · cases e15
  · cases er
end
/-- each setting that can be drawn -/
theorem counts_of
    (s0 : ∃ B Q, Cn 2 1 3 B Q) (s1 : ∃ B Q, Cn 3 1 2 B Q) (s2 : ∃ B Q, Cn 3 2 2 B Q) (s3 : ∃ B Q, Cn 3 2 3 B Q) (s4 : ∃ B Q, Cn 4 2 2 B Q) (s5 : ∃ B Q, Cn 2 1 5 B Q)
    (c : Int) (v : List Va) (F : Fd c v) (hc : c < 900) : ∃ v', f__law_counts_right [.ref 0] [.lst v] = some (.bl true, [.lst v']) := by
  obtain ⟨k, v1, k0, k1, F1, ed⟩ := draw_ok F (by omega) (n := 6) (by omega) (by omega) []
  have ee : entry 15 [.ref 0] = [some (.ref 0), none, none, none, none, none, none, none, none, none, none, none, none, none, none] := rfl
  have eq2 : Nat.beq [Va.ref 0].length 1 = true := rfl
  have fin : ∀ {n r p : Nat} {B Q}, Cn n r p B Q → R0 [some (.ref 0), none, none, none, none, none, none, none, none, none, none, none, none, none, none] [.lst v] = some (.nx (st0 n r p) [.lst v1]) → ∃ v', f__law_counts_right [.ref 0] [.lst v] = some (.bl true, [.lst v']) := by
    intro n r p B Q K e
    obtain ⟨v2, C, el⟩ := K.last F1 (by omega)
    refine ⟨v2, ?_⟩
    unfold f__law_counts_right fn
    rw [eq2, ee, b_counts_two]
    have : sSeq R0 (sSeq pre (sSeq R8 (sSeq R9 R10))) [some (.ref 0), none, none, none, none, none, none, none, none, none, none, none, none, none, none] [.lst v] = some (.rt (.bl true) [.lst v2, C]) := by
      rw [← el]
      show (match R0 [some (.ref 0), none, none, none, none, none, none, none, none, none, none, none, none, none, none] [.lst v] with | some (.nx σ1 h1) => sSeq pre (sSeq R8 (sSeq R9 R10)) σ1 h1 | r => r) = _
      rw [e]
    rw [this]
    rfl
  have a6 : ∀ a b c : Int, allP [.int a, .int b, .int c] = true := fun _ _ _ => rfl
  have s6 : ∀ a b c : Va, short 1000000 [a, b, c] = true := fun _ _ _ => rfl
  have a7 : ∀ a b c d e f : List Va, allP [.tup a, .tup b, .tup c, .tup d, .tup e, .tup f] = true := fun _ _ _ _ _ _ => rfl
  have s7 : ∀ a b c d e f : Va, short 1000000 [a, b, c, d, e, f] = true := fun _ _ _ _ _ _ => rfl
  have hk : k = 0 ∨ k = 1 ∨ k = 2 ∨ k = 3 ∨ k = 4 ∨ k = 5 := by omega
  rcases hk with rfl | rfl | rfl | rfl | rfl | rfl
  · obtain ⟨B, Q, K⟩ := s0
    exact fin K (by simp only [R0, sUnp, fn, sSeq, sSet, sPar, sIf, sRet, sNil, sExpr, tV, tAnd, tOr, tNot, xAnd, xOr, xNot, xIf, xII, xVV, xVH, xU, xC, xV, xTup, xLst, aCons, aNil, xCall, xCallZ, still, nth_0, nth_s, entry, somes, List.replicate, leave, List.append_nil, a6, s6, a7, s7, ed]; rfl)
  · obtain ⟨B, Q, K⟩ := s1
    exact fin K (by simp only [R0, sUnp, fn, sSeq, sSet, sPar, sIf, sRet, sNil, sExpr, tV, tAnd, tOr, tNot, xAnd, xOr, xNot, xIf, xII, xVV, xVH, xU, xC, xV, xTup, xLst, aCons, aNil, xCall, xCallZ, still, nth_0, nth_s, entry, somes, List.replicate, leave, List.append_nil, a6, s6, a7, s7, ed]; rfl)
  · obtain ⟨B, Q, K⟩ := s2
    exact fin K (by simp only [R0, sUnp, fn, sSeq, sSet, sPar, sIf, sRet, sNil, sExpr, tV, tAnd, tOr, tNot, xAnd, xOr, xNot, xIf, xII, xVV, xVH, xU, xC, xV, xTup, xLst, aCons, aNil, xCall, xCallZ, still, nth_0, nth_s, entry, somes, List.replicate, leave, List.append_nil, a6, s6, a7, s7, ed]; rfl)
  · obtain ⟨B, Q, K⟩ := s3
    exact fin K (by simp only [R0, sUnp, fn, sSeq, sSet, sPar, sIf, sRet, sNil, sExpr, tV, tAnd, tOr, tNot, xAnd, xOr, xNot, xIf, xII, xVV, xVH, xU, xC, xV, xTup, xLst, aCons, aNil, xCall, xCallZ, still, nth_0, nth_s, entry, somes, List.replicate, leave, List.append_nil, a6, s6, a7, s7, ed]; rfl)
  · obtain ⟨B, Q, K⟩ := s4
    exact fin K (by simp only [R0, sUnp, fn, sSeq, sSet, sPar, sIf, sRet, sNil, sExpr, tV, tAnd, tOr, tNot, xAnd, xOr, xNot, xIf, xII, xVV, xVH, xU, xC, xV, xTup, xLst, aCons, aNil, xCall, xCallZ, still, nth_0, nth_s, entry, somes, List.replicate, leave, List.append_nil, a6, s6, a7, s7, ed]; rfl)
  · obtain ⟨B, Q, K⟩ := s5
    exact fin K (by simp only [R0, sUnp, fn, sSeq, sSet, sPar, sIf, sRet, sNil, sExpr, tV, tAnd, tOr, tNot, xAnd, xOr, xNot, xIf, xII, xVV, xVH, xU, xC, xV, xTup, xLst, aCons, aNil, xCall, xCallZ, still, nth_0, nth_s, entry, somes, List.replicate, leave, List.append_nil, a6, s6, a7, s7, ed]; rfl)
end EvP
end
section
set_option Elab.async false
set_option linter.all false
set_option maxRecDepth 100000
set_option maxHeartbeats 4000000
/-! PlP: the six settings. -/
namespace EvP
open Ev
open PySem (Str)
theorem by0 (v : List Va) (C : Cell) : f_books_by [.int (2 : Nat), .int (1 : Nat), .int (3 : Nat)] [.lst v, C] = some (.lst (B0.map (bk 3 2)), [.lst v, C]) := by kernel_rfl
theorem thr0 : (B0.all fun z => isPat z.2 (f_throws_in [bk 3 2 z] [])) = true := by decide +kernel
theorem bal0 : (Q0.all fun q => isI (1 : Nat) (f_balls_by [pv q] []) && Nat.beq q.length 2 && B0.any fun z => natsBeq z.2 q) = true := by decide +kernel
theorem set0 : Cn 2 1 3 B0 Q0 := ⟨run0, by0, thr0, bal0, by kernel_rfl, by decide, by decide, by decide⟩
theorem by1 (v : List Va) (C : Cell) : f_books_by [.int (3 : Nat), .int (1 : Nat), .int (2 : Nat)] [.lst v, C] = some (.lst (B1.map (bk 2 3)), [.lst v, C]) := by kernel_rfl
theorem thr1 : (B1.all fun z => isPat z.2 (f_throws_in [bk 2 3 z] [])) = true := by decide +kernel
theorem bal1 : (Q1.all fun q => isI (1 : Nat) (f_balls_by [pv q] []) && Nat.beq q.length 3 && B1.any fun z => natsBeq z.2 q) = true := by decide +kernel
theorem set1 : Cn 3 1 2 B1 Q1 := ⟨run1, by1, thr1, bal1, by kernel_rfl, by decide, by decide, by decide⟩
theorem by2 (v : List Va) (C : Cell) : f_books_by [.int (3 : Nat), .int (2 : Nat), .int (2 : Nat)] [.lst v, C] = some (.lst (B2.map (bk 2 3)), [.lst v, C]) := by kernel_rfl
theorem thr2 : (B2.all fun z => isPat z.2 (f_throws_in [bk 2 3 z] [])) = true := by decide +kernel
theorem bal2 : (Q2.all fun q => isI (2 : Nat) (f_balls_by [pv q] []) && Nat.beq q.length 3 && B2.any fun z => natsBeq z.2 q) = true := by decide +kernel
theorem set2 : Cn 3 2 2 B2 Q2 := ⟨run2, by2, thr2, bal2, by kernel_rfl, by decide, by decide, by decide⟩
theorem by3 (v : List Va) (C : Cell) : f_books_by [.int (3 : Nat), .int (2 : Nat), .int (3 : Nat)] [.lst v, C] = some (.lst (B3.map (bk 3 3)), [.lst v, C]) := by kernel_rfl
theorem thr3 : (B3.all fun z => isPat z.2 (f_throws_in [bk 3 3 z] [])) = true := by decide +kernel
theorem bal3 : (Q3.all fun q => isI (2 : Nat) (f_balls_by [pv q] []) && Nat.beq q.length 3 && B3.any fun z => natsBeq z.2 q) = true := by decide +kernel
theorem set3 : Cn 3 2 3 B3 Q3 := ⟨run3, by3, thr3, bal3, by kernel_rfl, by decide, by decide, by decide⟩
theorem by4 (v : List Va) (C : Cell) : f_books_by [.int (4 : Nat), .int (2 : Nat), .int (2 : Nat)] [.lst v, C] = some (.lst (B4.map (bk 2 4)), [.lst v, C]) := by kernel_rfl
theorem thr4 : (B4.all fun z => isPat z.2 (f_throws_in [bk 2 4 z] [])) = true := by decide +kernel
theorem bal4 : (Q4.all fun q => isI (2 : Nat) (f_balls_by [pv q] []) && Nat.beq q.length 4 && B4.any fun z => natsBeq z.2 q) = true := by decide +kernel
theorem set4 : Cn 4 2 2 B4 Q4 := ⟨run4, by4, thr4, bal4, by kernel_rfl, by decide, by decide, by decide⟩
theorem by5 (v : List Va) (C : Cell) : f_books_by [.int (2 : Nat), .int (1 : Nat), .int (5 : Nat)] [.lst v, C] = some (.lst (B5.map (bk 5 2)), [.lst v, C]) := by kernel_rfl
theorem thr5 : (B5.all fun z => isPat z.2 (f_throws_in [bk 5 2 z] [])) = true := by decide +kernel
theorem bal5 : (Q5.all fun q => isI (1 : Nat) (f_balls_by [pv q] []) && Nat.beq q.length 2 && B5.any fun z => natsBeq z.2 q) = true := by decide +kernel
theorem set5 : Cn 2 1 5 B5 Q5 := ⟨run5, by5, thr5, bal5, by kernel_rfl, by decide, by decide, by decide⟩
theorem counts_ok (c : Int) (v : List Va) (F : Fd c v) (hc : c < 900) : ∃ v', f__law_counts_right [.ref 0] [.lst v] = some (.bl true, [.lst v']) := counts_of ⟨_, _, set0⟩ ⟨_, _, set1⟩ ⟨_, _, set2⟩ ⟨_, _, set3⟩ ⟨_, _, set4⟩ ⟨_, _, set5⟩ c v F hc
end EvP
end
section
set_option Elab.async false
set_option linter.all false
/-! Plain: the law's def answers true at every script. -/
namespace EvP
open Ev
theorem plain (ns : List Int) (hns : ns.length ≤ 63) : ∃ h, Ev.f_law [.lst (ns.map Ev.Va.int)] [] = some (.bl true, h) :=
  plain_of CC KK made counts_ok ns hns
end EvP
end
section
set_option Elab.async false
set_option linter.all false
set_option maxRecDepth 100000
/-! EvRel: how the values and cells of EvSem lie in the heap of HandS. -/
namespace Ev
open PySem PySem.Spec PyProof.Rows L2

/-- what is fixed: the written part, the program, the world -/
structure Kx where
  k : PySem.W.Frag
  P : Program
  w : World
abbrev kx (X : Cx) : Kx := ⟨X.K, X.prog, X.w⟩

/-! ### values -/
/-- a tuple that has no dict of its own: of the written part, or of the heap with its object known -/
def SqN (K : PySem.W.Frag) (H : Hp) (a : Addr) (ys : List V) : Prop :=
  (∃ o : Obj, o.dict = none ∧ H a = some (.frz o (.tup ys))) ∨ ∃ (o : Obj) (its : Array Value) (n : Nat), K.lookup a = some o ∧ o.cls = .type "tuple" ∧ o.dict = none ∧ o.data = .seq its n ∧ its.size ≤ sizeLine ∧ Vals ys its.toList
theorem SqN.seq {K : PySem.W.Frag} {H : Hp} {a : Addr} {ys : List V} (h : SqN K H a ys) : SqT K H a ys := by
  rcases h with ⟨o, _, h⟩ | ⟨o, its, n, h1, h2, _, h3, h4, h5⟩
  · exact .inl (.inr ⟨o, h⟩)
  · exact .inr ⟨o, its, n, h1, h2, h3, h4, h5⟩
/-- the addresses of the cells, in order; those of the lists that are being built -/
structure Rh where
  c : List Addr
  d : List Addr
def Rh.off (ρ : Rh) (a : Addr) : Prop := a ∉ ρ.c ∧ a ∉ ρ.d
def Rh.add (ρ : Rh) (p : Addr) : Rh := ⟨ρ.c ++ [p], ρ.d⟩
/-- a list that does not change: outside of the cells, or of the written part -/
def LstAt (K : PySem.W.Frag) (ρ : Rh) (H : Hp) (a : Addr) (ys : List V) : Prop :=
  (ρ.off a ∧ Rd H a (.lst ys)) ∨ ∃ (o : Obj) (its : Array Value) (n : Nat), K.lookup a = some o ∧ o.cls = .type "list" ∧ o.dict = none ∧ o.data = .seq its n ∧ its.size ≤ sizeLine ∧ Vals ys its.toList
theorem LstAt.seq {K : PySem.W.Frag} {ρ : Rh} {H : Hp} {a : Addr} {ys : List V} (h : LstAt K ρ H a ys) : SqL K H a ys := by
  rcases h with ⟨_, h⟩ | h
  · exact .inl h
  · exact .inr h
mutual
inductive Rp (K : Kx) (ρ : Rh) (H : Hp) : V → Va → Prop where
  | non : Rp K ρ H .non .non
  | bl (b : Bool) : Rp K ρ H (.bl b) (.bl b)
  | int (i : Int) : Rp K ρ H (.int i) (.int i)
  | str (x : Str) : Rp K ρ H (.str x) (.str x)
  | tup {a : Addr} {ys : List V} {xs : List Va} (q : SqN K.k H a ys) (r : RpL K ρ H ys xs) : Rp K ρ H (.ref a) (.tup xs)
  | lst {a : Addr} {ys : List V} {xs : List Va} (q : LstAt K.k ρ H a ys) (r : RpL K ρ H ys xs) : Rp K ρ H (.ref a) (.lst xs)
inductive RpL (K : Kx) (ρ : Rh) (H : Hp) : List V → List Va → Prop where
  | nil : RpL K ρ H [] []
  | cons {y : V} {x : Va} {ys : List V} {xs : List Va} (h : Rp K ρ H y x) (t : RpL K ρ H ys xs) : RpL K ρ H (y :: ys) (x :: xs)
end
/-- a value of a slot: pure, or a cell -/
def RpT (K : Kx) (ρ : Rh) (H : Hp) (v : V) (x : Va) : Prop := Rp K ρ H v x ∨ ∃ n a, x = .ref n ∧ v = .ref a ∧ ρ.c[n]? = some a
/-- several such -/
inductive RpTs (K : Kx) (ρ : Rh) (H : Hp) : List V → List Va → Prop where
  | nil : RpTs K ρ H [] []
  | cons {y : V} {x : Va} {ys : List V} {xs : List Va} (h : RpT K ρ H y x) (t : RpTs K ρ H ys xs) : RpTs K ρ H (y :: ys) (x :: xs)

section
variable {K : Kx} {ρ ρ' : Rh} {H H' : Hp}
theorem RpL.length : ∀ {ys : List V} {xs : List Va}, RpL K ρ H ys xs → ys.length = xs.length
  | _, _, .nil => rfl
  | _, _, .cons _ t => congrArg Nat.succ (RpL.length t)
theorem RpTs.length : ∀ {ys : List V} {xs : List Va}, RpTs K ρ H ys xs → ys.length = xs.length
  | _, _, .nil => rfl
  | _, _, .cons _ t => congrArg Nat.succ (RpTs.length t)
theorem RpL.append : ∀ {ys ys' : List V} {xs xs' : List Va}, RpL K ρ H ys xs → RpL K ρ H ys' xs' → RpL K ρ H (ys ++ ys') (xs ++ xs')
  | _, _, _, _, .nil, s => s
  | _, _, _, _, .cons h t, s => .cons h (RpL.append t s)
theorem RpTs.append : ∀ {ys ys' : List V} {xs xs' : List Va}, RpTs K ρ H ys xs → RpTs K ρ H ys' xs' → RpTs K ρ H (ys ++ ys') (xs ++ xs')
  | _, _, _, _, .nil, s => s
  | _, _, _, _, .cons h t, s => .cons h (RpTs.append t s)
theorem RpL.get : ∀ {ys : List V} {xs : List Va} {i : Nat} {x : Va}, RpL K ρ H ys xs → xs[i]? = some x → ∃ y, ys[i]? = some y ∧ Rp K ρ H y x
  | _, _, _, _, .nil, e => by simp at e
  | _, _, 0, _, .cons h t, e => by
    simp at e
    subst e
    exact ⟨_, rfl, h⟩
  | _, _, i + 1, _, .cons h t, e => by
    obtain ⟨y, h1, h2⟩ := RpL.get (i := i) t (by simpa using e)
    exact ⟨y, by simpa using h1, h2⟩
theorem RpL.get' : ∀ {ys : List V} {xs : List Va} {i : Nat} {y : V}, RpL K ρ H ys xs → ys[i]? = some y → ∃ x, xs[i]? = some x ∧ Rp K ρ H y x
  | _, _, _, _, .nil, e => by simp at e
  | _, _, 0, _, .cons h t, e => by
    simp at e
    subst e
    exact ⟨_, rfl, h⟩
  | _, _, i + 1, _, .cons h t, e => by
    obtain ⟨y, h1, h2⟩ := RpL.get' (i := i) t (by simpa using e)
    exact ⟨y, by simpa using h1, h2⟩
theorem RpL.set {y : V} {x : Va} (r : Rp K ρ H y x) : ∀ {ys : List V} {xs : List Va} (i : Nat), RpL K ρ H ys xs → RpL K ρ H (ys.set i y) (xs.set i x)
  | _, _, _, .nil => .nil
  | _, _, 0, .cons _ t => .cons r t
  | _, _, i + 1, .cons q t => .cons q (RpL.set r i t)
theorem RpL.take : ∀ {ys : List V} {xs : List Va} (n : Nat), RpL K ρ H ys xs → RpL K ρ H (ys.take n) (xs.take n)
  | _, _, 0, _ => .nil
  | _, _, _ + 1, .nil => .nil
  | _, _, n + 1, .cons r t => .cons r (RpL.take n t)
theorem RpL.drop : ∀ {ys : List V} {xs : List Va} (n : Nat), RpL K ρ H ys xs → RpL K ρ H (ys.drop n) (xs.drop n)
  | _, _, 0, r => r
  | _, _, _ + 1, .nil => .nil
  | _, _, n + 1, .cons _ t => RpL.drop n t
theorem RpL.reverse : ∀ {ys : List V} {xs : List Va}, RpL K ρ H ys xs → RpL K ρ H ys.reverse xs.reverse
  | _, _, .nil => .nil
  | _, _, .cons r t => by
    rw [List.reverse_cons, List.reverse_cons]
    exact (RpL.reverse t).append (.cons r .nil)
theorem RpL.dropLast : ∀ {ys : List V} {xs : List Va}, RpL K ρ H ys xs → RpL K ρ H ys.dropLast xs.dropLast
  | _, _, .nil => .nil
  | _, _, .cons _ .nil => .nil
  | _, _, .cons r (.cons r' t) => .cons r (RpL.dropLast (.cons r' t))
theorem Rp.pure {v : V} {x : Va} (h : Rp K ρ H v x) : isP x = true := by cases h <;> rfl
theorem RpT.pure {v : V} {x : Va} (h : RpT K ρ H v x) (p : isP x = true) : Rp K ρ H v x := by
  rcases h with h | ⟨n, a, e, _⟩
  · exact h
  · subst e; cases p
theorem RpTs.pure : ∀ {ys : List V} {xs : List Va}, RpTs K ρ H ys xs → allP xs = true → RpL K ρ H ys xs
  | _, _, .nil, _ => .nil
  | _, x :: xs, .cons h t, p => by
    unfold allP at p
    cases e : isP x with
    | false => rw [e] at p; cases p
    | true => rw [e] at p; exact .cons (h.pure e) (RpTs.pure t p)
theorem RpL.tops : ∀ {ys : List V} {xs : List Va}, RpL K ρ H ys xs → RpTs K ρ H ys xs
  | _, _, .nil => .nil
  | _, _, .cons h t => .cons (.inl h) (RpL.tops t)

/-! ### the heap grows -/
/-- what is known of the old values, goes on -/
structure Mv (ρ : Rh) (H : Hp) (ρ' : Rh) (H' : Hp) : Prop where
  pre : ∃ t, ρ'.c = ρ.c ++ t
  keep : ∀ a o, ρ.off a → H a = some o → ρ'.off a ∧ H' a = some o
  tup : ∀ a xs, H a = some (.tup xs) → H' a = some (.tup xs)
  frz : ∀ a o u, H a = some (.frz o u) → H' a = some (.frz o u)
/-- .. as far as values go -/
structure Mw (ρ : Rh) (H : Hp) (ρ' : Rh) (H' : Hp) : Prop where
  pre : ∃ t, ρ'.c = ρ.c ++ t
  keep : ∀ a o, ρ.off a → H a = some o → ρ'.off a ∧ H' a = some o
  frz : ∀ a o xs, H a = some (.frz o (.tup xs)) → H' a = some (.frz o (.tup xs))
theorem Mv.w (x : Mv ρ H ρ' H') : Mw ρ H ρ' H' := ⟨x.pre, x.keep, fun a o xs h => x.frz a o _ h⟩
/-- all that is no cell stands; cells may be added; what is being built, stands -/
structure Ext (ρ : Rh) (H : Hp) (ρ' : Rh) (H' : Hp) : Prop extends Mv ρ H ρ' H' where
  hid : ρ'.d = ρ.d
  keepD : ∀ a ∈ ρ.d, H' a = H a
theorem Mv.refl : Mv ρ H ρ H := ⟨⟨[], by simp⟩, fun _ _ h1 h2 => ⟨h1, h2⟩, fun _ _ h => h, fun _ _ _ h => h⟩
theorem Ext.refl : Ext ρ H ρ H := ⟨.refl, rfl, fun _ _ => rfl⟩
theorem Mv.trans {ρ1 ρ2 ρ3 : Rh} {H1 H2 H3 : Hp} (a : Mv ρ1 H1 ρ2 H2) (b : Mv ρ2 H2 ρ3 H3) : Mv ρ1 H1 ρ3 H3 := by
  obtain ⟨t1, e1⟩ := a.pre
  obtain ⟨t2, e2⟩ := b.pre
  refine ⟨⟨t1 ++ t2, by rw [e2, e1, List.append_assoc]⟩, fun c o h1 h2 => ?_, fun c xs h => b.tup c xs (a.tup c xs h), fun c o u h => b.frz c o u (a.frz c o u h)⟩
  obtain ⟨h3, h4⟩ := a.keep c o h1 h2
  exact b.keep c o h3 h4
theorem Ext.trans {ρ1 ρ2 ρ3 : Rh} {H1 H2 H3 : Hp} (a : Ext ρ1 H1 ρ2 H2) (b : Ext ρ2 H2 ρ3 H3) : Ext ρ1 H1 ρ3 H3 :=
  ⟨a.toMv.trans b.toMv, b.hid.trans a.hid, fun c hc => (b.keepD c (by rw [a.hid]; exact hc)).trans (a.keepD c hc)⟩
theorem Mw.rd {u : HO} (x : Mw ρ H ρ' H') {a : Addr} (hn : ρ.off a) (h : Rd H a u) : ρ'.off a ∧ Rd H' a u := by
  rcases h with h | ⟨o, h⟩
  · obtain ⟨h1, h2⟩ := x.keep a _ hn h
    exact ⟨h1, .inl h2⟩
  · obtain ⟨h1, h2⟩ := x.keep a _ hn h
    exact ⟨h1, .inr ⟨o, h2⟩⟩
theorem Mw.sqN (x : Mw ρ H ρ' H') {a : Addr} {ys : List V} (h : SqN K.k H a ys) : SqN K.k H' a ys := by
  rcases h with ⟨o, h1, h⟩ | h
  · exact .inl ⟨o, h1, x.frz _ _ _ h⟩
  · exact .inr h
theorem Mw.lstAt (x : Mw ρ H ρ' H') {a : Addr} {ys : List V} (h : LstAt K.k ρ H a ys) : LstAt K.k ρ' H' a ys := by
  rcases h with ⟨hn, h⟩ | h
  · exact .inl (x.rd hn h)
  · exact .inr h
mutual
theorem Rp.mw (x : Mw ρ H ρ' H') : ∀ {v : V} {y : Va}, Rp K ρ H v y → Rp K ρ' H' v y
  | _, _, .non => .non
  | _, _, .bl b => .bl b
  | _, _, .int i => .int i
  | _, _, .str s => .str s
  | _, _, .tup q r => .tup (x.sqN q) (RpL.mw x r)
  | _, _, .lst q r => .lst (x.lstAt q) (RpL.mw x r)
theorem RpL.mw (x : Mw ρ H ρ' H') : ∀ {ys : List V} {xs : List Va}, RpL K ρ H ys xs → RpL K ρ' H' ys xs
  | _, _, .nil => .nil
  | _, _, .cons h t => .cons (Rp.mw x h) (RpL.mw x t)
end
theorem RpT.mw (x : Mw ρ H ρ' H') {v : V} {y : Va} (h : RpT K ρ H v y) : RpT K ρ' H' v y := by
  rcases h with h | ⟨n, a, e1, e2, e3⟩
  · exact .inl (h.mw x)
  · obtain ⟨t, e⟩ := x.pre
    refine .inr ⟨n, a, e1, e2, ?_⟩
    rw [e, List.getElem?_append_left]
    · exact e3
    · exact (List.getElem?_eq_some_iff.mp e3).1
theorem RpTs.mw (x : Mw ρ H ρ' H') : ∀ {ys : List V} {xs : List Va}, RpTs K ρ H ys xs → RpTs K ρ' H' ys xs
  | _, _, .nil => .nil
  | _, _, .cons h t => .cons (h.mw x) (RpTs.mw x t)

theorem Mv.sqN (x : Mv ρ H ρ' H') {a : Addr} {ys : List V} (h : SqN K.k H a ys) : SqN K.k H' a ys := x.w.sqN h
theorem Mv.lstAt (x : Mv ρ H ρ' H') {a : Addr} {ys : List V} (h : LstAt K.k ρ H a ys) : LstAt K.k ρ' H' a ys := x.w.lstAt h
theorem Ext.sqN (x : Ext ρ H ρ' H') {a : Addr} {ys : List V} (h : SqN K.k H a ys) : SqN K.k H' a ys := x.toMv.w.sqN h
theorem Rp.mv {v : V} {y : Va} (h : Rp K ρ H v y) (x : Mv ρ H ρ' H') : Rp K ρ' H' v y := h.mw x.w
theorem RpL.mv {v : List V} {y : List Va} (h : RpL K ρ H v y) (x : Mv ρ H ρ' H') : RpL K ρ' H' v y := h.mw x.w
theorem RpT.mv {v : V} {y : Va} (h : RpT K ρ H v y) (x : Mv ρ H ρ' H') : RpT K ρ' H' v y := h.mw x.w
theorem RpTs.mv {v : List V} {y : List Va} (h : RpTs K ρ H v y) (x : Mv ρ H ρ' H') : RpTs K ρ' H' v y := h.mw x.w
theorem Rp.ext {v : V} {y : Va} (h : Rp K ρ H v y) (x : Ext ρ H ρ' H') : Rp K ρ' H' v y := h.mv x.toMv
theorem RpL.ext {v : List V} {y : List Va} (h : RpL K ρ H v y) (x : Ext ρ H ρ' H') : RpL K ρ' H' v y := h.mv x.toMv
theorem RpT.ext {v : V} {y : Va} (h : RpT K ρ H v y) (x : Ext ρ H ρ' H') : RpT K ρ' H' v y := h.mv x.toMv
theorem RpTs.ext {v : List V} {y : List Va} (h : RpTs K ρ H v y) (x : Ext ρ H ρ' H') : RpTs K ρ' H' v y := h.mv x.toMv

/-! ### cells -/
def kI (kvs : List (Int × V)) : List (Key × V) := kvs.map fun p => (Sum.inl p.1, p.2)
/-- a dict whose keys are tuples of ints: the keys, their objects, the values -/
abbrev KyT := List (List Int × Addr × V)
def KyR : KyT → List (List Key × Addr × Value) → Prop := Paired fun p q => p.1.map Sum.inl = q.1 ∧ p.2.1 = q.2.1 ∧ RelV p.2.2 q.2.2
/-- what holds of its object -/
def DtH (P : Program) (w : World) (a : Addr) (kys : KyT) (h : Heap) : Prop := kys.length ≤ sizeLine ∧ (a == sysModules) = false ∧ ∃ xs, KyR kys xs ∧
  ∃ o es ep, h.get? a = some o ∧ o.ExactDict ∧ o.data = .dict es ep ∧ es.toList = xs.map (entryOfKey (tupleKind (mixKind P w))) ∧ (xs.map (·.1)).Nodup
def dtO (P : Program) (w : World) (a : Addr) (kys : KyT) : HO := .ext (DtH P w a kys)
/-- the pairs of a dict -/
inductive RpK {κ : Type} (K : Kx) (ρ : Rh) (H : Hp) : List (κ × V) → List (κ × Va) → Prop where
  | nil : RpK K ρ H [] []
  | cons {k : κ} {y : V} {x : Va} {ys : List (κ × V)} {xs : List (κ × Va)} (h : Rp K ρ H y x) (t : RpK K ρ H ys xs) : RpK K ρ H ((k, y) :: ys) ((k, x) :: xs)
theorem RpK.mw {κ : Type} (x : Mw ρ H ρ' H') : ∀ {ys : List (κ × V)} {xs : List (κ × Va)}, RpK K ρ H ys xs → RpK K ρ' H' ys xs
  | _, _, .nil => .nil
  | _, _, .cons h t => .cons (h.mw x) (RpK.mw x t)
theorem RpK.length {κ : Type} : ∀ {ys : List (κ × V)} {xs : List (κ × Va)}, RpK K ρ H ys xs → ys.length = xs.length
  | _, _, .nil => rfl
  | _, _, .cons _ t => congrArg Nat.succ (RpK.length t)
/-- the pairs of such a dict -/
inductive RpY (K : Kx) (ρ : Rh) (H : Hp) : KyT → List (List Int × Va) → Prop where
  | nil : RpY K ρ H [] []
  | cons {k : List Int} {b : Addr} {y : V} {x : Va} {ys : KyT} {xs : List (List Int × Va)} (q : SqN K.k H b (k.map V.int)) (h : Rp K ρ H y x) (t : RpY K ρ H ys xs) : RpY K ρ H ((k, b, y) :: ys) ((k, x) :: xs)
theorem RpY.mw (x : Mw ρ H ρ' H') : ∀ {ys : KyT} {xs : List (List Int × Va)}, RpY K ρ H ys xs → RpY K ρ' H' ys xs
  | _, _, .nil => .nil
  | _, _, .cons q h t => .cons (x.sqN q) (h.mw x) (RpY.mw x t)
theorem RpY.length : ∀ {ys : KyT} {xs : List (List Int × Va)}, RpY K ρ H ys xs → ys.length = xs.length
  | _, _, .nil => rfl
  | _, _, .cons _ _ t => congrArg Nat.succ (RpY.length t)
def CellOk (K : Kx) (ρ : Rh) (H : Hp) (a : Addr) : Cell → Prop
  | .lst xs => ∃ ys, H a = some (.lst ys) ∧ RpL K ρ H ys xs
  | .dI kvs => ∃ kys, H a = some (.dK (kI kys)) ∧ RpK K ρ H kys kvs
  | .dT kvs => ∃ kys, H a = some (dtO K.P K.w a kys) ∧ RpY K ρ H kys kvs
  | .hid => ∃ o u, H a = some (.frz o u) ∧ (∀ xs, u ≠ .tup xs) ∧ ∀ xs, u ≠ .lst xs
/-- the cells, in order -/
structure HvR (K : Kx) (ρ : Rh) (H : Hp) (h : Hv) : Prop where
  len : ρ.c.length = h.length
  nd : ρ.c.Nodup
  at_ : ∀ (n : Nat) (a : Addr) (c : Cell), ρ.c[n]? = some a → h[n]? = some c → CellOk K ρ H a c
  dd : ∀ a ∈ ρ.d, a ∉ ρ.c ∧ ∃ xs, H a = some (.lst xs)
theorem CellOk.there {a : Addr} {c : Cell} (h : CellOk K ρ H a c) : ∃ o, H a = some o ∧ (∀ xs, o ≠ .tup xs) := by
  cases c with
  | lst xs => obtain ⟨ys, e, _⟩ := h; exact ⟨_, e, by intro xs q; cases q⟩
  | dI kvs => obtain ⟨ys, e, _⟩ := h; exact ⟨_, e, by intro xs q; cases q⟩
  | dT kvs => obtain ⟨ys, e, _⟩ := h; exact ⟨_, e, by intro xs q; cases q⟩
  | hid => obtain ⟨o, u, e, _⟩ := h; exact ⟨_, e, by intro xs q; cases q⟩
def Cell.open : Cell → Bool
  | .hid => false
  | _ => true
theorem CellOk.mut {a : Addr} {c : Cell} (h : CellOk K ρ H a c) (hc : c.open = true) : ∃ o, H a = some o ∧ Mut (some o) ∧ (∀ xs, o ≠ .tup xs) ∧ (∀ q u, o ≠ .frz q u) := by
  cases c with
  | lst xs => obtain ⟨ys, e, _⟩ := h; exact ⟨_, e, trivial, (by intro xs q; cases q), (by intro q u z; cases z)⟩
  | dI kvs => obtain ⟨ys, e, _⟩ := h; exact ⟨_, e, trivial, (by intro xs q; cases q), (by intro q u z; cases z)⟩
  | dT kvs => obtain ⟨ys, e, _⟩ := h; exact ⟨_, e, trivial, (by intro xs q; cases q), (by intro q u z; cases z)⟩
  | hid => cases hc
theorem CellOk.ew (x : Mw ρ H ρ' H') {a : Addr} {c : Cell} (e : H' a = H a) (h : CellOk K ρ H a c) : CellOk K ρ' H' a c := by
  cases c with
  | lst xs =>
    obtain ⟨ys, h1, h2⟩ := h
    exact ⟨ys, by rw [e]; exact h1, h2.mw x⟩
  | dI kvs =>
    obtain ⟨ys, h1, h2⟩ := h
    exact ⟨ys, by rw [e]; exact h1, h2.mw x⟩
  | dT kvs =>
    obtain ⟨ys, h1, h2⟩ := h
    exact ⟨ys, by rw [e]; exact h1, h2.mw x⟩
  | hid =>
    obtain ⟨o, u, h1, h2⟩ := h
    exact ⟨o, u, by rw [e]; exact h1, h2⟩
theorem CellOk.ext (x : Mv ρ H ρ' H') {a : Addr} {c : Cell} (e : H' a = H a) (h : CellOk K ρ H a c) : CellOk K ρ' H' a c := CellOk.ew x.w e h
theorem HvR.ix {h : Hv} (R : HvR K ρ H h) {a : Addr} (m : a ∈ ρ.c) : ∃ (n : Nat) (c : Cell), ρ.c[n]? = some a ∧ h[n]? = some c ∧ CellOk K ρ H a c := by
  obtain ⟨n, hn, e⟩ := List.mem_iff_getElem.mp m
  have hn2 : n < h.length := by rw [← R.len]; exact hn
  have e1 : ρ.c[n]? = some a := by rw [List.getElem?_eq_getElem hn, e]
  have e2 : h[n]? = some h[n] := List.getElem?_eq_getElem hn2
  exact ⟨n, h[n], e1, e2, R.at_ n a _ e1 e2⟩
theorem HvR.out {h : Hv} (R : HvR K ρ H h) {p : Addr} (hp : H p = none) : ρ.off p := by
  refine ⟨fun m => ?_, fun m => ?_⟩
  · obtain ⟨n, c, _, _, ok⟩ := R.ix m
    obtain ⟨o, e, _⟩ := ok.there
    rw [hp] at e; cases e
  · obtain ⟨_, xs, e⟩ := R.dd p m
    rw [hp] at e; cases e
theorem HvR.tupOut {h : Hv} (R : HvR K ρ H h) {p : Addr} {xs : List V} (hp : H p = some (.tup xs)) : ρ.off p := by
  refine ⟨fun m => ?_, fun m => ?_⟩
  · obtain ⟨n, c, _, _, ok⟩ := R.ix m
    obtain ⟨o, e, z⟩ := ok.there
    rw [hp] at e; cases e
    exact z _ rfl
  · obtain ⟨_, xs, e⟩ := R.dd p m
    rw [hp] at e; cases e
/-- a new object that is no cell -/
theorem Ext.upd {h : Hv} {p : Addr} {o : HO} (R : HvR K ρ H h) (hp : H p = none) : Ext ρ H ρ (L2.upd H p o) :=
  ⟨⟨⟨[], by simp⟩, fun a u h1 h2 => ⟨h1, by rw [upd_ne (ne_of_none h2 hp)]; exact h2⟩, fun a xs h => by rw [upd_ne (ne_of_none h hp)]; exact h, fun a q u h => by rw [upd_ne (ne_of_none h hp)]; exact h⟩, rfl,
    fun a ha => upd_ne fun e => (R.out hp).2 (e ▸ ha)⟩
theorem HvR.upd {h : Hv} {p : Addr} {o : HO} (R : HvR K ρ H h) (hp : H p = none) : HvR K ρ (L2.upd H p o) h :=
  ⟨R.len, R.nd, fun n a c e1 e2 => by
    have ok := R.at_ n a c e1 e2
    refine ok.ext (Ext.upd R hp).toMv ?_
    obtain ⟨u, e, _⟩ := ok.there
    rw [upd_ne (ne_of_none e hp)], fun a ha => ⟨(R.dd a ha).1, by
    obtain ⟨_, xs, e⟩ := R.dd a ha
    exact ⟨xs, by rw [upd_ne (ne_of_none e hp)]; exact e⟩⟩⟩
/-- a new cell -/
theorem Ext.new {h : Hv} {p : Addr} {o : HO} (R : HvR K ρ H h) (hp : H p = none) : Ext ρ H (ρ.add p) (L2.upd H p o) :=
  ⟨⟨⟨[p], rfl⟩, fun a u h1 h2 => ⟨⟨fun m => by
    rcases List.mem_append.mp m with m | m
    · exact h1.1 m
    · exact ne_of_none h2 hp (List.mem_singleton.mp m), h1.2⟩, by rw [upd_ne (ne_of_none h2 hp)]; exact h2⟩, fun a xs h => by rw [upd_ne (ne_of_none h hp)]; exact h, fun a q u h => by rw [upd_ne (ne_of_none h hp)]; exact h⟩, rfl,
    fun a ha => upd_ne fun e => (R.out hp).2 (e ▸ ha)⟩
theorem HvR.new {h : Hv} {p : Addr} {o : HO} {c : Cell} (R : HvR K ρ H h) (hp : H p = none) (ok : CellOk K (ρ.add p) (L2.upd H p o) p c) : HvR K (ρ.add p) (L2.upd H p o) (h ++ [c]) := by
  have out := R.out hp
  refine ⟨by show (ρ.c ++ [p]).length = _; rw [List.length_append, List.length_append, R.len]; rfl, ?_, fun n a c' e1 e2 => ?_, fun a ha => ?_⟩
  · show (ρ.c ++ [p]).Nodup
    rw [List.nodup_append]
    refine ⟨R.nd, by simp, fun a ha b hb => ?_⟩
    rw [List.mem_singleton.mp hb]
    exact fun e => out.1 (e ▸ ha)
  · have e1' : (ρ.c ++ [p])[n]? = some a := e1
    by_cases hn : n < ρ.c.length
    · rw [List.getElem?_append_left hn] at e1'
      rw [List.getElem?_append_left (by rw [← R.len]; exact hn)] at e2
      have ok' := R.at_ n a c' e1' e2
      refine ok'.ext (Ext.new R hp).toMv ?_
      obtain ⟨u, e, _⟩ := ok'.there
      rw [upd_ne (ne_of_none e hp)]
    · have hn' : n = ρ.c.length := by
        have h2 := (List.getElem?_eq_some_iff.mp e1').1
        rw [List.length_append, List.length_singleton] at h2
        omega
      subst hn'
      rw [List.getElem?_append_right (Nat.le_refl _), Nat.sub_self] at e1'
      have ea : p = a := Option.some.inj e1'
      subst ea
      rw [R.len, List.getElem?_append_right (Nat.le_refl _), Nat.sub_self] at e2
      have ec : c = c' := Option.some.inj e2
      subst ec
      exact ok
  · have ha' : a ∈ ρ.d := ha
    obtain ⟨h1, xs, h2⟩ := R.dd a ha'
    refine ⟨fun m => ?_, xs, by rw [upd_ne (ne_of_none h2 hp)]; exact h2⟩
    have m' : a ∈ ρ.c ++ [p] := m
    rcases List.mem_append.mp m' with m | m
    · exact h1 m
    · exact ne_of_none h2 hp (List.mem_singleton.mp m)
/-- the cell just made -/
theorem Rh.last {h : Hv} {p : Addr} (R : HvR K ρ H h) : (ρ.add p).c[h.length]? = some p := by
  show (ρ.c ++ [p])[h.length]? = some p
  rw [← R.len, List.getElem?_append_right (Nat.le_refl _), Nat.sub_self]
  rfl
/-- a cell is written -/
theorem Ext.write {h : Hv} {p : Addr} {n : Nat} {o : HO} {c0 : Cell} (R : HvR K ρ H h) (hp : ρ.c[n]? = some p) (h0 : h[n]? = some c0) (hc : c0.open = true) : Ext ρ H ρ (L2.upd H p o) := by
  have m : p ∈ ρ.c := List.mem_of_getElem? hp
  obtain ⟨u, e, _, z1, z2⟩ := (R.at_ n p c0 hp h0).mut hc
  refine ⟨⟨⟨[], by simp⟩, fun a o' h1 h2 => ⟨h1, ?_⟩, fun a xs h => ?_, fun a q w h => ?_⟩, rfl, fun a ha => upd_ne fun q => (R.dd a ha).1 (q ▸ m)⟩
  · rw [upd_ne (fun q : a = p => h1.1 (by rw [q]; exact m))]; exact h2
  · rw [upd_ne (fun q => by subst q; rw [h] at e; cases e; exact z1 _ rfl)]; exact h
  · rw [upd_ne (fun q => by subst q; rw [h] at e; cases e; exact z2 _ _ rfl)]; exact h
theorem nodup_addr {l : List Addr} (hN : l.Nodup) {i j : Nat} {x : Addr} (a : l[i]? = some x) (b : l[j]? = some x) : i = j := by
  obtain ⟨h1, e1⟩ := List.getElem?_eq_some_iff.mp a
  obtain ⟨h2, e2⟩ := List.getElem?_eq_some_iff.mp b
  exact (List.getElem_inj hN).mp (e1.trans e2.symm)
theorem HvR.write {h : Hv} {p : Addr} {n : Nat} {o : HO} {c0 c : Cell} (R : HvR K ρ H h) (hp : ρ.c[n]? = some p) (h0 : h[n]? = some c0) (hc : c0.open = true) (ok : CellOk K ρ (L2.upd H p o) p c) : HvR K ρ (L2.upd H p o) (h.set n c) := by
  have x := Ext.write (o := o) R hp h0 hc
  refine ⟨by rw [List.length_set]; exact R.len, R.nd, fun m a c' e1 e2 => ?_, fun a ha => ⟨(R.dd a ha).1, ?_⟩⟩
  · by_cases hm : n = m
    · subst hm
      rw [hp] at e1; cases e1
      have hn : n < h.length := by rw [← R.len]; exact (List.getElem?_eq_some_iff.mp hp).1
      rw [List.getElem?_set_self hn] at e2
      cases e2
      exact ok
    · rw [List.getElem?_set_ne hm] at e2
      refine (R.at_ m a c' e1 e2).ext x.toMv ?_
      refine upd_ne fun q => hm ?_
      subst q
      exact nodup_addr R.nd hp e1
  · obtain ⟨_, xs, e⟩ := R.dd a ha
    exact ⟨xs, by rw [x.keepD a ha]; exact e⟩
/-- a list that is being built is written -/
theorem Mv.build {h : Hv} {p : Addr} {zs : List V} (R : HvR K ρ H h) (hp : p ∈ ρ.d) : Mv ρ H ρ (L2.upd H p (.lst zs)) := by
  obtain ⟨_, xs, e⟩ := R.dd p hp
  refine ⟨⟨[], by simp⟩, fun a o' h1 h2 => ⟨h1, ?_⟩, fun a xs h => ?_, fun a q w h => ?_⟩
  · rw [upd_ne (fun q : a = p => h1.2 (by rw [q]; exact hp))]; exact h2
  · rw [upd_ne (fun q => by subst q; rw [h] at e; cases e)]; exact h
  · rw [upd_ne (fun q => by subst q; rw [h] at e; cases e)]; exact h
theorem HvR.build {h : Hv} {p : Addr} {zs : List V} (R : HvR K ρ H h) (hp : p ∈ ρ.d) : HvR K ρ (L2.upd H p (.lst zs)) h := by
  refine ⟨R.len, R.nd, fun m a c' e1 e2 => (R.at_ m a c' e1 e2).ext (Mv.build R hp) (upd_ne fun q => ?_), fun a ha => ⟨(R.dd a ha).1, ?_⟩⟩
  · exact (R.dd p hp).1 (q ▸ List.mem_of_getElem? e1)
  · by_cases q : a = p
    · rw [q]; exact ⟨zs, upd_same⟩
    · obtain ⟨_, xs, e⟩ := R.dd a ha
      exact ⟨xs, by rw [upd_ne q]; exact e⟩
/-- a list begins to be built -/
theorem Mv.begin {h : Hv} {p : Addr} {zs : List V} (R : HvR K ρ H h) (hp : H p = none) : Mv ρ H ⟨ρ.c, p :: ρ.d⟩ (L2.upd H p (.lst zs)) :=
  ⟨⟨[], by simp⟩, fun a o h1 h2 => ⟨⟨h1.1, fun m => by
    rcases List.mem_cons.mp m with m | m
    · exact ne_of_none h2 hp m
    · exact h1.2 m⟩, by rw [upd_ne (ne_of_none h2 hp)]; exact h2⟩, fun a xs h => by rw [upd_ne (ne_of_none h hp)]; exact h, fun a q u h => by rw [upd_ne (ne_of_none h hp)]; exact h⟩
theorem HvR.begin {h : Hv} {p : Addr} {zs : List V} (R : HvR K ρ H h) (hp : H p = none) : HvR K ⟨ρ.c, p :: ρ.d⟩ (L2.upd H p (.lst zs)) h := by
  refine ⟨R.len, R.nd, fun n a c e1 e2 => ?_, fun a ha => ?_⟩
  · have ok := R.at_ n a c e1 e2
    refine ok.ext (Mv.begin R hp) ?_
    obtain ⟨u, e, _⟩ := ok.there
    rw [upd_ne (ne_of_none e hp)]
  · rcases List.mem_cons.mp ha with m | m
    · rw [m]
      exact ⟨(R.out hp).1, zs, upd_same⟩
    · obtain ⟨h1, xs, e⟩ := R.dd a m
      exact ⟨h1, xs, by rw [upd_ne (ne_of_none e hp)]; exact e⟩
/-- .. and is done -/
theorem Mv.done {c d : List Addr} {p : Addr} : Mv ⟨c, p :: d⟩ H ⟨c, d⟩ H := ⟨⟨[], by simp⟩, fun a o h1 h2 => ⟨⟨h1.1, fun m => h1.2 (List.mem_cons_of_mem _ m)⟩, h2⟩, fun _ _ h => h, fun _ _ _ h => h⟩
theorem HvR.done {c d : List Addr} {p : Addr} {h : Hv} (R : HvR K ⟨c, p :: d⟩ H h) : HvR K ⟨c, d⟩ H h :=
  ⟨R.len, R.nd, fun n a c e1 e2 => (R.at_ n a c e1 e2).ext Mv.done rfl, fun a ha => R.dd a (List.mem_cons_of_mem _ ha)⟩

/-! ### slots -/
def RpO (K : Kx) (ρ : Rh) (H : Hp) : Option V → Option Va → Prop
  | some v, some x => RpT K ρ H v x
  | none, some _ => False
  | _, none => True
inductive StR (K : Kx) (ρ : Rh) (H : Hp) : L2.St → Sv → Prop where
  | nil : StR K ρ H [] []
  | cons {v : Option V} {x : Option Va} {vs : L2.St} {xs : Sv} (h : RpO K ρ H v x) (t : StR K ρ H vs xs) : StR K ρ H (v :: vs) (x :: xs)
theorem RpO.mv (x : Mv ρ H ρ' H') {v : Option V} {y : Option Va} (h : RpO K ρ H v y) : RpO K ρ' H' v y := by
  cases v with
  | none => cases y with
    | none => trivial
    | some y => exact h
  | some v => cases y with
    | none => trivial
    | some y => exact RpT.mv h x
theorem StR.mv (x : Mv ρ H ρ' H') : ∀ {σ : L2.St} {σv : Sv}, StR K ρ H σ σv → StR K ρ' H' σ σv
  | _, _, .nil => .nil
  | _, _, .cons h t => .cons (h.mv x) (StR.mv x t)
theorem StR.ext {σ : L2.St} {σv : Sv} (h : StR K ρ H σ σv) (x : Ext ρ H ρ' H') : StR K ρ' H' σ σv := h.mv x.toMv
theorem StR.set {v : Option V} {x : Option Va} (r : RpO K ρ H v x) : ∀ {σ : L2.St} {σv : Sv} (i : Nat), StR K ρ H σ σv → StR K ρ H (σ.set i v) (σv.set i x)
  | _, _, _, .nil => .nil
  | _, _, 0, .cons _ t => .cons r t
  | _, _, i + 1, .cons q t => .cons q (StR.set r i t)
theorem StR.nth : ∀ {σ : L2.St} {σv : Sv} {i : Nat} {x : Va}, StR K ρ H σ σv → nth σv i = some x → ∃ v, σ[i]? = some (some v) ∧ RpT K ρ H v x
  | _, _, _, _, .nil, e => by cases e
  | _, _, 0, x, .cons (v := v) (x := y) h t, e => by
    have e' : y = some x := e
    subst e'
    cases v with
    | none => exact h.elim
    | some v => exact ⟨v, rfl, h⟩
  | _, _, i + 1, x, .cons h t, e => by
    obtain ⟨v, h1, h2⟩ := StR.nth (i := i) t e
    exact ⟨v, by simpa using h1, h2⟩
theorem StR.wipe {σ : L2.St} {σv : Sv} (r : StR K ρ H σ σv) : ∀ vs : List Nat, StR K ρ H (L2.wipe σ vs) (wip σv vs)
  | [] => r
  | v :: vs => StR.set (v := none) (x := none) trivial v (StR.wipe r vs)
theorem StR.start : ∀ {n : Nat} {vs : List V} {xs : List Va}, RpTs K ρ H vs xs → StR K ρ H (vs.map some ++ List.replicate n none) (somes xs ++ List.replicate n none)
  | n, _, _, .nil => by
    show StR K ρ H (List.replicate n none) (List.replicate n none)
    induction n with
    | zero => exact .nil
    | succ n ih => exact .cons (v := none) (x := none) trivial ih
  | _, _, _, .cons h t => .cons h (StR.start t)
theorem cellAt_eq : ∀ (h : Hv) (n : Nat), cellAt h n = h[n]?
  | [], _ => by simp [cellAt]
  | _ :: _, 0 => rfl
  | _ :: r, n + 1 => by
    show cellAt r n = _
    rw [cellAt_eq r n]
    simp
theorem setC_eq : ∀ (h : Hv) (n : Nat) (c : Cell), setC h n c = h.set n c
  | [], _, _ => rfl
  | _ :: _, 0, _ => rfl
  | _ :: r, n + 1, c => by
    show _ :: setC r n c = _
    rw [setC_eq r n c]
    rfl
/-- the cell n -/
theorem HvR.cell {h : Hv} (R : HvR K ρ H h) {n : Nat} {a : Addr} {c : Cell} (e : ρ.c[n]? = some a) (ec : cellAt h n = some c) : CellOk K ρ H a c := R.at_ n a c e (by rw [← cellAt_eq]; exact ec)
end
end Ev
end
section
set_option Elab.async false
set_option linter.all false
set_option maxRecDepth 100000
/-! EvExp: an expression's reading by its combinator (SE), one lemma a construct. -/
namespace Ev
open PySem PySem.Spec PyProof.Rows L2

/-! ### readings by combinators -/
def eOf (K : Kx) (m : EM) : TE := fun σ H Q => ∃ ρ σv h v h', StR K ρ H σ σv ∧ HvR K ρ H h ∧ m σv h = some (v, h') ∧
  ∀ ρ' H' x, Ext ρ H ρ' H' → HvR K ρ' H' h' → RpT K ρ' H' x v → Q x H'
def aOf (K : Kx) (m : AM) : TA := fun σ H Q => ∃ ρ σv h v h', StR K ρ H σ σv ∧ HvR K ρ H h ∧ m σv h = some (v, h') ∧
  ∀ ρ' H' x, Ext ρ H ρ' H' → HvR K ρ' H' h' → RpTs K ρ' H' x v → Q x H'
def bOf (K : Kx) (m : BM) : TT := fun σ H Q => ∃ ρ σv h v h', StR K ρ H σ σv ∧ HvR K ρ H h ∧ m σv h = some (v, h') ∧
  ∀ ρ' H', Ext ρ H ρ' H' → HvR K ρ' H' h' → Q v H'
abbrev SE (X : Cx) (e : Expr) (m : EM) : Prop := PE X e (eOf (kx X) m)
abbrev SA (X : Cx) (es : List Expr) (m : AM) : Prop := PA X es (aOf (kx X) m)
abbrev SB (X : Cx) (e : Expr) (m : BM) : Prop := PT X e (bOf (kx X) m)
theorem PE.imp {X : Cx} {e : Expr} {t t' : TE} (h : PE X e t) (k : ∀ σ H Q, t' σ H Q → t σ H Q) : PE X e t' := ⟨fun pins s σ H Q I q => h.run pins s σ H Q I (k σ H Q q)⟩
theorem PA.imp {X : Cx} {e : List Expr} {t t' : TA} (h : PA X e t) (k : ∀ σ H Q, t' σ H Q → t σ H Q) : PA X e t' := ⟨fun pos pins s σ H Q I q => h.run pos pins s σ H Q I (k σ H Q q)⟩
theorem PT.imp {X : Cx} {e : Expr} {t t' : TT} (h : PT X e t) (k : ∀ σ H Q, t' σ H Q → t σ H Q) : PT X e t' := ⟨fun pins s σ H Q I q => h.run pins s σ H Q I (k σ H Q q)⟩

section
variable {K : Kx} {ρ : Rh} {H : Hp} {σ : L2.St} {σv : Sv} {h h1 h2 h3 : Hv} {v u w : Va} {a b c : EM}
/-- one expression -/
theorem e_one {R : V → Hp → Prop} (st : StR K ρ H σ σv) (hv : HvR K ρ H h) (ea : a σv h = some (v, h1))
    (k : ∀ ρ' H' x, Ext ρ H ρ' H' → StR K ρ' H' σ σv → HvR K ρ' H' h1 → RpT K ρ' H' x v → R x H') : eOf K a σ H R :=
  ⟨ρ, σv, h, v, h1, st, hv, ea, fun ρ' H' x e hv' r => k ρ' H' x e (st.ext e) hv' r⟩
/-- two expressions in a row -/
theorem e_two {R : V → V → Hp → Prop} (st : StR K ρ H σ σv) (hv : HvR K ρ H h) (ea : a σv h = some (v, h1)) (eb : b σv h1 = some (u, h2))
    (k : ∀ ρ' H' x y, Ext ρ H ρ' H' → StR K ρ' H' σ σv → HvR K ρ' H' h2 → RpT K ρ' H' x v → RpT K ρ' H' y u → R x y H') : eOf K a σ H fun x H1 => eOf K b σ H1 fun y H2 => R x y H2 :=
  e_one st hv ea fun ρ1 H1 x e1 st1 hv1 r1 => e_one st1 hv1 eb fun ρ2 H2 y e2 st2 hv2 r2 => k ρ2 H2 x y (e1.trans e2) st2 hv2 (r1.ext e2) r2
theorem b_one {m : BM} {t : Bool} {R : Bool → Hp → Prop} (st : StR K ρ H σ σv) (hv : HvR K ρ H h) (ea : m σv h = some (t, h1))
    (k : ∀ ρ' H', Ext ρ H ρ' H' → StR K ρ' H' σ σv → HvR K ρ' H' h1 → R t H') : bOf K m σ H R :=
  ⟨ρ, σv, h, t, h1, st, hv, ea, fun ρ' H' e hv' => k ρ' H' e (st.ext e) hv'⟩
theorem a_one {m : AM} {vs : List Va} {R : List V → Hp → Prop} (st : StR K ρ H σ σv) (hv : HvR K ρ H h) (ea : m σv h = some (vs, h1))
    (k : ∀ ρ' H' xs, Ext ρ H ρ' H' → StR K ρ' H' σ σv → HvR K ρ' H' h1 → RpTs K ρ' H' xs vs → R xs H') : aOf K m σ H R :=
  ⟨ρ, σv, h, vs, h1, st, hv, ea, fun ρ' H' xs e hv' r => k ρ' H' xs e (st.ext e) hv' r⟩

/-! ### what a value is -/
theorem RpT.int {x : V} {i : Int} (r : RpT K ρ H x (.int i)) : x = .int i := by
  rcases r with r | ⟨n, a, e, _⟩
  · cases r; rfl
  · cases e
theorem RpT.bl {x : V} {i : Bool} (r : RpT K ρ H x (.bl i)) : x = .bl i := by
  rcases r with r | ⟨n, a, e, _⟩
  · cases r; rfl
  · cases e
theorem RpT.str {x : V} {i : Str} (r : RpT K ρ H x (.str i)) : x = .str i := by
  rcases r with r | ⟨n, a, e, _⟩
  · cases r; rfl
  · cases e
theorem RpT.non {x : V} (r : RpT K ρ H x .non) : x = .non := by
  rcases r with r | ⟨n, a, e, _⟩
  · cases r; rfl
  · cases e
theorem RpT.tup {x : V} {xs : List Va} (r : RpT K ρ H x (.tup xs)) : ∃ a ys, x = .ref a ∧ SqN K.k H a ys ∧ RpL K ρ H ys xs := by
  rcases r with r | ⟨n, a, e, _⟩
  · cases r with
    | tup q r => exact ⟨_, _, rfl, q, r⟩
  · cases e
theorem RpT.lst {x : V} {xs : List Va} (r : RpT K ρ H x (.lst xs)) : ∃ a ys, x = .ref a ∧ LstAt K.k ρ H a ys ∧ RpL K ρ H ys xs := by
  rcases r with r | ⟨n, a, e, _⟩
  · cases r with
    | lst q r => exact ⟨_, _, rfl, q, r⟩
  · cases e
theorem RpT.ref {x : V} {n : Nat} (r : RpT K ρ H x (.ref n)) : ∃ a, x = .ref a ∧ ρ.c[n]? = some a := by
  rcases r with r | ⟨m, a, e, e2, e3⟩
  · cases r
  · cases e
    exact ⟨a, e2, e3⟩
theorem items_ok {x : V} {xs : List Va} (hv : HvR K ρ H h) (r : RpT K ρ H x v) (e : itemsOf h v = some xs) : ∃ a ys, x = .ref a ∧ (SqL K.k H a ys ∨ SqT K.k H a ys) ∧ RpL K ρ H ys xs := by
  unfold itemsOf at e
  cases v with
  | tup zs =>
    cases e
    obtain ⟨a, ys, h1, h2, h3⟩ := r.tup
    exact ⟨a, ys, h1, .inr h2.seq, h3⟩
  | lst zs =>
    cases e
    obtain ⟨a, ys, h1, h2, h3⟩ := r.lst
    exact ⟨a, ys, h1, .inl h2.seq, h3⟩
  | ref n =>
    obtain ⟨a, h1, h2⟩ := r.ref
    have e' : (match cellAt h n with
      | some (.lst xs) => some xs
      | _ => none) = some xs := e
    cases q : cellAt h n with
    | none => rw [q] at e'; cases e'
    | some c =>
      rw [q] at e'
      cases c with
      | lst zs =>
        cases e'
        obtain ⟨ys, h3, h4⟩ := hv.cell h2 q
        exact ⟨a, ys, h1, .inl (.inl (.inl h3)), h4⟩
      | dI _ => cases e'
      | dT _ => cases e'
      | hid => cases e'
  | non => cases e
  | bl _ => cases e
  | int _ => cases e
  | str _ => cases e

/-! ### operators by values -/
/-- the rule r does what g says -/
def G2 (K : Kx) (r : R2) (g : Hv → Va → Va → Option Va) : Prop :=
  ∀ (ρ : Rh) (H : Hp) (h : Hv) (x y : V) (v u w : Va) (Q : VK), HvR K ρ H h → RpT K ρ H x v → RpT K ρ H y u → g h v u = some w →
    (∀ ρ' H' z, Ext ρ H ρ' H' → HvR K ρ' H' h → RpT K ρ' H' z w → Q z H') → r x y H Q
theorem op_vh {r : R2} {g : Hv → Va → Va → Option Va} (G : G2 K r g) {Q : VK} (hq : eOf K (xVH a b g) σ H Q) : tOp r (eOf K a) (eOf K b) σ H Q := by
  obtain ⟨ρ, σv, h, w, h', st, hv, e, k⟩ := hq
  unfold xVH at e
  cases ea : a σv h with
  | none => rw [ea] at e; cases e
  | some p =>
    obtain ⟨v, h1⟩ := p
    rw [ea] at e
    have e' : (match b σv h1 with
      | some (u, h2) => match g h2 v u with
        | some w => some (w, h2)
        | none => none
      | none => none) = some (w, h') := e
    cases eb : b σv h1 with
    | none => rw [eb] at e'; cases e'
    | some p =>
      obtain ⟨u, h2⟩ := p
      rw [eb] at e'
      have e2 : (match g h2 v u with
        | some w => some (w, h2)
        | none => none) = some (w, h') := e'
      cases eg : g h2 v u with
      | none => rw [eg] at e2; cases e2
      | some w' =>
        rw [eg] at e2
        cases e2
        exact e_two st hv ea eb fun ρ2 H2 x y x2 st2 hv2 r1 r2 => G ρ2 H2 _ x y v u w Q hv2 r1 r2 eg fun ρ3 H3 z x3 hv3 r3 => k ρ3 H3 z (x2.trans x3) hv3 r3
theorem xVV_eq (g : Va → Va → Option Va) : xVV a b g = xVH a b (fun _ => g) := rfl
/-- a function of ints, of any values -/
def iiG (g : Int → Int → Option Va) : Hv → Va → Va → Option Va := fun _ v u => match v, u with
  | .int i, .int j => g i j
  | _, _ => none
theorem xII_eq (g : Int → Int → Option Va) : xII a b g = xVH a b (iiG g) := by
  funext σ h
  unfold xII xVH iiG
  cases a σ h with
  | none => rfl
  | some p =>
    obtain ⟨v, h1⟩ := p
    cases v
    case int i =>
      dsimp only
      cases b σ h1 with
      | none => rfl
      | some p =>
        obtain ⟨u, h2⟩ := p
        cases u <;> rfl
    all_goals
      dsimp only
      cases b σ h1 with
      | none => rfl
      | some p => rfl
theorem iiG_some {g : Int → Int → Option Va} {h : Hv} {v u w : Va} (e : iiG g h v u = some w) : ∃ i j, v = .int i ∧ u = .int j ∧ g i j = some w := by
  unfold iiG at e
  cases v with
  | int i => cases u with
    | int j => exact ⟨i, j, rfl, rfl, e⟩
    | _ => cases e
  | _ => cases e
end

section
variable {X : Cx} {e f : Expr} {pos : Pos} {a b c : EM}
/-! ### names, constants -/
theorem se_var {i : Nat} {x : Str} {pos : Pos} (hN : X.N[i]? = some x := by rfl) (hv : Vis X.env.scope x := by first | exact Or.inl rfl | exact Or.inr (Or.inl rfl) | exact Or.inr (Or.inr rfl)) (hd : (x == ("__debug__" : Str)) = false := by decide)
    (hcd : (x == ("__classdict__" : Str)) = false := by decide) : SE X (.Name x pos) (xV i) :=
  PE.imp (pe_var hN hv hd hcd) fun σ H Q ⟨ρ, σv, h, v, h', st, hv, e, k⟩ => by
    unfold xV at e
    cases q : nth σv i with
    | none => rw [q] at e; cases e
    | some w =>
      rw [q] at e
      cases e
      obtain ⟨y, h1, h2⟩ := st.nth q
      exact ⟨y, h1, k ρ H y .refl hv h2⟩
theorem con_ok {K : Kx} {x : V} {v : Va} (r : ∀ ρ H, Rp K ρ H x v) {σ : L2.St} {H : Hp} {Q : VK} (h : eOf K (xC v) σ H Q) : Q x H := by
  obtain ⟨ρ, σv, h, v', h', st, hv, e, k⟩ := h
  unfold xC at e
  cases e
  exact k ρ H x .refl hv (.inl (r ρ H))
theorem se_int {i : Int} {j pos} : SE X (.Constant (.int i) j pos) (xC (.int i)) := PE.imp pe_int fun _ _ _ h => con_ok (fun _ _ => .int i) h
theorem se_bl {i : Bool} {j pos} : SE X (.Constant (.bool i) j pos) (xC (.bl i)) := PE.imp pe_bl fun _ _ _ h => con_ok (fun _ _ => .bl i) h
theorem se_non {j pos} : SE X (.Constant .none j pos) (xC .non) := PE.imp pe_non fun _ _ _ h => con_ok (fun _ _ => .non) h
theorem se_str {x y : Str} {j pos} (e : x = y := by decide) : SE X (.Constant (.str x) j pos) (xC (.str y)) := by
  subst e
  exact PE.imp pe_str fun _ _ _ h => con_ok (fun _ _ => .str x) h
/-- a constant of the module: a text -/
theorem se_gstr {x y : Str} {u : Value} {pos} (hm : X.mg x = some u) (r : RelV (.str y) u) (hg : Gl X x := by rfl) (hd : (x == ("__debug__" : Str)) = false := by decide) : SE X (.Name x pos) (xC (.str y)) :=
  PE.imp (pe_glob hg hm r hd) fun _ _ _ h => con_ok (fun _ _ => .str y) h
/-- a constant of the module: a tuple of ints -/
theorem se_gtup {x : Str} {p : Addr} {ns : List Int} {pos} (hm : X.mg x = some (.ref p)) (ht : ∀ H, SqN X.K H p (ns.map V.int)) (hg : Gl X x := by rfl) (hd : (x == ("__debug__" : Str)) = false := by decide) : SE X (.Name x pos) (xC (.tup (ns.map .int))) :=
  PE.imp (pe_glob (v := .ref p) hg hm rfl hd) fun _ _ _ h => con_ok (fun ρ H => .tup (ht H) (ints_rp ns)) h
where ints_rp {K : Kx} {ρ : Rh} {H : Hp} : ∀ ns : List Int, RpL K ρ H (ns.map V.int) (ns.map Va.int)
  | [] => .nil
  | n :: ns => .cons (.int n) (ints_rp ns)

/-! ### ints -/
theorem g_rI {K : Kx} {C : Int → Int → Prop} {f : Int → Int → V} {g : Int → Int → Option Va} (hg : ∀ i j w, g i j = some w → C i j ∧ ∀ ρ H, Rp K ρ H (f i j) w) : G2 K (rI C f) (iiG g) := by
  intro ρ H h x y v u w Q hv rx ry e k
  obtain ⟨i, j, rfl, rfl, eg⟩ := iiG_some e
  obtain ⟨h1, h2⟩ := hg i j w eg
  exact ⟨i, j, rx.int, ry.int, h1, k ρ H _ .refl hv (.inl (h2 ρ H))⟩
theorem g_rI0 {K : Kx} {f : Int → Int → V} {g : Int → Int → Option Va} (hg : ∀ i j w, g i j = some w → ∀ ρ H, Rp K ρ H (f i j) w) : G2 K (rI0 f) (iiG g) := by
  intro ρ H h x y v u w Q hv rx ry e k
  obtain ⟨i, j, rfl, rfl, eg⟩ := iiG_some e
  exact ⟨i, j, rx.int, ry.int, k ρ H _ .refl hv (.inl (hg i j w eg ρ H))⟩
theorem se_ii {op : Operator} {r : R2} {g : Int → Int → Option Va} (ho : OpR X (binaryOp op) r) (G : G2 (kx X) r (iiG g)) (ha : SE X e a) (hb : SE X f b) : SE X (.BinOp e op f pos) (xII a b g) := by
  rw [show SE X (.BinOp e op f pos) (xII a b g) = PE X (.BinOp e op f pos) (eOf (kx X) (xVH a b (iiG g))) by rw [← xII_eq]]
  exact PE.imp (pe_op ho ha hb) fun _ _ _ h => op_vh G h
theorem se_add (ha : SE X e a) (hb : SE X f b) : SE X (.BinOp e .Add f pos) (xAdd a b) := se_ii op_add (g_rI0 fun i j w q ρ H => by cases q; exact .int _) ha hb
theorem se_sub (ha : SE X e a) (hb : SE X f b) : SE X (.BinOp e .Sub f pos) (xSub a b) := se_ii op_sub (g_rI0 fun i j w q ρ H => by cases q; exact .int _) ha hb
theorem small64_ok {i : Int} (h : small64 i = true) : -(2 ^ 64) < i ∧ i < 2 ^ 64 := by
  unfold small64 at h
  rw [Nat.blt_eq] at h
  omega
theorem gMul_ok {i j : Int} {w : Va} (h : gMul i j = some w) : CMul i j ∧ w = .int (i * j) := by
  unfold gMul at h
  cases e : small64 i with
  | true =>
    rw [e] at h
    cases h
    exact ⟨.inl (small64_ok e), rfl⟩
  | false =>
    rw [e] at h
    have h' : (match small64 j with
      | true => some (Va.int (i * j))
      | false => none) = some w := h
    cases e2 : small64 j with
    | true =>
      rw [e2] at h'
      cases h'
      exact ⟨.inr (small64_ok e2), rfl⟩
    | false => rw [e2] at h'; cases h'
theorem se_mul (ha : SE X e a) (hb : SE X f b) : SE X (.BinOp e .Mult f pos) (xMul a b) := se_ii op_mul (g_rI fun i j w q => by
  obtain ⟨h1, rfl⟩ := gMul_ok q
  exact ⟨h1, fun _ _ => .int _⟩) ha hb
theorem gDiv_ok {i j : Int} {w : Va} (h : gDiv i j = some w) : CDiv i j ∧ w = .int (i / j) := by
  unfold gDiv at h
  split at h
  · rename_i h1 h2
    cases h
    rw [ilt_eq, decide_eq_true_iff] at h1 h2
    exact ⟨⟨h1, h2⟩, rfl⟩
  · cases h
theorem se_div (ha : SE X e a) (hb : SE X f b) : SE X (.BinOp e .FloorDiv f pos) (xDiv a b) := se_ii op_fdiv (g_rI fun i j w q => by
  obtain ⟨h1, rfl⟩ := gDiv_ok q
  exact ⟨h1, fun _ _ => .int _⟩) ha hb
theorem gMod_ok {i j : Int} {w : Va} (h : gMod i j = some w) : 0 < j ∧ w = .int (i % j) := by
  unfold gMod at h
  split at h
  · rename_i h1
    cases h
    rw [ilt_eq, decide_eq_true_iff] at h1
    exact ⟨h1, rfl⟩
  · cases h
theorem se_mod (ha : SE X e a) (hb : SE X f b) : SE X (.BinOp e .Mod f pos) (xMod a b) := se_ii op_mod (g_rI fun i j w q => by
  obtain ⟨h1, rfl⟩ := gMod_ok q
  exact ⟨h1, fun _ _ => .int _⟩) ha hb
theorem gPow_ok {i j : Int} {w : Va} (h : gPow i j = some w) : CPow i j ∧ w = .int (i ^ j.toNat) := by
  unfold gPow at h
  cases e : small64 i with
  | false => rw [e] at h; cases h
  | true =>
    rw [e] at h
    cases j with
    | negSucc m => cases h
    | ofNat m =>
      have h' : (match Nat.ble m 100 with
        | true => some (Va.int (i ^ m))
        | false => none) = some w := h
      cases e2 : Nat.ble m 100 with
      | false => rw [e2] at h'; cases h'
      | true =>
        rw [e2] at h'
        cases h'
        have hm : m ≤ 100 := Nat.le_of_ble_eq_true e2
        have hs := small64_ok e
        refine ⟨⟨Int.natCast_nonneg _, ?_, by omega⟩, rfl⟩
        show ((m : Nat) : Int) ≤ 1000000
        omega
theorem se_pow (ha : SE X e a) (hb : SE X f b) : SE X (.BinOp e .Pow f pos) (xPow a b) := se_ii op_pow (g_rI fun i j w q => by
  obtain ⟨h1, rfl⟩ := gPow_ok q
  exact ⟨h1, fun _ _ => .int _⟩) ha hb

/-! ### comparisons -/
theorem se_cmpH {op : CmpOp} {r : R2} {g : Hv → Va → Va → Option Va} (ho : OpR X (compareOp op) r) (G : G2 (kx X) r g) (ha : SE X e a) (hb : SE X f b) (hm : behindInMarks op f = false) : SE X (.Compare e [op] [f] pos) (xVH a b g) :=
  PE.imp (pe_cmpR ho ha hb hm) fun _ _ _ h => op_vh G h
theorem se_cmpI {op : CmpOp} {r : R2} {g : Int → Int → Option Va} (ho : OpR X (compareOp op) r) (G : G2 (kx X) r (iiG g)) (ha : SE X e a) (hb : SE X f b) (hm : behindInMarks op f = false) : SE X (.Compare e [op] [f] pos) (xII a b g) := by
  rw [show SE X (.Compare e [op] [f] pos) (xII a b g) = PE X (.Compare e [op] [f] pos) (eOf (kx X) (xVH a b (iiG g))) by rw [← xII_eq]]
  exact se_cmpH ho G ha hb hm
/-- a test by the value's reading -/
theorem tV_ok {K : Kx} {m : EM} {σ : L2.St} {H : Hp} {Q : Bool → Hp → Prop} (hq : bOf K (tV m) σ H Q) : eOf K m σ H fun x H1 => ∃ k, x = .bl k ∧ Q k H1 := by
  obtain ⟨ρ, σv, h, t, h', st, hv, e, k⟩ := hq
  unfold tV at e
  cases ea : m σv h with
  | none => rw [ea] at e; cases e
  | some p =>
    obtain ⟨v, h1⟩ := p
    rw [ea] at e
    cases v with
    | bl b =>
      cases e
      exact e_one st hv ea fun ρ1 H1 x e1 st1 hv1 r1 => ⟨t, r1.bl, k ρ1 H1 e1 hv1⟩
    | _ => cases e
theorem sb_cmpH {op : CmpOp} {r : R2} {g : Hv → Va → Va → Option Va} (ho : OpR X (compareOp op) r) (G : G2 (kx X) r g) (ha : SE X e a) (hb : SE X f b) (hm : behindInMarks op f = false) : SB X (.Compare e [op] [f] pos) (tV (xVH a b g)) :=
  PT.imp (pt_cmpR ho ha hb hm) fun _ _ _ h => op_vh G (tV_ok h)
theorem sb_cmpI {op : CmpOp} {r : R2} {g : Int → Int → Option Va} (ho : OpR X (compareOp op) r) (G : G2 (kx X) r (iiG g)) (ha : SE X e a) (hb : SE X f b) (hm : behindInMarks op f = false) : SB X (.Compare e [op] [f] pos) (tV (xII a b g)) := by
  rw [show SB X (.Compare e [op] [f] pos) (tV (xII a b g)) = PT X (.Compare e [op] [f] pos) (bOf (kx X) (tV (xVH a b (iiG g)))) by rw [← xII_eq]]
  exact sb_cmpH ho G ha hb hm
theorem g_lt {K : Kx} : G2 K (rI0 fun i j => .bl (decide (i < j))) (iiG gLt) := g_rI0 fun i j w q ρ H => by cases q; rw [ilt_eq]; exact .bl _
theorem g_le {K : Kx} : G2 K (rI0 fun i j => .bl (decide (i ≤ j))) (iiG gLe) := g_rI0 fun i j w q ρ H => by cases q; rw [ile_eq]; exact .bl _
theorem g_gt {K : Kx} : G2 K (rI0 fun i j => .bl (decide (j < i))) (iiG gGt) := g_rI0 fun i j w q ρ H => by cases q; rw [ilt_eq]; exact .bl _
theorem g_ge {K : Kx} : G2 K (rI0 fun i j => .bl (decide (j ≤ i))) (iiG gGe) := g_rI0 fun i j w q ρ H => by cases q; rw [ile_eq]; exact .bl _
theorem se_lt (ha : SE X e a) (hb : SE X f b) : SE X (.Compare e [.Lt] [f] pos) (xLt a b) := se_cmpI op_lt g_lt ha hb (nomark _)
theorem se_le (ha : SE X e a) (hb : SE X f b) : SE X (.Compare e [.LtE] [f] pos) (xLe a b) := se_cmpI op_le g_le ha hb (nomark _)
theorem se_gt (ha : SE X e a) (hb : SE X f b) : SE X (.Compare e [.Gt] [f] pos) (xGt a b) := se_cmpI op_gt g_gt ha hb (nomark _)
theorem se_ge (ha : SE X e a) (hb : SE X f b) : SE X (.Compare e [.GtE] [f] pos) (xGe a b) := se_cmpI op_ge g_ge ha hb (nomark _)
theorem sb_lt (ha : SE X e a) (hb : SE X f b) : SB X (.Compare e [.Lt] [f] pos) (tV (xLt a b)) := sb_cmpI op_lt g_lt ha hb (nomark _)
theorem sb_le (ha : SE X e a) (hb : SE X f b) : SB X (.Compare e [.LtE] [f] pos) (tV (xLe a b)) := sb_cmpI op_le g_le ha hb (nomark _)
theorem sb_gt (ha : SE X e a) (hb : SE X f b) : SB X (.Compare e [.Gt] [f] pos) (tV (xGt a b)) := sb_cmpI op_gt g_gt ha hb (nomark _)
theorem sb_ge (ha : SE X e a) (hb : SE X f b) : SB X (.Compare e [.GtE] [f] pos) (tV (xGe a b)) := sb_cmpI op_ge g_ge ha hb (nomark _)
end
end Ev
end
section
set_option Elab.async false
set_option linter.all false
set_option maxRecDepth 100000
/-! EvExp2: equality, membership, bools, displays, subscripts, built-ins. -/
namespace Ev
open PySem PySem.Spec PyProof.Rows L2 PySem.SeqAt

/-! ### data -/
section
variable {K : Kx} {ρ : Rh} {H : Hp}
mutual
theorem Rp.dp : ∀ {v : V} {x : Va}, Rp K ρ H v x → Dp K.k H v (toD x)
  | _, _, .non => by simpa [toD] using Dp.non
  | _, _, .bl b => by simpa [toD] using Dp.bl b
  | _, _, .int i => by simpa [toD] using Dp.int i
  | _, _, .str s => by simpa [toD] using Dp.str s
  | _, _, .tup q r => by simpa [toD] using Dp.tup q.seq (RpL.dp r)
  | _, _, .lst q r => by simpa [toD] using Dp.lst q.seq (RpL.dp r)
theorem RpL.dp : ∀ {ys : List V} {xs : List Va}, RpL K ρ H ys xs → DpAll K.k H ys (toDs xs)
  | _, _, .nil => by simpa [toDs] using DpAll.nil
  | _, _, .cons h t => by simpa [toDs] using DpAll.cons (Rp.dp h) (RpL.dp t)
end
theorem RpT.dp {x : V} {v : Va} {n : Nat} (r : RpT K ρ H x v) (d : dle n v = true) : Dp K.k H x (toD v) := by
  refine (r.pure ?_).dp
  cases v <;> first | rfl | (cases n <;> simp [dle] at d)
end
section
variable {X : Cx}
/-- the two read as data, and f tells the answer -/
def rDat (K : PySem.W.Frag) (f : PyData → PyData → Bool) : R2 := fun x y H Q => ∃ d e, Dp K H x d ∧ Dp K H y e ∧ d.plain = true ∧ e.plain = true ∧ d.depth ≤ 8 ∧ e.depth ≤ 8 ∧ Q (.bl (f d e)) H
theorem op_eqP (hu : X.A.units + 64 < cLine) : OpR X (compareOp .Eq) (rDat X.K PyData.eqv) := by
  intro pins s σ H x y v u Q I rx ry h
  obtain ⟨d, e, hd, he, pd, pe, l1, l2, q⟩ := h
  obtain ⟨as, r1⟩ := Dp.reads I d x v hd rx
  obtain ⟨bs, r2⟩ := Dp.reads I e y u he ry
  exact eq_plain r1 r2 pd pe (by omega) ⟨.bl _, H, I, rfl, q⟩
theorem op_neP (hu : X.A.units + 64 < cLine) : OpR X (compareOp .NotEq) (rDat X.K fun d e => !PyData.eqv d e) := by
  intro pins s σ H x y v u Q I rx ry h
  obtain ⟨d, e, hd, he, pd, pe, l1, l2, q⟩ := h
  obtain ⟨as, r1⟩ := Dp.reads I d x v hd rx
  obtain ⟨bs, r2⟩ := Dp.reads I e y u he ry
  exact ne_plain r1 r2 pd pe (by omega) ⟨.bl _, H, I, rfl, q⟩
def hasD (d e : PyData) : Bool := match e with
  | .list xs => xs.any fun y => PyData.eqv y d
  | .tuple xs => xs.any fun y => PyData.eqv y d
  | _ => false
def isSq : PyData → Bool
  | .list _ => true
  | .tuple _ => true
  | _ => false
def rDatIn (K : PySem.W.Frag) (f : Bool → Bool) : R2 := fun x y H Q => ∃ d e, Dp K H x d ∧ Dp K H y e ∧ d.plain = true ∧ e.plain = true ∧ isSq e = true ∧ d.depth ≤ 8 ∧ Q (.bl (f (hasD d e))) H
theorem op_inP (hu : X.A.units + 64 < cLine) : OpR X (compareOp .In) (rDatIn X.K id) := by
  intro pins s σ H x y v u Q I rx ry h
  obtain ⟨d, e, hd, he, pd, pe, sq, l1, q⟩ := h
  obtain ⟨as, r1⟩ := Dp.reads I d x v hd rx
  obtain ⟨bs, r2⟩ := Dp.reads I e y u he ry
  cases e with
  | list xs => exact in_list_data r2 r1 (by simpa [PyData.plain] using pe) pd (by omega) ⟨.bl _, H, I, rfl, q⟩
  | tuple xs => exact in_tuple_data r2 r1 (by simpa [PyData.plain] using pe) pd (by omega) ⟨.bl _, H, I, rfl, q⟩
  | _ => cases sq
theorem op_ninP (hu : X.A.units + 64 < cLine) : OpR X (compareOp .NotIn) (rDatIn X.K (!·)) := by
  intro pins s σ H x y v u Q I rx ry h
  obtain ⟨d, e, hd, he, pd, pe, sq, l1, q⟩ := h
  obtain ⟨as, r1⟩ := Dp.reads I d x v hd rx
  obtain ⟨bs, r2⟩ := Dp.reads I e y u he ry
  cases e with
  | list xs => exact notIn_list_data r2 r1 (by simpa [PyData.plain] using pe) pd (by omega) ⟨.bl _, H, I, rfl, q⟩
  | tuple xs => exact notIn_tuple_data r2 r1 (by simpa [PyData.plain] using pe) pd (by omega) ⟨.bl _, H, I, rfl, q⟩
  | _ => cases sq
end
section
variable {X : Cx} {e f : Expr} {pos : Pos} {a b c : EM} {K : Kx}
theorem g_eq : G2 K (rDat K.k PyData.eqv) (fun _ => gEq) := by
  intro ρ H h x y v u w Q hv rx ry e k
  have e' : gEq v u = some w := e
  unfold gEq at e'
  split at e'
  · rename_i d1 d2
    cases e'
    have p1 := plain_toD 8 v d1
    have p2 := plain_toD 8 u d2
    refine ⟨toD v, toD u, rx.dp d1, ry.dp d2, p1.1, p2.1, p1.2, p2.2, ?_⟩
    rw [eqv_toD]
    exact k ρ H _ .refl hv (.inl (.bl _))
  · cases e'
theorem g_ne : G2 K (rDat K.k fun d e => !PyData.eqv d e) (fun _ => gNe) := by
  intro ρ H h x y v u w Q hv rx ry e k
  have e' : gNe v u = some w := e
  unfold gNe at e'
  split at e'
  · rename_i d1 d2
    cases e'
    have p1 := plain_toD 8 v d1
    have p2 := plain_toD 8 u d2
    refine ⟨toD v, toD u, rx.dp d1, ry.dp d2, p1.1, p2.1, p1.2, p2.2, ?_⟩
    show Q (.bl (!PyData.eqv (toD v) (toD u))) H
    rw [eqv_toD]
    exact k ρ H _ .refl hv (.inl (.bl _))
  · cases e'
theorem any_inL (v : Va) : ∀ xs : List Va, ((toDs xs).any fun y => PyData.eqv y (toD v)) = inL v xs
  | [] => by simp [toDs, inL]
  | x :: xs => by
    simp only [toDs, List.any_cons, eqv_toD, any_inL v xs, inL]
    cases veq x v <;> rfl
theorem gIn_ok {v u w : Va} (e : gIn v u = some w) : ∃ t, w = .bl t ∧ dle 8 v = true ∧ dle 8 u = true ∧ isSq (toD u) = true ∧ hasD (toD v) (toD u) = t := by
  unfold gIn at e
  split at e
  · rename_i d1 d2
    cases u with
    | tup xs =>
      cases e
      exact ⟨_, rfl, d1, d2, by simp [toD, isSq], by simp only [toD, hasD, any_inL]⟩
    | lst xs =>
      cases e
      exact ⟨_, rfl, d1, d2, by simp [toD, isSq], by simp only [toD, hasD, any_inL]⟩
    | _ => cases e
  · cases e
theorem g_in : G2 K (rDatIn K.k id) (fun _ => gIn) := by
  intro ρ H h x y v u w Q hv rx ry e k
  obtain ⟨t, rfl, d1, d2, sq, ht⟩ := gIn_ok e
  have p1 := plain_toD 8 v d1
  have p2 := plain_toD 8 u d2
  refine ⟨toD v, toD u, rx.dp d1, ry.dp d2, p1.1, p2.1, sq, p1.2, ?_⟩
  rw [ht]
  exact k ρ H _ .refl hv (.inl (.bl _))
theorem g_nin : G2 K (rDatIn K.k (!·)) (fun _ => gNin) := by
  intro ρ H h x y v u w Q hv rx ry e k
  have e' : gNin v u = some w := e
  unfold gNin at e'
  cases q : gIn v u with
  | none => rw [q] at e'; cases e'
  | some z =>
    obtain ⟨t, rfl, d1, d2, sq, ht⟩ := gIn_ok q
    rw [q] at e'
    cases e'
    have p1 := plain_toD 8 v d1
    have p2 := plain_toD 8 u d2
    refine ⟨toD v, toD u, rx.dp d1, ry.dp d2, p1.1, p2.1, sq, p1.2, ?_⟩
    show Q (.bl (!hasD (toD v) (toD u))) H
    rw [ht]
    exact k ρ H _ .refl hv (.inl (.bl _))
theorem se_eq (hu : X.A.units + 64 < cLine) (ha : SE X e a) (hb : SE X f b) : SE X (.Compare e [.Eq] [f] pos) (xVV a b gEq) := se_cmpH (op_eqP hu) g_eq ha hb (nomark _)
theorem sb_eq (hu : X.A.units + 64 < cLine) (ha : SE X e a) (hb : SE X f b) : SB X (.Compare e [.Eq] [f] pos) (tV (xVV a b gEq)) := sb_cmpH (op_eqP hu) g_eq ha hb (nomark _)
theorem se_ne (hu : X.A.units + 64 < cLine) (ha : SE X e a) (hb : SE X f b) : SE X (.Compare e [.NotEq] [f] pos) (xVV a b gNe) := se_cmpH (op_neP hu) g_ne ha hb (nomark _)
theorem sb_ne (hu : X.A.units + 64 < cLine) (ha : SE X e a) (hb : SE X f b) : SB X (.Compare e [.NotEq] [f] pos) (tV (xVV a b gNe)) := sb_cmpH (op_neP hu) g_ne ha hb (nomark _)
theorem se_in (hu : X.A.units + 64 < cLine) (ha : SE X e a) (hb : SE X f b) (hm : behindInMarks .In f = false := by rfl) : SE X (.Compare e [.In] [f] pos) (xVV a b gIn) := se_cmpH (op_inP hu) g_in ha hb hm
theorem sb_in (hu : X.A.units + 64 < cLine) (ha : SE X e a) (hb : SE X f b) (hm : behindInMarks .In f = false := by rfl) : SB X (.Compare e [.In] [f] pos) (tV (xVV a b gIn)) := sb_cmpH (op_inP hu) g_in ha hb hm
theorem se_nin (hu : X.A.units + 64 < cLine) (ha : SE X e a) (hb : SE X f b) (hm : behindInMarks .NotIn f = false := by rfl) : SE X (.Compare e [.NotIn] [f] pos) (xVV a b gNin) := se_cmpH (op_ninP hu) g_nin ha hb hm
theorem sb_nin (hu : X.A.units + 64 < cLine) (ha : SE X e a) (hb : SE X f b) (hm : behindInMarks .NotIn f = false := by rfl) : SB X (.Compare e [.NotIn] [f] pos) (tV (xVV a b gNin)) := sb_cmpH (op_ninP hu) g_nin ha hb hm
theorem non_iff {ρ : Rh} {H : Hp} {x : V} {v : Va} (r : RpT K ρ H x v) : decide (x = .non) = isNon v := by
  cases v with
  | non => rw [r.non]; rfl
  | bl b => rw [r.bl]; rfl
  | int i => rw [r.int]; rfl
  | str s => rw [r.str]; rfl
  | tup xs =>
    obtain ⟨a, ys, rfl, _⟩ := r.tup
    rfl
  | lst xs =>
    obtain ⟨a, ys, rfl, _⟩ := r.lst
    rfl
  | ref n =>
    obtain ⟨a, rfl, _⟩ := r.ref
    rfl
theorem g_isN : G2 K (fun x y H Q => y = .non ∧ Q (.bl (decide (x = .non))) H) (fun _ => gIsN) := by
  intro ρ H h x y v u w Q hv rx ry e k
  have e' : gIsN v u = some w := e
  unfold gIsN at e'
  cases u with
  | non =>
    cases e'
    refine ⟨ry.non, ?_⟩
    rw [non_iff rx]
    exact k ρ H _ .refl hv (.inl (.bl _))
  | _ => cases e'
theorem g_notN : G2 K (fun x y H Q => y = .non ∧ Q (.bl (!decide (x = .non))) H) (fun _ => gNotN) := by
  intro ρ H h x y v u w Q hv rx ry e k
  have e' : gNotN v u = some w := e
  unfold gNotN at e'
  cases u with
  | non =>
    cases e'
    refine ⟨ry.non, ?_⟩
    rw [non_iff rx]
    exact k ρ H _ .refl hv (.inl (.bl _))
  | _ => cases e'
theorem se_isN (ha : SE X e a) (hb : SE X f b) : SE X (.Compare e [.Is] [f] pos) (xVV a b gIsN) := se_cmpH op_isN g_isN ha hb (nomark _)
theorem sb_isN (ha : SE X e a) (hb : SE X f b) : SB X (.Compare e [.Is] [f] pos) (tV (xVV a b gIsN)) := sb_cmpH op_isN g_isN ha hb (nomark _)
theorem se_notN (ha : SE X e a) (hb : SE X f b) : SE X (.Compare e [.IsNot] [f] pos) (xVV a b gNotN) := se_cmpH op_notN g_notN ha hb (nomark _)
theorem sb_notN (ha : SE X e a) (hb : SE X f b) : SB X (.Compare e [.IsNot] [f] pos) (tV (xVV a b gNotN)) := sb_cmpH op_notN g_notN ha hb (nomark _)
theorem g_notB : G2 K rNotB (fun _ => gNotB) := by
  intro ρ H h x y v u w Q hv rx ry e k
  have e' : gNotB v u = some w := e
  unfold gNotB at e'
  split at e'
  · rename_i p q
    cases e'
    refine ⟨p, q, rx.bl, ry.bl, ?_⟩
    rw [show (!decide (p = q)) = (p != q) by cases p <;> cases q <;> rfl]
    exact k ρ H _ .refl hv (.inl (.bl _))
  · cases e'
theorem sb_notB (ha : SE X e a) (hb : SE X f b) : SB X (.Compare e [.IsNot] [f] pos) (tV (xVV a b gNotB)) := sb_cmpH op_notBl g_notB ha hb (nomark _)

/-! ### chains -/
theorem chain_ok {r r' : R2} {p q : Int → Int → Bool} (hr : r = rI0 fun i j => .bl (p i j)) (hr' : r' = rI0 fun i j => .bl (q i j)) {σ : L2.St} {H : Hp} {Q : VK} (h : eOf K (xChain p q a b c) σ H Q) : tChain r r' (eOf K a) (eOf K b) (eOf K c) σ H Q := by
  subst hr hr'
  obtain ⟨ρ, σv, h0, w, h', st, hv, e, k⟩ := h
  unfold xChain at e
  split at e
  · rename_i i h1 ea
    split at e
    · rename_i j h2 eb
      split at e
      · rename_i ep
        split at e
        · rename_i l h3 ec
          cases e
          refine e_two st hv ea eb fun ρ2 H2 x y x2 st2 hv2 r1 r2 => ⟨i, j, r1.int, r2.int, true, congrArg V.bl ep, ?_⟩
          rw [if_pos rfl]
          exact e_one st2 hv2 ec fun ρ3 H3 z x3 st3 hv3 r3 => ⟨j, l, r2.int, r3.int, k ρ3 H3 _ (x2.trans x3) hv3 (.inl (.bl _))⟩
        · cases e
      · rename_i ep
        cases e
        refine e_two st hv ea eb fun ρ2 H2 x y x2 st2 hv2 r1 r2 => ⟨i, j, r1.int, r2.int, false, congrArg V.bl ep, ?_⟩
        rw [if_neg Bool.false_ne_true]
        exact k ρ2 H2 _ x2 hv2 (.inl (.bl _))
    · cases e
  · cases e
variable {g : Expr}
theorem r_lt : (rI0 fun i j => V.bl (decide (i < j))) = (rI0 fun i j => .bl (ilt i j)) := by
  congr 1
  funext i j
  rw [ilt_eq]
theorem r_le : (rI0 fun i j => V.bl (decide (i ≤ j))) = (rI0 fun i j => .bl (ile i j)) := by
  congr 1
  funext i j
  rw [ile_eq]
/-- one of the two orders in a chain -/
inductive Lx : CmpOp → (Int → Int → Bool) → Prop where
  | lt : Lx .Lt ilt
  | le : Lx .LtE ile
theorem Lx.op {o : CmpOp} {p : Int → Int → Bool} (h : Lx o p) : OpR X (compareOp o) (rI0 fun i j => .bl (p i j)) := by
  cases h with
  | lt => rw [← r_lt]; exact op_lt
  | le => rw [← r_le]; exact op_le
theorem se_chain {o o' : CmpOp} {p q : Int → Int → Bool} (h1 : Lx o p) (h2 : Lx o' q) (ha : SE X e a) (hb : SE X f b) (hc : SE X g c) (hm : lastMarks [o, o'] [f, g] = false := by with_unfolding_all rfl) : SE X (.Compare e [o, o'] [f, g] pos) (xChain p q a b c) :=
  PE.imp (pe_chain h1.op h2.op ha hb hc hm) fun _ _ _ h => chain_ok rfl rfl h
theorem sb_chain {o o' : CmpOp} {p q : Int → Int → Bool} (h1 : Lx o p) (h2 : Lx o' q) (ha : SE X e a) (hb : SE X f b) (hc : SE X g c) (hm : lastMarks [o, o'] [f, g] = false := by with_unfolding_all rfl) : SB X (.Compare e [o, o'] [f, g] pos) (tV (xChain p q a b c)) :=
  PT.imp (pt_chain h1.op h2.op ha hb hc hm) fun _ _ _ h => chain_ok rfl rfl (tV_ok h)

/-! ### bools -/
/-- an expression (no comparison, no and, or, not) as a test -/
theorem sb_val (ha : SE X e a) (he : ∀ whole, isTrue e X.env whole = (do let v ← whole; standAt e.pos; holding [v] (truthy v)) := by intro _; rfl) : SB X e (tV a) :=
  PT.imp (pt_val ha he) fun _ _ _ h => tV_ok h
abbrev SW (X : Cx) (e : Expr) (m : BM) : Prop := PW X e (bOf (kx X) m)
theorem PW.imp {t t' : TT} (h : PW X e t) (k : ∀ σ H Q, t' σ H Q → t σ H Q) : PW X e t' := ⟨fun whole pins s σ H Q I q => h.run whole pins s σ H Q I (k σ H Q q)⟩
variable {t u : BM} {rest : List Expr}
theorem sw_and1 (ha : SB X e t) : SW X (.BoolOp .And [e] pos) t := pw_and1 ha
theorem sw_or1 (ha : SB X e t) : SW X (.BoolOp .Or [e] pos) t := pw_or1 ha
theorem sw_and (ha : SB X e t) (hb : SW X (.BoolOp .And (f :: rest) pos) u) : SW X (.BoolOp .And (e :: f :: rest) pos) (tAnd t u) :=
  PW.imp (pw_and ha hb) fun σ H Q ⟨ρ, σv, h, w, h', st, hv, eq, k⟩ => by
    unfold Ev.tAnd at eq
    split at eq
    · rename_i h1 ea
      refine b_one st hv ea fun ρ1 H1 x1 st1 hv1 => ?_
      rw [if_pos rfl]
      exact b_one st1 hv1 eq fun ρ2 H2 x2 st2 hv2 => k ρ2 H2 (x1.trans x2) hv2
    · rename_i h1 ea
      cases eq
      refine b_one st hv ea fun ρ1 H1 x1 st1 hv1 => ?_
      rw [if_neg Bool.false_ne_true]
      exact k ρ1 H1 x1 hv1
    · cases eq
theorem sw_or (ha : SB X e t) (hb : SW X (.BoolOp .Or (f :: rest) pos) u) : SW X (.BoolOp .Or (e :: f :: rest) pos) (tOr t u) :=
  PW.imp (pw_or ha hb) fun σ H Q ⟨ρ, σv, h, w, h', st, hv, eq, k⟩ => by
    unfold Ev.tOr at eq
    split at eq
    · rename_i h1 ea
      cases eq
      refine b_one st hv ea fun ρ1 H1 x1 st1 hv1 => ?_
      rw [if_pos rfl]
      exact k ρ1 H1 x1 hv1
    · rename_i h1 ea
      refine b_one st hv ea fun ρ1 H1 x1 st1 hv1 => ?_
      rw [if_neg Bool.false_ne_true]
      exact b_one st1 hv1 eq fun ρ2 H2 x2 st2 hv2 => k ρ2 H2 (x1.trans x2) hv2
    · cases eq
theorem sb_w (h : SW X e t) : SB X e t := PW.pt h
theorem sb_not (ha : SB X e t) : SB X (.UnaryOp .Not e pos) (tNot t) :=
  PT.imp (pt_not ha) fun σ H Q ⟨ρ, σv, h, w, h', st, hv, eq, k⟩ => by
    unfold Ev.tNot at eq
    split at eq
    · rename_i b1 h1 ea
      cases eq
      exact b_one st hv ea fun ρ1 H1 x1 st1 hv1 => k ρ1 H1 x1 hv1
    · cases eq
theorem se_one {op : BoolOp} (ha : SE X e a) : SE X (.BoolOp op [e] pos) a := pe_one ha
theorem se_and (ha : SE X e a) (hb : SE X (.BoolOp .And (f :: rest) pos) b) : SE X (.BoolOp .And (e :: f :: rest) pos) (xAnd a b) :=
  PE.imp (pe_and ha hb) fun σ H Q ⟨ρ, σv, h, w, h', st, hv, eq, k⟩ => by
    unfold Ev.xAnd at eq
    split at eq
    · rename_i h1 ea
      refine e_one st hv ea fun ρ1 H1 x x1 st1 hv1 r1 => ⟨true, r1.bl, ?_⟩
      rw [if_pos rfl]
      exact e_one st1 hv1 eq fun ρ2 H2 y x2 st2 hv2 r2 => k ρ2 H2 y (x1.trans x2) hv2 r2
    · rename_i h1 ea
      cases eq
      refine e_one st hv ea fun ρ1 H1 x x1 st1 hv1 r1 => ⟨false, r1.bl, ?_⟩
      rw [if_neg Bool.false_ne_true]
      exact k ρ1 H1 _ x1 hv1 (.inl (.bl _))
    · cases eq
theorem se_or (ha : SE X e a) (hb : SE X (.BoolOp .Or (f :: rest) pos) b) : SE X (.BoolOp .Or (e :: f :: rest) pos) (xOr a b) :=
  PE.imp (pe_or ha hb) fun σ H Q ⟨ρ, σv, h, w, h', st, hv, eq, k⟩ => by
    unfold Ev.xOr at eq
    split at eq
    · rename_i h1 ea
      cases eq
      refine e_one st hv ea fun ρ1 H1 x x1 st1 hv1 r1 => ⟨true, r1.bl, ?_⟩
      rw [if_pos rfl]
      exact k ρ1 H1 _ x1 hv1 (.inl (.bl _))
    · rename_i h1 ea
      refine e_one st hv ea fun ρ1 H1 x x1 st1 hv1 r1 => ⟨false, r1.bl, ?_⟩
      rw [if_neg Bool.false_ne_true]
      exact e_one st1 hv1 eq fun ρ2 H2 y x2 st2 hv2 r2 => k ρ2 H2 y (x1.trans x2) hv2 r2
    · cases eq
theorem se_not (ha : SE X e a) : SE X (.UnaryOp .Not e pos) (xNot a) :=
  PE.imp (pe_not ha) fun σ H Q ⟨ρ, σv, h, w, h', st, hv, eq, k⟩ => by
    unfold Ev.xNot at eq
    split at eq
    · rename_i b1 h1 ea
      cases eq
      exact e_one st hv ea fun ρ1 H1 x x1 st1 hv1 r1 => ⟨b1, r1.bl, k ρ1 H1 _ x1 hv1 (.inl (.bl _))⟩
    · cases eq
theorem se_if (ht : SB X g t) (ha : SE X e a) (hb : SE X f b) : SE X (.IfExp g e f pos) (xIf t a b) :=
  PE.imp (pe_ifExp ht ha hb) fun σ H Q ⟨ρ, σv, h, w, h', st, hv, eq, k⟩ => by
    unfold Ev.xIf at eq
    split at eq
    · rename_i h1 ea
      refine b_one st hv ea fun ρ1 H1 x1 st1 hv1 => ?_
      rw [if_pos rfl]
      exact e_one st1 hv1 eq fun ρ2 H2 y x2 st2 hv2 r2 => k ρ2 H2 y (x1.trans x2) hv2 r2
    · rename_i h1 ea
      refine b_one st hv ea fun ρ1 H1 x1 st1 hv1 => ?_
      rw [if_neg Bool.false_ne_true]
      exact e_one st1 hv1 eq fun ρ2 H2 y x2 st2 hv2 r2 => k ρ2 H2 y (x1.trans x2) hv2 r2
    · cases eq
end
end Ev
end
section
set_option Elab.async false
set_option linter.all false
set_option maxRecDepth 100000
/-! EvExp3: written lists, subscripts, built-in functions. -/
namespace Ev
open PySem PySem.Spec PyProof.Rows L2

theorem short_lt {α : Type} : ∀ {n : Nat} {xs : List α}, short n xs = true → xs.length < n
  | 0, _, h => by cases h
  | n + 1, [], _ => Nat.succ_pos n
  | n + 1, _ :: xs, h => Nat.succ_lt_succ (short_lt (n := n) (xs := xs) h)
theorem short_sz {α : Type} {xs : List α} (h : short 1000000 xs = true) : xs.length ≤ sizeLine := by
  have h1 := short_lt h
  rw [sizeLine_eq]
  omega
section
variable {K : Kx} {ρ : Rh} {H : Hp} {σ : L2.St} {σv : Sv} {h h1 h2 h3 : Hv} {v u w : Va} {a b c : EM}
/-- what comes behind, at any later place -/
abbrev Kt (K : Kx) (ρ : Rh) (H : Hp) (h : Hv) (w : Va) (Q : VK) : Prop := ∀ ρ' H' z, Ext ρ H ρ' H' → HvR K ρ' H' h → RpT K ρ' H' z w → Q z H'
theorem fresh_lst {ys : List V} {xs : List Va} {Q : VK} (hv : HvR K ρ H h) (r : RpL K ρ H ys xs) (k : Kt K ρ H h (.lst xs) Q) : ∀ p, H p = none → Q (.ref p) (upd H p (.lst ys)) :=
  fun p hp => k ρ _ _ (Ext.upd hv hp) (hv.upd hp) (.inl (.lst (.inl ⟨hv.out hp, .inl upd_same⟩) (r.ext (Ext.upd hv hp))))
theorem fresh_tup {ys : List V} {xs : List Va} {Q : VK} (hv : HvR K ρ H h) (r : RpL K ρ H ys xs) (k : Kt K ρ H h (.tup xs) Q) : ∀ p o, H p = none → o.dict = none → Q (.ref p) (upd H p (.frz o (.tup ys))) :=
  fun p o hp hd => k ρ _ _ (Ext.upd hv hp) (hv.upd hp) (.inl (.tup (.inl ⟨o, hd, upd_same⟩) (r.ext (Ext.upd hv hp))))
theorem fresh_cell {ys : List V} {xs : List Va} {Q : VK} (hv : HvR K ρ H h) (r : RpL K ρ H ys xs) (k : Kt K ρ H (h ++ [.lst xs]) (.ref h.length) Q) : ∀ p, H p = none → Q (.ref p) (upd H p (.lst ys)) :=
  fun p hp => k (ρ.add p) _ _ (Ext.new hv hp) (hv.new hp ⟨ys, upd_same, r.ext (Ext.new hv hp)⟩) (.inr ⟨_, p, rfl, rfl, Rh.last hv⟩)

/-! ### one value -/
/-- the rule r does what g says -/
def G1 (K : Kx) (r : V → Hp → VK → Prop) (g : Hv → Va → Option Va) : Prop :=
  ∀ (ρ : Rh) (H : Hp) (h : Hv) (x : V) (v w : Va) (Q : VK), HvR K ρ H h → RpT K ρ H x v → g h v = some w → Kt K ρ H h w Q → r x H Q
theorem op_u {r : V → Hp → VK → Prop} {g : Hv → Va → Option Va} (G : G1 K r g) {Q : VK} (hq : eOf K (xU a g) σ H Q) : eOf K a σ H fun x H1 => r x H1 Q := by
  obtain ⟨ρ, σv, h, w, h', st, hv, e, k⟩ := hq
  unfold xU at e
  split at e
  · rename_i v h1 ea
    split at e
    · rename_i w' eg
      cases e
      exact e_one st hv ea fun ρ1 H1 x x1 st1 hv1 r1 => G ρ1 H1 _ x v w Q hv1 r1 eg fun ρ2 H2 z x2 hv2 r2 => k ρ2 H2 z (x1.trans x2) hv2 r2
    · cases e
  · cases e
theorem op_a {r : List V → Hp → VK → Prop} {g : Hv → Va → Option Va} (G : G1 K (fun x => r [x]) g) {Q : VK} (hq : eOf K (xU a g) σ H Q) : tCB r (tCons (eOf K a) tNil) σ H Q := op_u G hq
/-- two arguments -/
theorem op_a2 {r : List V → Hp → VK → Prop} {g : Hv → Va → Va → Option Va} (G : G2 K (fun x y => r [x, y]) g) {Q : VK} (hq : eOf K (xVH a b g) σ H Q) : tCB r (tCons (eOf K a) (tCons (eOf K b) tNil)) σ H Q := op_vh G hq
end

section
variable {X : Cx} {e f : Expr} {es : List Expr} {pos p p1 p2 p3 : Pos} {a b c : EM} {r : AM}
/-- the name stands for the built-in thing -/
structure Bn (X : Cx) (x : Str) : Prop where
  g : Gl X x
  m : X.mg x = none

/-! ### new tuples, their objects known -/
/-- the tuple just laid -/
theorem laid_tup {X : Cx} {pins : List (Addr × Obj)} {σ : L2.St} {H : Hp} {s : Shared} {h' : Heap} {a : Addr} {us : List Value} {xs : List V} {t' : Nat} (I : Inv X pins σ H s) (k : ∀ b u, s.heap.get? b = some u → h'.get? b = some u) (hp : s.heap.objs.size ≤ a)
    (r : Vals xs us) (z : xs.length ≤ sizeLine) (e : h'.get? a = some { cls := .type "tuple", data := .seq us.toArray }) :
    Inv X pins σ (upd H a (.frz { cls := .type "tuple", data := .seq us.toArray } (.tup xs))) { s with heap := h', toks := t' } :=
  I.laid k hp ⟨e, z, us, r, _, e, rfl, _, rfl⟩
/-- `∀ p o` of a new tuple -/
abbrev NewT (xs : List V) (H : Hp) (Q : VK) : Prop := ∀ (p : Addr) (o : Obj), H p = none → o.dict = none → Q (.ref p) (upd H p (.frz o (.tup xs)))
def tTupN (t : TA) : TE := fun σ H Q => t σ H fun xs H1 => xs.length ≤ sizeLine ∧ NewT xs H1 Q
theorem pe_tupN {t : TA} {x1} (h : PA X es t) : PE X (.Tuple es x1 pos) (tTupN t) := by
  refine ⟨fun pins s σ H Q I hq => ?_⟩
  refine wpAny_Tuple_spliced (thn (h.run pos pins s σ H _ I hq) fun us s1 ⟨xs, H1, I1, r, z, q⟩ => ⟨by rw [← r.length]; exact z, ?_⟩)
  exact ⟨.ref s1.heap.objs.size, _, laid_tup (t' := s1.toks) I1 (fun b u e => Heap.get?_push_of_some _ e) (Nat.le_refl _) r z (Heap.get?_push_size _ rfl), rfl, q _ _ (I1.hok.fresh (Nat.le_refl _)) rfl⟩
/-- t + u -/
def rCatN (K : PySem.W.Frag) : R2 := fun x y H Q => ∃ a b xs ys, x = .ref a ∧ y = .ref b ∧ SqT K H a xs ∧ SqT K H b ys ∧ xs.length + ys.length ≤ sizeLine ∧
  (xs = [] → Q (.ref b) H) ∧ (xs ≠ [] → ys = [] → Q (.ref a) H) ∧ NewT (xs ++ ys) H Q
theorem op_catN : OpR X (binaryOp .Add) (rCatN X.K) := by
  intro pins s σ H x y v u Q I rx ry h
  obtain ⟨a, b, xs, ys, rfl, rfl, ha, hb, hz, q0, q1, q2⟩ := h
  cases rx
  cases ry
  obtain ⟨its, r1, p1, _⟩ := I.tuple ha
  obtain ⟨its2, r2, p2, _⟩ := I.tuple hb
  by_cases hx : xs = []
  · subst hx
    cases r1
    exact cat_tup0 p1 p2 ⟨.ref b, H, I, rfl, q0 rfl⟩
  · refine HT.cat_tup p1 p2 (fun z => hx (r1.nil_iff.mp z)) (fun z => ⟨.ref a, H, I, rfl, q1 hx (r2.nil_iff.mp z)⟩) (fun z => ?_) (by rw [← r1.length, ← r2.length]; exact hz)
    exact ⟨.ref s.heap.objs.size, _, laid_tup (t' := s.toks) I (fun b u e => Heap.get?_push_of_some _ e) (Nat.le_refl _) (r1.append r2) (by rw [List.length_append]; exact hz) (Heap.get?_push_size _ rfl), rfl, q2 _ _ (I.hok.fresh (Nat.le_refl _)) rfl⟩
/-- t[lo:hi] -/
def rSlN (K : PySem.W.Frag) : V → Option Int → Option Int → Hp → VK → Prop := fun x lo hi H Q => ∃ a xs, x = .ref a ∧ SqT K H a xs ∧
  (HT.sIx xs.length 0 lo = 0 ∧ HT.sIx xs.length xs.length hi = xs.length → Q (.ref a) H) ∧ NewT (cutV xs lo hi) H Q
theorem sl_tupN : SlR X (rSlN X.K) := by
  intro pins s σ H x v vl vu lo hi sl Q I rx hs pl pu h
  obtain ⟨a, xs, rfl, hx, q1, q2⟩ := h
  cases rx
  obtain ⟨its, r, ht, hz⟩ := I.tuple hx
  have hlen : its.toArray.size = xs.length := by rw [List.size_toArray]; exact r.length.symm
  refine ⟨"tuple", _, PyProof.Rows.slot_tuple_getitem.lookup, ht.typeIs, ?_⟩
  by_cases hw : HT.sIx xs.length 0 lo = 0 ∧ HT.sIx xs.length xs.length hi = xs.length
  · exact getItem_tuple_whole ht hs pl pu (by rw [hlen]; exact hw) ⟨.ref a, H, I, rfl, q1 hw⟩
  · refine HT.getItem_tuple_cut ht hs pl pu (by rw [hlen]; exact hw) ?_ (by rw [hlen]; exact hz)
    rw [hlen]
    exact ⟨.ref s.heap.objs.size, _, laid_tup (t' := s.toks) (xs := cutV xs lo hi) I (fun b u e => Heap.get?_push_of_some _ e) (Nat.le_refl _) ((r.drop (HT.sIx xs.length 0 lo)).take (HT.sIx xs.length xs.length hi - HT.sIx xs.length 0 lo)) (Nat.le_trans (cutV_length xs lo hi) hz) (Heap.get?_push_size _ rfl), rfl, q2 _ _ (I.hok.fresh (Nat.le_refl _)) rfl⟩
/-- tuple(xs) -/
def rTupN (K : PySem.W.Frag) : List V → Hp → VK → Prop := fun vs H Q => ∃ p ys, vs = [.ref p] ∧ ((SqL K H p ys ∧ NewT ys H Q) ∨ (SqT K H p ys ∧ Q (.ref p) H))
theorem cr_tupN : CallR X (.type "tuple") (rTupN X.K) := by
  intro pins s σ H xs us Q I r h
  obtain ⟨p, ys, rfl, h⟩ := h
  obtain ⟨u, rfl, rx⟩ := L2.vals1 r
  cases rx
  rcases h with ⟨hq, q⟩ | ⟨hq, q⟩
  · obtain ⟨its, r', pl, hz⟩ := I.list hq
    have hlen := r'.length
    have hn := line63
    refine call_tuple_list pl.isList (fun h' kp => ?_) (by simp only [List.size_toArray] <;> omega)
    have I1 : Inv X pins σ H { s with heap := h' } := I.kept (t' := s.toks) kp
    have I2 : Inv X pins σ (upd H h'.objs.size (.frz { cls := .type "tuple", data := .seq its.toArray } (.tup ys))) { s with heap := h'.push { cls := .type "tuple", data := .seq its.toArray } } :=
      laid_tup (s := { s with heap := h' }) (t' := s.toks) I1 (fun b o e => Heap.get?_push_of_some _ e) (Nat.le_refl _) r' hz (Heap.get?_push_size _ rfl)
    exact ⟨.ref h'.objs.size, _, I2, rfl, q _ _ (I1.hok.fresh (Nat.le_refl _)) rfl⟩
  · obtain ⟨its, r', pl, hz⟩ := I.tuple hq
    exact call_tuple_same pl ⟨.ref p, H, I, rfl, q⟩

/-! ### written lists -/
theorem sa_nil : SA X [] aNil := PA.imp pa_nil fun σ H Q ⟨ρ, σv, h, w, h', st, hv, eq, k⟩ => by
  cases eq
  exact k ρ H [] .refl hv .nil
theorem sa_cons (ha : SE X e a) (hr : SA X es r) (hs : starEach (e :: es) X.env = (false, eval e X.env) :: starEach es X.env := by rfl) : SA X (e :: es) (aCons a r) :=
  PA.imp (pa_cons ha hr hs) fun σ H Q ⟨ρ, σv, h, w, h', st, hv, eq, k⟩ => by
    unfold aCons at eq
    split at eq
    · rename_i v h1 ea
      split at eq
      · rename_i vs h2 er
        cases eq
        exact e_one st hv ea fun ρ1 H1 x x1 st1 hv1 r1 => a_one st1 hv1 er fun ρ2 H2 xs x2 st2 hv2 r2 => k ρ2 H2 _ (x1.trans x2) hv2 (.cons (r1.ext x2) r2)
      · cases eq
    · cases eq
theorem star_ok {K : Kx} {σ : L2.St} {H : Hp} {Q : List V → Hp → Prop} (hq : aOf K (aStar a r) σ H Q) : StX.tStar K.k (eOf K a) (aOf K r) σ H Q := by
  obtain ⟨ρ, σv, h, w, h', st, hv, eq, k⟩ := hq
  unfold aStar at eq
  split at eq
  · rename_i xs h1 ea
    split at eq
    · rename_i vs h2 er
      cases eq
      refine e_one st hv ea fun ρ1 H1 x x1 st1 hv1 r1 => ?_
      obtain ⟨p, ys, rfl, q1, q2⟩ := r1.tup
      exact ⟨p, ys, rfl, .inl q1.seq, a_one st1 hv1 er fun ρ2 H2 zs x2 st2 hv2 r2 => k ρ2 H2 _ (x1.trans x2) hv2 ((q2.ext x2).tops.append r2)⟩
    · cases eq
  · rename_i xs h1 ea
    split at eq
    · rename_i vs h2 er
      cases eq
      refine e_one st hv ea fun ρ1 H1 x x1 st1 hv1 r1 => ?_
      obtain ⟨p, ys, rfl, q1, q2⟩ := r1.lst
      exact ⟨p, ys, rfl, .inr q1.seq, a_one st1 hv1 er fun ρ2 H2 zs x2 st2 hv2 r2 => k ρ2 H2 _ (x1.trans x2) hv2 ((q2.ext x2).tops.append r2)⟩
    · cases eq
  · cases eq
theorem sa_star (ha : SE X e a) (hr : SA X es r) (hs : starEach (.Starred e p :: es) X.env = (true, eval e X.env) :: starEach es X.env := by rfl) : SA X (.Starred e p :: es) (aStar a r) :=
  PA.imp (StX.pa_star ha hr hs) fun _ _ _ hq => star_ok hq
theorem se_tup {x1} (h : SA X es r) : SE X (.Tuple es x1 pos) (xTup r) :=
  PE.imp (pe_tupN h) fun σ H Q ⟨ρ, σv, h, w, h', st, hv, eq, k⟩ => by
    unfold xTup at eq
    split at eq
    · rename_i vs h1 ea
      split at eq
      · rename_i q1 q2
        cases eq
        refine a_one st hv ea fun ρ1 H1 xs x1 st1 hv1 r1 => ⟨by rw [r1.length]; exact short_sz q2, ?_⟩
        exact fresh_tup hv1 (r1.pure q1) fun ρ2 H2 z x2 hv2 r2 => k ρ2 H2 z (x1.trans x2) hv2 r2
      · cases eq
    · cases eq
theorem se_lst (h : SA X es r) : SE X (.List es pos) (xLst r) :=
  PE.imp (pe_lst h) fun σ H Q ⟨ρ, σv, h, w, h', st, hv, eq, k⟩ => by
    unfold xLst at eq
    split at eq
    · rename_i vs h1 ea
      split at eq
      · rename_i q1 q2
        cases eq
        refine a_one st hv ea fun ρ1 H1 xs x1 st1 hv1 r1 => ⟨by rw [r1.length]; exact short_sz q2, ?_⟩
        exact fresh_lst hv1 (r1.pure q1) fun ρ2 H2 z x2 hv2 r2 => k ρ2 H2 z (x1.trans x2) hv2 r2
      · cases eq
    · cases eq
theorem se_newL (h : SA X es r) : SE X (.List es pos) (xNewL r) :=
  PE.imp (pe_lst h) fun σ H Q ⟨ρ, σv, h, w, h', st, hv, eq, k⟩ => by
    unfold xNewL at eq
    split at eq
    · rename_i vs h1 ea
      split at eq
      · rename_i q1 q2
        cases eq
        refine a_one st hv ea fun ρ1 H1 xs x1 st1 hv1 r1 => ⟨by rw [r1.length]; exact short_sz q2, ?_⟩
        exact fresh_cell hv1 (r1.pure q1) fun ρ2 H2 z x2 hv2 r2 => k ρ2 H2 z (x1.trans x2) hv2 r2
      · cases eq
    · cases eq

/-! ### subscripts -/
theorem natIx_N : ∀ (n : Nat) (i : Int), natIx n i = ixN n i
  | n, .ofNat m => by
    unfold natIx ixN
    have h0 : (0 : Int) ≤ Int.ofNat m := Int.natCast_nonneg m
    rw [if_pos h0]
    dsimp only
    cases e : Nat.blt m n with
    | true =>
      rw [Nat.blt_eq] at e
      rw [if_pos (show Int.ofNat m < (n : Int) from Int.ofNat_lt.mpr e)]
      rfl
    | false =>
      have e' : ¬ m < n := fun q => by rw [← Nat.blt_eq, e] at q; cases q
      rw [if_neg (fun q : Int.ofNat m < (n : Int) => e' (Int.ofNat_lt.mp q))]
  | n, .negSucc m => by
    unfold natIx ixN
    rw [if_neg (by omega)]
    dsimp only
    cases e : Nat.blt m n with
    | true =>
      rw [Nat.blt_eq] at e
      rw [if_pos (by omega)]
      show some (n - (m + 1)) = _
      congr 1
      omega
    | false =>
      have e' : ¬ m < n := fun q => by rw [← Nat.blt_eq, e] at q; cases q
      rw [if_neg (by omega)]
theorem itemAt_eq : ∀ (xs : List Va) (n : Nat), itemAt xs n = xs[n]?
  | [], _ => by simp [itemAt]
  | _ :: _, 0 => rfl
  | _ :: r, n + 1 => by
    show itemAt r n = _
    rw [itemAt_eq r n]
    simp
theorem itemI_atI (xs : List Va) (i : Int) : itemI xs i = atI xs i := by
  unfold itemI atI
  rw [natIx_N]
  cases ixN xs.length i with
  | none => rfl
  | some j => exact itemAt_eq xs j
theorem RpL.atI {K : Kx} {ρ : Rh} {H : Hp} {ys : List V} {xs : List Va} {i : Int} {w : Va} (q : RpL K ρ H ys xs) (e : itemI xs i = some w) : ∃ y, L2.atI ys i = some y ∧ Rp K ρ H y w := by
  rw [itemI_atI] at e
  unfold L2.atI at e ⊢
  rw [q.length]
  cases q2 : ixN xs.length i with
  | none => rw [q2] at e; cases e
  | some j =>
    rw [q2] at e
    exact q.get (i := j) e
theorem gIx_ok {h : Hv} {v u w : Va} (e : gIx h v u = some w) : ∃ xs i, u = .int i ∧ itemsOf h v = some xs ∧ itemI xs i = some w := by
  unfold gIx at e
  cases u with
  | int i =>
    cases v with
    | tup xs => exact ⟨xs, i, rfl, rfl, e⟩
    | lst xs => exact ⟨xs, i, rfl, rfl, e⟩
    | ref n =>
      have e' : (match cellAt h n with
        | some (.lst xs) => itemI xs i
        | _ => none) = some w := e
      split at e'
      · rename_i xs q
        exact ⟨xs, i, rfl, by simp only [itemsOf, q], e'⟩
      · cases e'
    | non => cases e
    | bl _ => cases e
    | int _ => cases e
    | str _ => cases e
  | _ => cases e
theorem g_ix {K : Kx} : G2 K (fun x y H Q => rIxL K.k x y H Q ∨ rIxT K.k x y H Q) gIx := by
  intro ρ H h x y v u w Q hv rx ry e k
  obtain ⟨xs, i, rfl, e1, e2⟩ := gIx_ok e
  obtain ⟨a, ys, rfl, q1, q2⟩ := items_ok hv rx e1
  obtain ⟨z, e3, q3⟩ := q2.atI e2
  rcases q1 with q1 | q1
  · exact .inl ⟨a, ys, i, z, rfl, ry.int, q1, e3, k ρ H z .refl hv (.inl q3)⟩
  · exact .inr ⟨a, ys, i, z, rfl, ry.int, q1, e3, k ρ H z .refl hv (.inl q3)⟩
theorem se_ix (ha : SE X e a) (hb : SE X f b) (hs : PlainIx f := by intro _ _; rfl) : SE X (.Subscript e f pos) (xIx a b) :=
  PE.imp (pe_ix (ix_list.or ix_tup) ha hb hs) fun _ _ _ h => op_vh g_ix h

/-! ### slices -/
theorem sEnd_ix (n d : Nat) : ∀ i : Int, sEnd n i = HT.sIx n d (some i)
  | .ofNat m => by
    have : HT.sIx n d (some (Int.ofNat m)) = min m n := HT.sIx_nat n d m
    rw [this]
    unfold sEnd
    dsimp only
    cases e : Nat.ble m n with
    | true => exact (Nat.min_eq_left (Nat.le_of_ble_eq_true e)).symm
    | false =>
      have e' : ¬ m ≤ n := fun q => by rw [Nat.ble_eq_true_of_le q] at e; cases e
      show n = min m n
      omega
  | .negSucc m => by
    show n - (m + 1) = if Int.negSucc m < 0 then (Int.negSucc m + (n : Int)).toNat else _
    rw [if_pos (Int.negSucc_lt_zero m)]
    show n - (m + 1) = _
    omega
theorem cut_take (xs : List Va) (lo hi : Option Int) : cut xs lo hi = (xs.drop (HT.sIx xs.length 0 lo)).take (HT.sIx xs.length xs.length hi - HT.sIx xs.length 0 lo) := by
  unfold cut
  cases lo with
  | none => cases hi with
    | none => rfl
    | some j => simp only [sEnd_ix xs.length xs.length j]; rfl
  | some i => cases hi with
    | none => simp only [sEnd_ix xs.length 0 i]; rfl
    | some j => simp only [sEnd_ix xs.length 0 i, sEnd_ix xs.length xs.length j]
theorem RpL.cut {K : Kx} {ρ : Rh} {H : Hp} {ys : List V} {xs : List Va} (q : RpL K ρ H ys xs) (lo hi : Option Int) : RpL K ρ H (cutV ys lo hi) (Ev.cut xs lo hi) := by
  rw [cut_take, cutV, q.length]
  exact (q.drop _).take _
/-- one end of a slice, a value -/
def oOf (K : Kx) (m : Option EM) : TO := fun σ H Q => match m with
  | none => Q none H
  | some a => eOf K a σ H fun x H1 => ∃ i, x = .int i ∧ Q (some i) H1
abbrev SO (X : Cx) (o : Option Expr) (m : Option EM) : Prop := PO X o (oOf (kx X) m)
theorem so_none : SO X none none := po_none
theorem so_some (h : SE X e a) : SO X (some e) (some a) := po_some h
theorem o_one {K : Kx} {ρ : Rh} {H : Hp} {σ : L2.St} {σv : Sv} {h h1 : Hv} {m : Option EM} {l : Option Int} {R : Option Int → Hp → Prop} (st : StR K ρ H σ σv) (hv : HvR K ρ H h) (ea : ends m σv h = some (l, h1))
    (k : ∀ ρ' H', Ext ρ H ρ' H' → StR K ρ' H' σ σv → HvR K ρ' H' h1 → R l H') : oOf K m σ H R := by
  cases m with
  | none =>
    cases ea
    exact k ρ H .refl st hv
  | some a =>
    unfold ends at ea
    dsimp only at ea
    split at ea
    · rename_i i h2 e2
      cases ea
      exact e_one st hv e2 fun ρ1 H1 x x1 st1 hv1 r1 => ⟨i, r1.int, k ρ1 H1 x1 st1 hv1⟩
    · cases ea
theorem se_sl {lo hi : Option Expr} {ml mh : Option EM} (ha : SE X e a) (hl : SO X lo ml) (hh : SO X hi mh) : SE X (.Subscript e (.Slice lo hi none p2) pos) (xSl a ml mh) :=
  PE.imp (pe_slice (sl_list.or sl_tupN) ha hl hh) fun σ H Q ⟨ρ, σv, h, w, h', st, hv, eq, k⟩ => by
    unfold xSl at eq
    split at eq
    · rename_i v h1 ea
      split at eq
      · rename_i l h2 el
        split at eq
        · rename_i u h3 eh
          refine e_one st hv ea fun ρ1 H1 x x1 st1 hv1 r1 => o_one st1 hv1 el fun ρ2 H2 x2 st2 hv2 => o_one st2 hv2 eh fun ρ3 H3 x3 st3 hv3 => ?_
          have r3 := (r1.ext x2).ext x3
          have xx := (x1.trans x2).trans x3
          split at eq
          · rename_i xs
            cases eq
            obtain ⟨q, ys, rfl, q1, q2⟩ := r3.tup
            refine .inr ⟨q, ys, rfl, q1.seq, fun hw => ?_, ?_⟩
            · refine k ρ3 H3 _ xx hv3 (.inl (.tup q1 ?_))
              rw [cut_take, ← q2.length, hw.1, hw.2, List.drop_zero, Nat.sub_zero, List.take_of_length_le (by rw [q2.length]; exact Nat.le_refl _)]
              exact q2
            · exact fresh_tup hv3 (q2.cut l u) fun ρ4 H4 z x4 hv4 r4 => k ρ4 H4 z (xx.trans x4) hv4 r4
          · rename_i xs
            cases eq
            obtain ⟨q, ys, rfl, q1, q2⟩ := r3.lst
            exact .inl ⟨q, ys, rfl, q1.seq, fresh_lst hv3 (q2.cut l u) fun ρ4 H4 z x4 hv4 r4 => k ρ4 H4 z (xx.trans x4) hv4 r4⟩
          · cases eq
        · cases eq
      · cases eq
    · cases eq

/-! ### operators on sequences -/
theorem g_catT {K : Kx} : G2 K (rCatN K.k) (fun _ => gCatT) := by
  intro ρ H h x y v u w Q hv rx ry e k
  have e' : gCatT v u = some w := e
  unfold gCatT at e'
  split at e'
  · rename_i xs ys
    split at e'
    · rename_i s1 s2
      cases e'
      obtain ⟨a, xs', rfl, q1, q2⟩ := rx.tup
      obtain ⟨b, ys', rfl, q3, q4⟩ := ry.tup
      have l1 := short_lt s1
      have l2 := short_lt s2
      rw [← q2.length] at l1
      rw [← q4.length] at l2
      refine ⟨a, b, xs', ys', rfl, rfl, q1.seq, q3.seq, by rw [sizeLine_eq]; omega, fun z => ?_, fun _ z => ?_, ?_⟩
      · subst z
        cases q2
        exact k ρ H _ .refl hv (.inl (.tup q3 q4))
      · subst z
        cases q4
        rw [List.append_nil] at k
        exact k ρ H _ .refl hv (.inl (.tup q1 q2))
      · exact fresh_tup hv (q2.append q4) k
    · cases e'
  · cases e'
theorem se_catT (ha : SE X e a) (hb : SE X f b) : SE X (.BinOp e .Add f pos) (xVV a b gCatT) :=
  PE.imp (pe_op op_catN ha hb) fun _ _ _ h => op_vh g_catT h
theorem g_neg {K : Kx} : G1 K (rU fun i => .int (-i)) gNeg := by
  intro ρ H h x v w Q hv rx e k
  unfold gNeg at e
  split at e
  · rename_i i
    cases e
    exact ⟨i, rx.int, k ρ H _ .refl hv (.inl (.int _))⟩
  · cases e
theorem se_neg (ha : SE X e a) : SE X (.UnaryOp .USub e pos) (xU a gNeg) :=
  PE.imp (pe_un un_neg ha) fun _ _ _ h => op_u g_neg h

/-! ### built-in functions -/
theorem gLen_ok {h : Hv} {v w : Va} (e : gLen h v = some w) : ∃ xs, itemsOf h v = some xs ∧ w = .int (xs.length : Nat) := by
  unfold gLen at e
  cases v with
  | tup xs => cases e; exact ⟨xs, rfl, rfl⟩
  | lst xs => cases e; exact ⟨xs, rfl, rfl⟩
  | ref n =>
    dsimp only at e
    split at e
    · rename_i xs q
      cases e
      exact ⟨xs, by simp only [itemsOf, q], rfl⟩
    · cases e
  | non => cases e
  | bl _ => cases e
  | int _ => cases e
  | str _ => cases e
theorem g_len {K : Kx} : G1 K (fun x => (fun xs H Q => ∃ p ys, xs = [V.ref p] ∧ (SqL K.k H p ys ∨ SqT K.k H p ys) ∧ Q (.int ys.length) H : List V → Hp → VK → Prop) [x]) gLen := by
  intro ρ H h x v w Q hv rx e k
  obtain ⟨xs, e1, rfl⟩ := gLen_ok e
  obtain ⟨a, ys, rfl, q1, q2⟩ := items_ok hv rx e1
  refine ⟨a, ys, rfl, q1, ?_⟩
  rw [q2.length]
  exact k ρ H _ .refl hv (.inl (.int _))
theorem se_len (B : Bn X "len") (ha : SE X e a) (he : starEach [e] X.env = (false, eval e X.env) :: starEach [] X.env := by rfl) : SE X (.Call (.Name "len" p) [e] [] pos) (xU a gLen) :=
  PE.imp (pe_callB call_len_seq B.g B.m PySem.boot_len (pa_cons ha pa_nil he) (he := he)) fun _ _ _ h => op_a g_len h
theorem g_int {K : Kx} : G1 K (fun x => (fun xs H Q => (∃ i, xs = [.int i] ∧ Q (.int i) H) ∨ ∃ k, xs = [.bl k] ∧ Q (.int (if k then 1 else 0)) H : List V → Hp → VK → Prop) [x]) gInt := by
  intro ρ H h x v w Q hv rx e k
  unfold gInt at e
  split at e
  · rename_i i
    cases e
    exact .inl ⟨i, by rw [rx.int], k ρ H _ .refl hv (.inl (.int _))⟩
  · cases e
end
end Ev
end
section
set_option Elab.async false
set_option linter.all false
set_option maxRecDepth 100000
/-! EvExp4: built-in functions. -/
namespace Ev
open PySem PySem.Spec PyProof.Rows L2

section
variable {X : Cx} {e f : Expr} {es : List Expr} {pos p p1 p2 p3 : Pos} {a b c : EM} {r : AM}
theorem se_int1 (B : Bn X "int") (ha : SE X e a) (he : starEach [e] X.env = (false, eval e X.env) :: starEach [] X.env := by rfl) : SE X (.Call (.Name "int" p) [e] [] pos) (xU a gInt) :=
  PE.imp (pe_callTy call_int1 B.g B.m PyProof.Rows.boot_int (pa_cons ha pa_nil he) (he := he)) fun _ _ _ h => op_a g_int h

/-! ### isinstance -/
def Ty.nm : Ty → String
  | .int => "int"
  | .bool => "bool"
  | .tuple => "tuple"
  | .str => "str"
def Ty.txt : Ty → Str
  | .int => "int"
  | .bool => "bool"
  | .tuple => "tuple"
  | .str => "str"
theorem tup_ty {K : PySem.W.Frag} {H : Hp} {a : Addr} {ys : List V} (q : SqN K H a ys) : TyX K H (.ref a) (.type "tuple") := by
  rcases q with ⟨o, _, e⟩ | ⟨o, its, n, e, c, _⟩
  · exact .fTuple e
  · exact .kTuple e c
theorem kit_all : kitB "int" "int" = some true ∧ kitB "bool" "int" = some true ∧ kitB "str" "int" = some false ∧ kitB "tuple" "int" = some false ∧ kitB "NoneType" "int" = some false ∧
    kitB "int" "bool" = some false ∧ kitB "bool" "bool" = some true ∧ kitB "tuple" "tuple" = some true ∧ kitB "int" "tuple" = some false ∧ kitB "str" "str" = some true ∧ kitB "tuple" "str" = some false ∧ kitB "int" "str" = some false := by decide +kernel
theorem g_isi {K : Kx} (t : Ty) : G1 K (fun x => (fun xs => rIsi K.k xs) [x, .ty t.nm]) (gIsi t) := by
  intro ρ H h x v w Q hv rx e k
  obtain ⟨k1, k2, k3, k4, k5, k6, k7, k8, k9, k10, k11, k12⟩ := kit_all
  unfold gIsi at e
  have fin : ∀ (n : String) (b : Bool), kitB n t.nm = some b → TyX K.k H x (.type n) → isTy t v = some b → rIsi K.k [x, .ty t.nm] H Q := fun n b h1 h2 h3 => by
    rw [h3] at e
    cases e
    exact ⟨x, .ty t.nm, .type n, .type t.nm, b, rfl, .ty _, h2, kit_ty h1, k ρ H _ .refl hv (.inl (.bl b))⟩
  have ti : ∀ i, v = .int i → TyX K.k H x (.type "int") := fun i q => by subst q; rw [rx.int]; exact .base (.int i)
  have tb : ∀ i, v = .bl i → TyX K.k H x (.type "bool") := fun i q => by subst q; rw [rx.bl]; exact .base (.bl i)
  have ts : ∀ i, v = .str i → TyX K.k H x (.type "str") := fun i q => by subst q; rw [rx.str]; exact .base (.str i)
  have tn : v = .non → TyX K.k H x (.type "NoneType") := fun q => by subst q; rw [rx.non]; exact .base .non
  have tt : ∀ xs, v = .tup xs → TyX K.k H x (.type "tuple") := fun xs q => by
    subst q
    obtain ⟨a, ys, rfl, q1, q2⟩ := rx.tup
    exact tup_ty q1
  cases t with
  | int => cases v with
    | int i => exact fin _ _ k1 (ti i rfl) rfl
    | bl i => exact fin _ _ k2 (tb i rfl) rfl
    | str i => exact fin _ _ k3 (ts i rfl) rfl
    | tup i => exact fin _ _ k4 (tt i rfl) rfl
    | non => exact fin _ _ k5 (tn rfl) rfl
    | _ => cases e
  | bool => cases v with
    | int i => exact fin _ _ k6 (ti i rfl) rfl
    | bl i => exact fin _ _ k7 (tb i rfl) rfl
    | _ => cases e
  | tuple => cases v with
    | tup i => exact fin _ _ k8 (tt i rfl) rfl
    | int i => exact fin _ _ k9 (ti i rfl) rfl
    | _ => cases e
  | str => cases v with
    | str i => exact fin _ _ k10 (ts i rfl) rfl
    | tup i => exact fin _ _ k11 (tt i rfl) rfl
    | int i => exact fin _ _ k12 (ti i rfl) rfl
    | _ => cases e
theorem se_isi {t : Ty} {tx : Str} (B : Bn X "isinstance") (B2 : Bn X tx) (hb : bootBuiltins tx = some (.type t.nm)) (ha : SE X e a)
    (hn : tx ≠ "__name__" := by decide) (hd : (tx == ("__debug__" : Str)) = false := by decide)
    (h1 : starEach [e, .Name tx p2] X.env = (false, eval e X.env) :: starEach [.Name tx p2] X.env := by rfl) (h2 : starEach [.Name tx p2] X.env = (false, eval (.Name tx p2) X.env) :: starEach [] X.env := by rfl)
    (h3 : (backTo pos (starEach [.Name tx p2] X.env)).any (·.1) = false := by rfl) :
    SE X (.Call (.Name "isinstance" p) [e, .Name tx p2] [] pos) (xU a (gIsi t)) :=
  PE.imp (pe_callB call_isi B.g B.m PyProof.Rows.boot_isinstance (pa_cons ha (pa_cons (pe_bltn (v := .ty t.nm) B2.g B2.m hb rfl hn hd) pa_nil h2) h1) (he := h1) (hpl := h3)) fun _ _ _ h => op_u (g_isi t) h

/-! ### sums -/
theorem preSum_take (ns : List Int) : ∀ n, preSum (fun i => ns.getD i 0) n = (ns.take n).sum
  | 0 => by simp [preSum]
  | n + 1 => by
    rw [preSum, preSum_take ns n]
    by_cases h : n < ns.length
    · rw [← List.take_append_getElem h, List.sum_append]
      simp [List.getD, h]
    · rw [List.take_of_length_le (by omega), List.take_of_length_le (by omega)]
      simp [List.getD, List.getElem?_eq_none (by omega : ns.length ≤ n)]
/-- sum(t), a tuple of ints -/
theorem cr_sumT (hc : X.calm = true) : CallR X (.builtin "sum") (fun vs H Q => ∃ (a : Addr) (ns : List Int), vs = [V.ref a] ∧ SqT X.K H a (ns.map V.int) ∧ Q (.int ns.sum) H) := by
  intro pins s σ H vs us Q I r h
  obtain ⟨a, ns, rfl, hs, q⟩ := h
  obtain ⟨its, rv, hl, _⟩ := I.tuple hs
  rw [Vals.ref1 r]
  have hlen := rv.length
  rw [List.length_map] at hlen
  refine PySem.call_sum_walkAnyS (PySem.W.iter_tupleW (A := X.A.in1) (I.ok.hd hc) hl fun s₂ e W st hfp hw hk => ?_)
  refine ⟨_, _, _, _, _, _, _, fun i => ns.getD i 0, rfl, W, st, hfp, fun i v hi => ?_, fun s' t' m => ?_⟩
  · have hi' : its[i]? = some v := by simpa using hi
    have hlt : i < ns.length := by rw [hlen]; exact (List.getElem?_eq_some_iff.mp hi').1
    obtain ⟨u, h1, t, h2⟩ := rv.get (i := i) (x := .int ns[i]) (by simp [hlt])
    rw [hi'] at h1
    cases h1
    exact ⟨t, by rw [h2]; simp [List.getD, hlt]⟩
  · obtain ⟨h', tk, rfl, hk'⟩ := PySem.W.moved_old e rfl m
    refine ⟨.int ns.sum, H, I.kept hk', ⟨t', ?_⟩, q⟩
    rw [preSum_take, List.take_of_length_le (by rw [List.size_toArray]; omega)]
theorem sumI_ok {K : Kx} {ρ : Rh} {H : Hp} : ∀ {ys : List V} {xs : List Va} {n : Int}, RpL K ρ H ys xs → sumI xs = some n → ∃ ns : List Int, ys = ns.map V.int ∧ ns.sum = n
  | _, _, _, .nil, e => by
    cases e
    exact ⟨[], rfl, rfl⟩
  | _, x :: xs, n, .cons r t, e => by
    cases x with
    | int i =>
      unfold sumI at e
      split at e
      · rename_i m q
        cases e
        obtain ⟨ns, h1, h2⟩ := sumI_ok t q
        cases r
        exact ⟨i :: ns, by rw [h1]; rfl, by rw [List.sum_cons, h2]⟩
      · cases e
    | _ => cases e
theorem g_sum {K : Kx} : G1 K (fun x => (fun vs H Q => rSum K.k vs H Q ∨ ∃ (a : Addr) (ns : List Int), vs = [V.ref a] ∧ SqT K.k H a (ns.map V.int) ∧ Q (.int ns.sum) H) [x]) gSum := by
  intro ρ H h x v w Q hv rx e k
  unfold gSum at e
  split at e
  · rename_i xs e1
    split at e
    · rename_i n e2
      cases e
      obtain ⟨a, ys, rfl, q1, q2⟩ := items_ok hv rx e1
      obtain ⟨ns, rfl, rfl⟩ := sumI_ok q2 e2
      rcases q1 with q1 | q1
      · exact .inl ⟨a, ns, rfl, q1, k ρ H _ .refl hv (.inl (.int _))⟩
      · exact .inr ⟨a, ns, rfl, q1, k ρ H _ .refl hv (.inl (.int _))⟩
    · cases e
  · cases e
theorem se_sum (hc : X.calm = true) (B : Bn X "sum") (ha : SE X e a) (he : starEach [e] X.env = (false, eval e X.env) :: starEach [] X.env := by rfl) : SE X (.Call (.Name "sum" p) [e] [] pos) (xU a gSum) :=
  PE.imp (pe_callB ((cr_sum hc).or (cr_sumT hc)) B.g B.m PyProof.Rows.boot_sum (pa_cons ha pa_nil he) (he := he)) fun _ _ _ h => op_a g_sum h
theorem listOf_items {h : Hv} {v : Va} {xs : List Va} (e : listOf h v = some xs) : itemsOf h v = some xs := by
  cases v with
  | lst _ => exact e
  | ref _ => exact e
  | _ => cases e
theorem list_ok {K : Kx} {ρ : Rh} {H : Hp} {h : Hv} {x : V} {v : Va} {xs : List Va} (hv : HvR K ρ H h) (r : RpT K ρ H x v) (e : listOf h v = some xs) : ∃ a ys, x = .ref a ∧ SqL K.k H a ys ∧ RpL K ρ H ys xs := by
  cases v with
  | lst zs =>
    cases e
    obtain ⟨a, ys, h1, h2, h3⟩ := r.lst
    exact ⟨a, ys, h1, h2.seq, h3⟩
  | ref n =>
    obtain ⟨a, h1, h2⟩ := r.ref
    unfold listOf at e
    dsimp only at e
    split at e
    · rename_i zs q
      cases e
      obtain ⟨ys, h3, h4⟩ := hv.cell h2 q
      exact ⟨a, ys, h1, .inl (.inl h3), h4⟩
    · cases e
  | _ => cases e
theorem allB_ok {K : Kx} {ρ : Rh} {H : Hp} : ∀ {ys : List V} {xs : List Va} {n : Bool}, RpL K ρ H ys xs → allB xs = some n → ∃ ns : List Bool, ys = ns.map V.bl ∧ ns.all id = n
  | _, _, _, .nil, e => by
    cases e
    exact ⟨[], rfl, rfl⟩
  | _, x :: xs, n, .cons r t, e => by
    cases x with
    | bl i =>
      unfold allB at e
      split at e
      · rename_i m q
        cases e
        obtain ⟨ns, h1, h2⟩ := allB_ok t q
        cases r
        exact ⟨i :: ns, by rw [h1]; rfl, by rw [List.all_cons, h2]; rfl⟩
      · cases e
    | _ => cases e
theorem g_all {K : Kx} : G1 K (fun x => rAll K.k [x]) gAll := by
  intro ρ H h x v w Q hv rx e k
  unfold gAll at e
  split at e
  · rename_i xs e1
    split at e
    · rename_i n e2
      cases e
      obtain ⟨a, ys, rfl, q1, q2⟩ := list_ok hv rx e1
      obtain ⟨ns, rfl, rfl⟩ := allB_ok q2 e2
      exact ⟨a, ns, rfl, q1, k ρ H _ .refl hv (.inl (.bl _))⟩
    · cases e
  · cases e
theorem se_all (hc : X.calm = true) (B : Bn X "all") (ha : SE X e a) (he : starEach [e] X.env = (false, eval e X.env) :: starEach [] X.env := by rfl) : SE X (.Call (.Name "all" p) [e] [] pos) (xU a gAll) :=
  PE.imp (pe_callB (cr_all hc) B.g B.m PyProof.Rows.boot_all (pa_cons ha pa_nil he) (he := he)) fun _ _ _ h => op_a g_all h

/-! ### min, max -/
theorem g_min2 {K : Kx} : G2 K (fun x y => (fun xs H Q => ∃ i j, xs = [V.int i, .int j] ∧ Q (.int (if j < i then j else i)) H : List V → Hp → VK → Prop) [x, y]) (iiG gMin2) := by
  intro ρ H h x y v u w Q hv rx ry e k
  obtain ⟨i, j, rfl, rfl, eg⟩ := iiG_some e
  refine ⟨i, j, by rw [rx.int, ry.int], ?_⟩
  unfold gMin2 at eg
  rw [ilt_eq] at eg
  by_cases q : j < i
  · rw [if_pos q]
    rw [decide_eq_true q] at eg
    cases eg
    exact k ρ H _ .refl hv (.inl (.int _))
  · rw [if_neg q]
    rw [decide_eq_false q] at eg
    cases eg
    exact k ρ H _ .refl hv (.inl (.int _))
theorem se_min2 (hc : X.calm = true) (B : Bn X "min") (ha : SE X e a) (hb : SE X f b)
    (h1 : starEach [e, f] X.env = (false, eval e X.env) :: starEach [f] X.env := by rfl) (h2 : starEach [f] X.env = (false, eval f X.env) :: starEach [] X.env := by rfl)
    (h3 : (backTo pos (starEach [f] X.env)).any (·.1) = false := by rfl) : SE X (.Call (.Name "min" p) [e, f] [] pos) (xII a b gMin2) := by
  rw [show SE X (.Call (.Name "min" p) [e, f] [] pos) (xII a b gMin2) = PE X (.Call (.Name "min" p) [e, f] [] pos) (eOf (kx X) (xVH a b (iiG gMin2))) by rw [← xII_eq]]
  exact PE.imp (pe_callB (call_min2 hc) B.g B.m PyProof.Rows.boot_min (pa_cons ha (pa_cons hb pa_nil h2) h1) (he := h1) (hpl := h3)) fun _ _ _ h => op_a2 g_min2 h
theorem RpL.reads {ρ : Rh} {pins : List (Addr × Obj)} {s : Shared} {σ : L2.St} {H : Hp} (I : Inv X pins σ H s) : ∀ {ys : List V} {xs : List Va} {us : List Value}, RpL (kx X) ρ H ys xs → Vals ys us → ∃ as, ReadsAll s.heap us (toDs xs) as
  | _, _, _, .nil, .nil => ⟨_, by rw [toDs]; exact .nil⟩
  | _, _, _, .cons h t, .cons r rs => by
    obtain ⟨as, h1⟩ := Dp.reads I _ _ _ h.dp r
    obtain ⟨bs, h2⟩ := RpL.reads I t rs
    exact ⟨_, by rw [toDs]; exact .cons h1 h2⟩
theorem depths : ∀ (n : Nat) (xs : List Va), dles n xs = true → PyData.depthAll (toDs xs) ≤ n := fun n xs h => (plain_toDs n xs h).2
/-- the item that the walk found -/
theorem found_ok {ρ : Rh} {pins : List (Addr × Obj)} {s : Shared} {σ : L2.St} {H : Hp} {h' : Heap} {ys : List V} {xs : List Va} {us : List Value} {i : Nat} {v : Value} {m x : Va} {tk : Nat} {bs : List Addr} (I : Inv X pins σ H { s with heap := h', toks := tk })
    (q : RpL (kx X) ρ H ys xs) (rv : Vals ys us) (hi : us[i]? = some v) (r : Reads h' v (toD m) bs) (hs : shpAll x xs = true) (hd : dles 7 xs = true) (hm : m ∈ xs) : ∃ y, RelV y v ∧ Rp (kx X) ρ H y m := by
  have hlt : i < ys.length := by rw [rv.length]; exact (List.getElem?_eq_some_iff.mp hi).1
  obtain ⟨u, h1, h2⟩ := rv.get (i := i) (x := ys[i]) (List.getElem?_eq_getElem hlt)
  rw [hi] at h1
  cases h1
  obtain ⟨z, h3, h4⟩ := q.get' (i := i) (List.getElem?_eq_getElem hlt)
  obtain ⟨as, h5⟩ := Dp.reads I _ _ _ h4.dp h2
  have hz : z ∈ xs := List.mem_of_getElem? h3
  have e : toD m = toD z := PySem.SeqAt.plain_unique _ _ _ _ _ (plain_mem xs hd m hm) r h5
  have e2 : m = z := toD_inj m z (shpAll_two hs hm hz) e
  exact ⟨_, h2, by rw [e2]; exact h4⟩
where plain_mem : ∀ (xs : List Va), dles 7 xs = true → ∀ m ∈ xs, (toD m).plain = true
  | x :: xs, h, m, hm => by
    unfold dles at h
    cases q : dle 7 x with
    | false => rw [q] at h; cases h
    | true =>
      rw [q] at h
      rcases List.mem_cons.mp hm with e | e
      · rw [e]; exact (plain_toD 7 x q).1
      · exact plain_mem xs h m e
/-- min(xs), max(xs) -/
def rBest (K : Kx) (pick : Va → List Va → Va) : List V → Hp → VK → Prop := fun vs H Q => ∃ (ρ : Rh) (a : Addr) (ys : List V) (x : Va) (xs : List Va), vs = [V.ref a] ∧ (SqL K.k H a ys ∨ SqT K.k H a ys) ∧ RpL K ρ H ys (x :: xs) ∧
  shpAll x (x :: xs) = true ∧ dles 7 (x :: xs) = true ∧ ∀ y, Rp K ρ H y (pick x xs) → Q y H
theorem cr_minV (hc : X.calm = true) (hu : X.A.units + 64 < cLine) : CallR X (.builtin "min") (rBest (kx X) minV) := by
  intro pins s σ H vs us Q I r h
  obtain ⟨ρ, a, ys, x, xs, rfl, hq, rl, hs, hd, q⟩ := h
  rw [Vals.ref1 r]
  have hx : shp x x = true := shpAll_mem hs x List.mem_cons_self
  have hxs : shpAll x xs = true := by
    unfold shpAll at hs
    rw [hx] at hs
    exact hs
  have al : PySem.W.AlikeAll (toD x :: toDs xs) := by
    have := alikeAll_of hs
    rwa [toDs] at this
  have dp : PyData.depthAll (toD x :: toDs xs) ≤ 7 := by
    have := depths 7 _ hd
    rwa [toDs] at this
  have fin : ∀ (us : List Value), Vals ys us → ∀ (i : Nat) v h' tk bs, us.toArray[i]? = some v → Reads h' v (PySem.W.minD (toD x) (toDs xs)) bs → (∀ b o, s.heap.get? b = some o → h'.get? b = some o) → EP X pins σ Q v { s with heap := h', toks := tk } := fun us rv i v h' tk bs hi hr hk => by
    rw [minV_D x xs hx hxs] at hr
    obtain ⟨y, h1, h2⟩ := found_ok (s := s) (tk := tk) (I.kept hk) rl rv (by simpa using hi) hr hs hd (minV_mem x xs)
    exact ⟨y, H, I.kept hk, h1, q y h2⟩
  rcases hq with hq | hq
  · obtain ⟨its, rv, hl, _⟩ := I.list hq
    obtain ⟨as, hr⟩ := RpL.reads I rl rv
    rw [toDs] at hr
    exact PySem.W.min_list_data (I.ok.hd hc) hl.isList (by simpa using hr) al (by omega) (fin its rv)
  · obtain ⟨its, rv, hl, _⟩ := I.tuple hq
    obtain ⟨as, hr⟩ := RpL.reads I rl rv
    rw [toDs] at hr
    exact PySem.W.min_tuple_data (I.ok.hd hc) hl (by simpa using hr) al (by omega) (fin its rv)
theorem cr_maxV (hc : X.calm = true) (hu : X.A.units + 64 < cLine) : CallR X (.builtin "max") (rBest (kx X) maxV) := by
  intro pins s σ H vs us Q I r h
  obtain ⟨ρ, a, ys, x, xs, rfl, hq, rl, hs, hd, q⟩ := h
  rw [Vals.ref1 r]
  have hx : shp x x = true := shpAll_mem hs x List.mem_cons_self
  have hxs : shpAll x xs = true := by
    unfold shpAll at hs
    rw [hx] at hs
    exact hs
  have al : PySem.W.AlikeAll (toD x :: toDs xs) := by
    have := alikeAll_of hs
    rwa [toDs] at this
  have dp : PyData.depthAll (toD x :: toDs xs) ≤ 7 := by
    have := depths 7 _ hd
    rwa [toDs] at this
  have fin : ∀ (us : List Value), Vals ys us → ∀ (i : Nat) v h' tk bs, us.toArray[i]? = some v → Reads h' v (PySem.W.maxD (toD x) (toDs xs)) bs → (∀ b o, s.heap.get? b = some o → h'.get? b = some o) → EP X pins σ Q v { s with heap := h', toks := tk } := fun us rv i v h' tk bs hi hr hk => by
    rw [maxV_D x xs hx hxs] at hr
    obtain ⟨y, h1, h2⟩ := found_ok (s := s) (tk := tk) (I.kept hk) rl rv (by simpa using hi) hr hs hd (maxV_mem x xs)
    exact ⟨y, H, I.kept hk, h1, q y h2⟩
  rcases hq with hq | hq
  · obtain ⟨its, rv, hl, _⟩ := I.list hq
    obtain ⟨as, hr⟩ := RpL.reads I rl rv
    rw [toDs] at hr
    exact PySem.W.max_list_data (I.ok.hd hc) hl.isList (by simpa using hr) al (by omega) (fin its rv)
  · obtain ⟨its, rv, hl, _⟩ := I.tuple hq
    obtain ⟨as, hr⟩ := RpL.reads I rl rv
    rw [toDs] at hr
    exact PySem.W.max_tuple_data (I.ok.hd hc) hl (by simpa using hr) al (by omega) (fin its rv)
theorem g_min {K : Kx} : G1 K (fun x => rBest K minV [x]) gMin := by
  intro ρ H h x v w Q hv rx e k
  unfold gMin at e
  split at e
  · rename_i z xs e1
    split at e
    · rename_i e2 e3
      cases e
      obtain ⟨a, ys, rfl, q1, q2⟩ := items_ok hv rx e1
      exact ⟨ρ, a, ys, z, xs, rfl, q1, q2, e2, e3, fun y ry => k ρ H y .refl hv (.inl ry)⟩
    · cases e
  · cases e
theorem g_max {K : Kx} : G1 K (fun x => rBest K maxV [x]) gMax := by
  intro ρ H h x v w Q hv rx e k
  unfold gMax at e
  split at e
  · rename_i z xs e1
    split at e
    · rename_i e2 e3
      cases e
      obtain ⟨a, ys, rfl, q1, q2⟩ := items_ok hv rx e1
      exact ⟨ρ, a, ys, z, xs, rfl, q1, q2, e2, e3, fun y ry => k ρ H y .refl hv (.inl ry)⟩
    · cases e
  · cases e
theorem se_min (hc : X.calm = true) (hu : X.A.units + 64 < cLine) (B : Bn X "min") (ha : SE X e a) (he : starEach [e] X.env = (false, eval e X.env) :: starEach [] X.env := by rfl) : SE X (.Call (.Name "min" p) [e] [] pos) (xU a gMin) :=
  PE.imp (pe_callB (cr_minV hc hu) B.g B.m PyProof.Rows.boot_min (pa_cons ha pa_nil he) (he := he)) fun _ _ _ h => op_a g_min h
theorem se_max (hc : X.calm = true) (hu : X.A.units + 64 < cLine) (B : Bn X "max") (ha : SE X e a) (he : starEach [e] X.env = (false, eval e X.env) :: starEach [] X.env := by rfl) : SE X (.Call (.Name "max" p) [e] [] pos) (xU a gMax) :=
  PE.imp (pe_callB (cr_maxV hc hu) B.g B.m PyProof.Rows.boot_max (pa_cons ha pa_nil he) (he := he)) fun _ _ _ h => op_a g_max h

/-! ### tuple, list -/
theorem g_tupOf {K : Kx} : G1 K (fun x => rTupN K.k [x]) gTupOf := by
  intro ρ H h x v w Q hv rx e k
  unfold gTupOf at e
  split at e
  · rename_i xs e1
    cases e
    cases v with
    | tup zs =>
      cases e1
      obtain ⟨a, ys, rfl, q1, q2⟩ := rx.tup
      exact ⟨a, ys, rfl, .inr ⟨q1.seq, k ρ H _ .refl hv rx⟩⟩
    | lst zs =>
      obtain ⟨a, ys, rfl, q1, q2⟩ := list_ok hv rx (show listOf h (.lst zs) = some xs from e1)
      exact ⟨a, ys, rfl, .inl ⟨q1, fresh_tup hv q2 k⟩⟩
    | ref n =>
      obtain ⟨a, ys, rfl, q1, q2⟩ := list_ok hv rx (show listOf h (.ref n) = some xs from e1)
      exact ⟨a, ys, rfl, .inl ⟨q1, fresh_tup hv q2 k⟩⟩
    | _ => cases e1
  · cases e
theorem se_tupOf (B : Bn X "tuple") (ha : SE X e a) (he : starEach [e] X.env = (false, eval e X.env) :: starEach [] X.env := by rfl) : SE X (.Call (.Name "tuple" p) [e] [] pos) (xU a gTupOf) :=
  PE.imp (pe_callTy cr_tupN B.g B.m PyProof.Rows.boot_tuple (pa_cons ha pa_nil he) (he := he)) fun _ _ _ h => op_a g_tupOf h
abbrev rLstOf (K : PySem.W.Frag) : List V → Hp → VK → Prop := fun xs H Q => ∃ p ys, xs = [V.ref p] ∧ (SqL K H p ys ∨ SqT K H p ys) ∧ ∀ l, H l = none → Q (.ref l) (upd H l (.lst ys))
theorem g_lstOf {K : Kx} : G1 K (fun x => rLstOf K.k [x]) gLstOf := by
  intro ρ H h x v w Q hv rx e k
  unfold gLstOf at e
  split at e
  · rename_i xs e1
    cases e
    obtain ⟨a, ys, rfl, q1, q2⟩ := items_ok hv rx e1
    exact ⟨a, ys, rfl, q1, fresh_lst hv q2 k⟩
  · cases e
theorem se_lstOf (B : Bn X "list") (ha : SE X e a) (he : starEach [e] X.env = (false, eval e X.env) :: starEach [] X.env := by rfl) : SE X (.Call (.Name "list" p) [e] [] pos) (xU a gLstOf) :=
  PE.imp (pe_callTy call_list_of B.g B.m PyProof.Rows.boot_list (pa_cons ha pa_nil he) (he := he)) fun _ _ _ h => op_a g_lstOf h
theorem se_cellOf (B : Bn X "list") (ha : SE X e a) (he : starEach [e] X.env = (false, eval e X.env) :: starEach [] X.env := by rfl) : SE X (.Call (.Name "list" p) [e] [] pos) (xCellOf a) :=
  PE.imp (pe_callTy call_list_of B.g B.m PyProof.Rows.boot_list (pa_cons ha pa_nil he) (he := he)) fun σ H Q ⟨ρ, σv, h, w, h', st, hv, eq, k⟩ => by
    unfold xCellOf at eq
    split at eq
    · rename_i v h1 ea
      split at eq
      · rename_i xs e1
        cases eq
        refine e_one st hv ea fun ρ1 H1 x x1 st1 hv1 r1 => ?_
        obtain ⟨a, ys, rfl, q1, q2⟩ := items_ok hv1 r1 e1
        exact ⟨a, ys, rfl, q1, fresh_cell hv1 q2 fun ρ2 H2 z x2 hv2 r2 => k ρ2 H2 z (x1.trans x2) hv2 r2⟩
      · cases eq
    · cases eq
end
end Ev
end
section
set_option Elab.async false
set_option linter.all false
set_option maxRecDepth 100000
/-! EvExp5: list + list, x[::-1], list(range(..)), t.index(i), sorted. -/
namespace PyProof.Rows
open PySem PySem.Calls
open AutoSeq1 (wpAny_loadPart')
/-- x.extend(y), y's object of any dict and slots -/
theorem kz_extend (l : Addr) (items : Array Value) (n : Nat) (b : Addr) (items2 : Array Value) (n2 : Nat) (dd : Option Addr) (sl : Array (Option Value)) (hc0 : ¬(!items.isEmpty && Builtin.List.listTooLong (items.size + items2.size)) = true) (hc1 : items.size ≤ sizeLine) (hs2 : items.size + items2.size ≤ sizeLine + 1) :
    Meets (Builtin.«list.extend» ⟨[.ref l, .ref b], []⟩) (fun _ R s => s.heap.get? l = some { cls := .type "list", dict := none, data := .seq items n, slots := #[] } ∧ s.heap.get? b = some { cls := .type "list", dict := dd, data := .seq items2 n2, slots := sl } ∧ R (.ok (.ret Value.none)) { s with heap := s.heap.update l (Obj.mapSeq fun x => x ++ items2), toks := s.toks }) :=
  .of_wp fun prog w A R s h => by
    obtain ⟨hp, g, d, tk, os⟩ := s
    obtain ⟨hl, hb, h⟩ := h
    have f1 := AutoSeq1.idx_int
    have f2 := AutoSeq1.sub_tuple_tuple
    have f3 := AutoSeq1.sub_list_list
    have f4 := AutoSeq1.sub_tuple_list
    have f5 := AutoSeq1.sub_list_tuple
    have hz' : (items ++ items2).size ≤ sizeLine + 1 := by rw [Array.size_append]; exact hs2
    wp_walk using (wpAny_updateSeq hl rfl (hz := hc1) (_hz' := hz')), wpAny_loadPart' hl, wpAny_loadPart' hb
    exact ⟨_, rfl, h⟩
end PyProof.Rows
namespace Ev
open PySem PySem.Spec PyProof.Rows L2

section
variable {X : Cx} {e f : Expr} {es : List Expr} {pos p p1 p2 p3 apos cpos : Pos} {a b c : EM} {r : AM}
/-! ### list + list -/
def rCatL (K : PySem.W.Frag) : R2 := fun x y H Q => ∃ l b xs zs, x = .ref l ∧ y = .ref b ∧ SqL K H l xs ∧ SqL K H b zs ∧ xs.length + zs.length ≤ sizeLine ∧ ∀ p, H p = none → Q (.ref p) (upd H p (.lst (xs ++ zs)))
theorem op_catL : OpR X (binaryOp .Add) (rCatL X.K) := by
  intro pins s σ H x y v u Q I rx ry h
  obtain ⟨l, b, xs, zs, rfl, rfl, hx, hy, hz, q⟩ := h
  cases rx
  cases ry
  obtain ⟨its, r1, p1, _⟩ := I.list hx
  obtain ⟨its2, r2, p2, _⟩ := I.list hy
  have hl := r1.length
  have hl2 := r2.length
  obtain ⟨⟨cls, dd, data, sl⟩, n, ho, hc, _, hd⟩ := p1
  obtain ⟨⟨cls2, dd2, data2, sl2⟩, n2, ho2, hc2, _, hd2⟩ := p2
  simp only at hc hd hc2 hd2
  subst hc hd hc2 hd2
  refine concat_meets ⟨_, ho, rfl⟩ ⟨_, ho2, rfl⟩ noFill_list_add seq_list_add PySem.F.slot_list_add PySem.F.entry_list_add (PySem.F.args_list_add_2 _ _) (list_addW l b its.toArray its2.toArray n n2 dd dd2 sl sl2 (by rw [List.size_toArray, List.size_toArray]; omega)) ⟨ho, ho2, ?_⟩
  rw [show its.toArray ++ its2.toArray = (its ++ its2).toArray by simp]
  exact ⟨.ref _, _, I.lnew (t' := s.toks) (r1.append r2) (by rw [List.length_append]; omega), rfl, q _ I.fresh⟩
theorem g_catL {K : Kx} : G2 K (rCatL K.k) (fun _ => gCatL) := by
  intro ρ H h x y v u w Q hv rx ry e k
  have e' : gCatL v u = some w := e
  unfold gCatL at e'
  split at e'
  · rename_i xs ys
    split at e'
    · rename_i s1 s2
      cases e'
      obtain ⟨a, xs', rfl, q1, q2⟩ := rx.lst
      obtain ⟨b, ys', rfl, q3, q4⟩ := ry.lst
      have l1 := short_lt s1
      have l2 := short_lt s2
      rw [← q2.length] at l1
      rw [← q4.length] at l2
      exact ⟨a, b, xs', ys', rfl, rfl, q1.seq, q3.seq, by rw [sizeLine_eq]; omega, fresh_lst hv (q2.append q4) k⟩
    · cases e'
  · cases e'
theorem se_catL (ha : SE X e a) (hb : SE X f b) : SE X (.BinOp e .Add f pos) (xVV a b gCatL) :=
  PE.imp (pe_op op_catL ha hb) fun _ _ _ h => op_vh g_catL h

/-! ### x[::-1] -/
theorem applied_rev {prog : Program} {w : World} {A : Around} {E : Value → Shared → Prop} {s : Shared} {sl : Addr} {vl vu vs : Value} {n : Nat} {Q : Int × Int × Nat → Shared → Prop} (hs : s.heap.IsSliceOf sl vl vu vs) (pl : IsPart vl none) (pu : IsPart vu none) (ps : IsPart vs (some (-1)))
    (h : Q ((n : Int) - 1, -1, n) s) : wpAny (model prog w) A (Builtin.Slice.sliceApplied (.ref sl) (pure (n : Int))) Q E s := by
  obtain ⟨os, hos, hcs, hds⟩ := id hs
  unfold Builtin.Slice.sliceApplied Builtin.Slice.sliceFields
  refine wpAny_bind (wpAny_bind (wpAny_field hos hds (x := vl) rfl (wpAny_bind (wpAny_field hos hds (x := vu) rfl (wpAny_bind (wpAny_field hos hds (x := vs) rfl (wpAny_pure ?_)))))))
  refine wpAny_bind (HT.slicePart_ ps ?_)
  show wpAny _ _ (if ((-1 : Int) == 0) = true then _ else _) _ _ s
  rw [if_neg (by decide)]
  refine wpAny_bind (HT.slicePart_ pl (wpAny_bind (HT.slicePart_ pu (wpAny_bind (wpAny_pure ?_)))))
  have e1 : Builtin.Slice.sliceAdjust none none (-1) (n : Int) = ((n : Int) - 1, -1) := by
    unfold Builtin.Slice.sliceAdjust
    simp
  have e2 : Builtin.Slice.slicePlaces ((n : Int) - 1) (-1) (-1) = n := by
    unfold Builtin.Slice.slicePlaces
    simp only [show ¬ ((-1 : Int) > 0) by decide, if_false]
    by_cases h0 : (n : Int) - 1 > -1
    · rw [if_pos h0]
      have : ((n : Int) - 1 - -1 - 1) / (- -1) = (n : Int) - 1 := by
        rw [show (- -1 : Int) = 1 by decide, Int.ediv_one]
        omega
      rw [this]
      omega
    · rw [if_neg h0]
      omega
  show wpAny _ _ (match Builtin.Slice.sliceAdjust none none (-1) (n : Int) with | (lo, hi) => pure (lo, (-1 : Int), Builtin.Slice.slicePlaces lo hi (-1))) _ _ s
  rw [e1]
  show wpAny _ _ (pure ((n : Int) - 1, (-1 : Int), Builtin.Slice.slicePlaces ((n : Int) - 1) (-1) (-1))) _ _ s
  rw [e2]
  exact wpAny_pure h
theorem fm_congr {α β : Type} {f g : α → Option β} : ∀ {l : List α}, (∀ x ∈ l, f x = g x) → l.filterMap f = l.filterMap g
  | [], _ => rfl
  | x :: l, h => by
    rw [List.filterMap_cons, List.filterMap_cons, h x List.mem_cons_self, fm_congr fun y hy => h y (List.mem_cons_of_mem _ hy)]
theorem pick_rev (xs : Array Value) : ((List.range xs.size).filterMap fun (m : Nat) => xs[(((xs.size : Nat) : Int) - 1 + (m : Int) * (-1)).toNat]?).toArray = xs.toList.reverse.toArray := by
  congr 1
  have e : (List.range xs.size).filterMap (fun (m : Nat) => xs[(((xs.size : Nat) : Int) - 1 + (m : Int) * (-1)).toNat]?) = ((List.range xs.size).map fun k => xs.size - 1 - k).filterMap (xs[·]?) := by
    rw [List.filterMap_map]
    refine fm_congr fun m hm => ?_
    have := List.mem_range.mp hm
    show xs[_]? = xs[xs.size - 1 - m]?
    congr 1
    omega
  rw [e, PySem.W.krv_range, List.filterMap_reverse, PySem.W.krv_all]
theorem getItem_tuple_rev {prog : Program} {w : World} {A : Around} {E : Value → Shared → Prop} {s : Shared} {t sl : Addr} {items : Array Value} {vl vu vs : Value} {Q : Value → Shared → Prop} (ht : IsTup s.heap t items) (hs : s.heap.IsSliceOf sl vl vu vs) (pl : IsPart vl none) (pu : IsPart vu none) (ps : IsPart vs (some (-1)))
    (h : Q (.ref s.heap.objs.size) { s with heap := s.heap.push { cls := .type "tuple", data := .seq items.toList.reverse.toArray } }) (hsz : items.size ≤ sizeLine) : wpAny (model prog w) A (getItem (.ref t) (.ref sl)) Q E s := by
  have htake : sizeOk (.seq items.toList.reverse.toArray) := by
    show items.toList.reverse.toArray.size ≤ sizeLine
    rw [List.size_toArray, List.length_reverse, Array.length_toList]
    exact hsz
  obtain ⟨os, hos, hcs, hds⟩ := id hs
  have hTs : s.TypeIs (.ref sl) "slice" := ⟨os, hos, hcs⟩
  unfold getItem
  try with_reducible refine wpAny_holding ?_
  first | refine wpAny_bind (wpAny_pure ?_) | skip
  refine wpAny_bind (wpAny_sequenceKey ht.typeIs (by decide) ?_)
  refine wpAny_bind (wpAny_callSpecial?_slot (name := Str.ofString "__getitem__") ht.typeIs PyProof.Rows.slot_tuple_getitem
    (wpAny_call_entry PyProof.Rows.slot_tuple_getitem ht.typeIs entry_tuple_getitem ?_ (args_tuple_getitem _ _)))
  show wpAny _ _ (Builtin.Tuple.tupleItemsOf (.ref t) >>= _) _ _ s
  refine wpAny_bind (tupleItemsOf_ ht ?_)
  refine wpAny_bind (wpAny_typeOf hTs ?_)
  rw [if_pos (by decide)]
  refine wpAny_bind (applied_rev hs pl pu ps ?_)
  have hno : ¬ (((((items.size : Nat) : Int) - 1) == 0 && (-1 : Int) == 1 && items.size == items.size) = true) := by
    rw [show ((-1 : Int) == 1) = false by decide, Bool.and_false, Bool.false_and]
    exact Bool.false_ne_true
  show wpAny _ _ (if ((((items.size : Nat) : Int) - 1) == 0 && (-1 : Int) == 1 && items.size == items.size) = true then _ else _) _ _ s
  rw [if_neg hno, pick_rev]
  first
    | exact wpAny_bind (m := Builtin.Tuple.tupleExact _) (wpAny_newObj_type (wpAny_pure ⟨_, rfl, wpAny_pure h⟩) htake)
    | exact wpAny_bind (m := Builtin.Tuple.tupleExact _) (wpAny_newObj_type (wpAny_bind (wpAny_pure (wpAny_pure ⟨_, rfl, wpAny_pure h⟩))) htake)
    | exact wpAny_bind (wpAny_bind (m := Builtin.Tuple.tupleExact _) (wpAny_newObj_type (wpAny_pure (wpAny_pure ⟨_, rfl, wpAny_pure h⟩)) htake))
    | exact wpAny_bind (wpAny_bind (m := Builtin.Tuple.tupleExact _) (wpAny_newObj_type (wpAny_pure ⟨_, rfl, wpAny_pure h⟩) htake))
def tRevX (K : PySem.W.Frag) (te : TE) : TE := fun σ H Q => te σ H fun x H1 => ∃ a xs, x = .ref a ∧ ((SqL K H1 a xs ∧ ∀ p, H1 p = none → Q (.ref p) (upd H1 p (.lst xs.reverse))) ∨ (SqT K H1 a xs ∧ NewT xs.reverse H1 Q))
theorem pe_revX {te : TE} {k : Nat} (he : PE X e te) : PE X (.Subscript e (.Slice none none (some (.UnaryOp .USub (.Constant (.int 1) k p1) p2)) p3) pos) (tRevX X.K te) := by
  refine ⟨fun pins s σ H Q I h => ?_⟩
  refine Subscript_ (thn (he.run pins s σ H _ I h) fun v s1 ⟨x, H1, I1, r1, q1⟩ => ?_)
  obtain ⟨a, xs, ex, hx⟩ := q1
  subst ex
  cases r1
  have hst : PO X (some (.UnaryOp .USub (.Constant (.int 1) k p1) p2)) (tPart (tUn (rU fun i => .int (-i)) (tC (.int 1)))) := po_some (pe_un un_neg pe_int)
  refine wpAny_Slice (thn (po_none.run pins s1 σ H1 (fun o H2 => o = none ∧ H2 = H1) I1 ⟨rfl, rfl⟩) fun vl s2 ⟨l, H2, I2, pl, el, e2⟩ => ?_)
  subst el e2
  refine thn (po_none.run pins s2 σ H2 (fun o H3 => o = none ∧ H3 = H2) I2 ⟨rfl, rfl⟩) fun vu s3 ⟨u, H3, I3, pu, eu, e3⟩ => ?_
  subst eu e3
  refine thn (hst.run pins s3 σ H3 (fun o H4 => o = some (-1) ∧ H4 = H3) I3 ⟨1, rfl, -1, rfl, rfl, rfl⟩) fun vs s4 ⟨o, H4, I4, ps, eo, e4⟩ => ?_
  subst eo e4
  have I5 : Inv X pins σ H4 { s4 with heap := s4.heap.push { cls := .type "slice", data := .fields #[vl, vu, vs] } } := I4.kept (t' := s4.toks) fun b ob q => Heap.get?_push_of_some _ q
  show wpAny (model X.prog X.w) X.A (subscriptTail e (.Slice none none (some (.UnaryOp .USub (.Constant (.int 1) k p1) p2)) p3) (.ref a) (.ref s4.heap.objs.size)) (EP X pins σ Q) X.xe { s4 with heap := s4.heap.push { cls := .type "slice", data := .fields #[vl, vu, vs] } }
  rcases hx with ⟨hx, q⟩ | ⟨hx, q⟩
  · obtain ⟨its, r, ht, hz⟩ := I5.list hx
    have hlen := r.length
    refine tail_any (ops := [.ref a, .ref s4.heap.objs.size]) ht.isList.typeIs (PySem.slot_list_getitem.lookup) ?_ (by with_unfolding_all rfl)
    refine wpAny_getItem_list_slice ht.isList (Heap.IsSliceOf.new _ vl vu vs) pl pu ps (by decide) ?_ (by rw [List.size_toArray]; omega)
    rw [PySem.W.krv_pick]
    refine ⟨.ref _, _, I5.laid (t' := s4.toks) (o := .lst xs.reverse) (fun b ob q => Heap.get?_push_of_some _ q) (Nat.le_refl _) ?_, rfl, q _ (I5.hok.fresh (Nat.le_refl _))⟩
    exact ⟨by rw [List.length_reverse]; exact hz, _, 0, r.reverse, Heap.get?_push_size _ rfl⟩
  · obtain ⟨its, r, ht, hz⟩ := I5.tuple hx
    have hlen := r.length
    refine tail_any (ops := [.ref a, .ref s4.heap.objs.size]) ht.typeIs (PyProof.Rows.slot_tuple_getitem.lookup) ?_ (by with_unfolding_all rfl)
    refine getItem_tuple_rev ht (Heap.IsSliceOf.new _ vl vu vs) pl pu ps ?_ (by rw [List.size_toArray]; omega)
    have I6 := laid_tup (t' := s4.toks) (h' := (s4.heap.push { cls := .type "slice", data := .fields #[vl, vu, vs] }).push { cls := .type "tuple", data := .seq its.toArray.toList.reverse.toArray }) I5 (fun b u e => Heap.get?_push_of_some _ e) (Nat.le_refl _) r.reverse (by rw [List.length_reverse]; exact hz) (Heap.get?_push_size _ rfl)
    exact ⟨.ref _, _, I6, rfl, q _ _ (I5.hok.fresh (Nat.le_refl _)) rfl⟩
theorem se_rev {k : Nat} (ha : SE X e a) : SE X (.Subscript e (.Slice none none (some (.UnaryOp .USub (.Constant (.int 1) k p1) p2)) p3) pos) (xU a gRev) :=
  PE.imp (pe_revX ha) fun σ H Q ⟨ρ, σv, h, w, h', st, hv, eq, k⟩ => by
    unfold xU at eq
    split at eq
    · rename_i v h1 ea
      split at eq
      · rename_i w' eg
        cases eq
        refine e_one st hv ea fun ρ1 H1 x x1 st1 hv1 r1 => ?_
        unfold gRev at eg
        split at eg
        · rename_i xs
          cases eg
          obtain ⟨a, ys, rfl, q1, q2⟩ := r1.tup
          exact ⟨a, ys, rfl, .inr ⟨q1.seq, fresh_tup hv1 q2.reverse fun ρ2 H2 z x2 hv2 r2 => k ρ2 H2 z (x1.trans x2) hv2 r2⟩⟩
        · rename_i xs
          cases eg
          obtain ⟨a, ys, rfl, q1, q2⟩ := r1.lst
          exact ⟨a, ys, rfl, .inl ⟨q1.seq, fresh_lst hv1 q2.reverse fun ρ2 H2 z x2 hv2 r2 => k ρ2 H2 z (x1.trans x2) hv2 r2⟩⟩
        · cases eg
      · cases eq
    · cases eq

/-! ### list(range(a, b)) -/
theorem rngFrom_eq (lo : Int) : ∀ n : Nat, rngFrom lo n = (List.range n).map fun i => Va.int (lo + (i : Nat))
  | 0 => rfl
  | n + 1 => by
    rw [rngFrom, rngFrom_eq (lo + 1) n, List.range_succ_eq_map, List.map_cons, List.map_map]
    congr 1
    · simp
    · apply List.map_congr_left
      intro k _
      show Va.int _ = Va.int _
      congr 1
      show lo + 1 + (k : Int) = lo + ((k + 1 : Nat) : Int)
      omega
theorem rng_ok {i j : Int} {xs : List Va} (e : rng i j = some xs) : RgOk i j ∧ i.natAbs < 1000000 ∧ j.natAbs < 1000000 ∧ xs = (List.range (j - i).toNat).map fun k => Va.int (i + (k : Nat)) := by
  unfold rng at e
  split at e
  · rename_i h1 h2
    cases e
    rw [Nat.blt_eq] at h1 h2
    exact ⟨⟨by omega, by omega, by omega, by omega, by omega⟩, h1, h2, rngFrom_eq i _⟩
  · cases e
theorem ints_R {K : Kx} {ρ : Rh} {H : Hp} (f : Nat → Int) : ∀ ns : List Nat, RpL K ρ H (ns.map fun k => V.int (f k)) (ns.map fun k => Va.int (f k))
  | [] => .nil
  | n :: ns => .cons (.int _) (ints_R f ns)
/-- a range -/
theorem sr_1 (B : Bn X "range") (ha : SE X e a) (na : starEach [e] X.env = (false, eval e X.env) :: starEach [] X.env := by rfl) : PRg X (.Call (.Name "range" p) [e] [] pos) (tRg1 (eOf (kx X) a)) := prg_1 B.g B.m ha na
theorem se_lstRg0 (hc : X.calm = true) (B : Bn X "list") (B2 : Bn X "range") (ha : SE X e a) (na : starEach [e] X.env = (false, eval e X.env) :: starEach [] X.env := by rfl)
    (nb : starEach [.Call (.Name "range" p) [e] [] pos] X.env = (false, eval (.Call (.Name "range" p) [e] [] pos) X.env) :: starEach [] X.env := by rfl) : SE X (.Call (.Name "list" p1) [.Call (.Name "range" p) [e] [] pos] [] cpos) (xLstRg (xC (.int 0)) a) :=
  PE.imp (pe_listRg hc B.g B.m (sr_1 B2 ha na) nb) fun σ H Q ⟨ρ, σv, h, w, h', st, hv, eq, k⟩ => by
    unfold xLstRg xC at eq
    dsimp only at eq
    split at eq
    · rename_i j h2 ea
      split at eq
      · rename_i xs er
        cases eq
        refine e_one st hv ea fun ρ1 H1 x x1 st1 hv1 r1 => ⟨j, r1.int, ?_⟩
        obtain ⟨h1, _, _, rfl⟩ := rng_ok er
        exact ⟨h1, fresh_lst hv1 (ints_R _ _) fun ρ2 H2 z x2 hv2 r2 => k ρ2 H2 z (x1.trans x2) hv2 r2⟩
      · cases eq
    · cases eq

/-! ### t.index(i) -/
def rIdx (K : PySem.W.Frag) (a : Addr) (ys : List V) : List V → Hp → VK → Prop := fun vs H Q => ∃ (i : Int) (j : Nat) (z : V), vs = [.int i] ∧ SqN K H a ys ∧ ys.all flatV = true ∧ ys[j]? = some z ∧ eqV z (.int i) = true ∧
  (∀ m z, m < j → ys[m]? = some z → eqV z (.int i) = false) ∧ Q (.int (j : Nat)) H
def tIdx (K : PySem.W.Frag) (ta tb : TE) : TE := fun σ H Q => ta σ H fun x H1 => ∃ (a : Addr) (ys : List V), x = .ref a ∧ SqN K H1 a ys ∧ tb σ H1 fun y H2 => rIdx K a ys [y] H2 Q
theorem pe_idx {ta tb : TE} (ha : PE X e ta) (hb : PE X f tb)
    (hbase : attributeBase e "index" X.env (eval e X.env) = eval e X.env := by rfl)
    (hfew : ((backTo cpos (starEach [f] X.env)).all (fun x => !x.1) && (backToKw cpos (keywordEach [] X.env)).all (fun x => x.1.isSome)
      && decide (([f] : List Expr).length + ([] : List Keyword).length + (if ([] : List Keyword).isEmpty then 0 else 1) < 30)) = true := by rfl)
    (hline : (apos.endLine == cpos.line) = true := by rfl) (hs : starEach [f] X.env = (false, eval f X.env) :: starEach [] X.env := by rfl) :
    PE X (.Call (.Attribute e "index" apos) [f] [] cpos) (tIdx X.K ta tb) := by
  refine ⟨fun pins s σ H Q I h => ?_⟩
  refine wpAny_Call_method_late hbase hfew hline rfl (thn (ha.run pins s σ H _ I h) fun v s1 ⟨x, H1, I1, r1, a, ys, ex, q0, q1⟩ => ?_)
  subst ex
  cases r1
  refine ⟨"tuple", "tuple.index", PySem.F.plainAttrs_tuple, PySem.F.slot_tuple_index, PySem.F.type_tuple_index, ?_, fun b eb => ?_, ?_⟩
  · obtain ⟨its, _, ht, _⟩ := I1.tuple q0.seq
    exact ht.typeIs
  · cases eb
    rcases q0 with ⟨o, hd, e0⟩ | ⟨o, its, n, e0, _, hd, _⟩
    · obtain ⟨e1, _⟩ := (show ObjOk X.prog X.w H1 s1.heap a (.frz o (.tup ys)) from I1.hok a _ e0)
      exact ⟨o, e1, hd⟩
    · exact ⟨o, I1.kIn a o e0, hd⟩
  · have hA := (pa_cons hb pa_nil hs).run cpos pins s1 σ H1 (fun vs H2 => rIdx X.K a ys vs H2 Q) I1 q1
    rw [hs] at hA ⊢
    refine Calls.callWith_builtin rfl (Calls.evalArgs_plain ?_)
    refine thn hA fun us s2 ⟨vs, H2, I2, r2, i, j, z, ev, q3, q4, q5, q6, q7, q8⟩ => ?_
    subst ev
    obtain ⟨u, eu, t, et⟩ := L2.vals1 r2
    subst eu et
    obtain ⟨its, r, pl, hz⟩ := I2.tuple q3.seq
    obtain ⟨⟨cls, dd, dt, sl⟩, ho, hc, n, hd⟩ := pl
    simp only at hc hd
    subst hc
    subst hd
    have hlen := r.length
    have at' : ∀ (m : Nat) (hm : m < its.toArray.size), ∃ y, ys[m]? = some y ∧ eqU (.int i) its.toArray[m] = eqV y (.int i) := fun m hm => by
      have hm2 : m < its.length := by simpa using hm
      have hm' : m < ys.length := by omega
      obtain ⟨w, hw, rw'⟩ := r.get (i := m) (x := ys[m]) (by simp [hm'])
      refine ⟨ys[m], List.getElem?_eq_getElem hm', ?_⟩
      have e := (List.getElem?_eq_some_iff.mp hw).2
      have hf : flatV ys[m] = true := List.all_eq_true.mp q4 _ (List.getElem_mem hm')
      rw [← eqU_of rw' hf, ← e]
      simp
    have hj : j < its.toArray.size := by
      rw [List.size_toArray, ← hlen]
      exact (List.getElem?_eq_some_iff.mp q5).1
    refine call_meets PySem.F.slot_tuple_index ⟨_, ho, rfl⟩ PySem.F.entry_tuple_index (PySem.F.args_tuple_index_2 _ _) (TI.tuple_indexAt a its.toArray n dd sl (.int i t) (eqU (.int i)) j hj ?_ ?_)
      ⟨ho, fun w hw => mem_eqAt (x := .int i) ⟨t, rfl⟩ rfl r q4 w (by simpa using hw), ⟨.int (j : Nat), H2, I2.tok _, ⟨_, rfl⟩, q8⟩⟩
    · obtain ⟨y, h1, h2⟩ := at' j hj
      rw [q5] at h1
      cases h1
      rw [h2]
      exact q6
    · intro m hm hmj
      obtain ⟨y, h1, h2⟩ := at' m hm
      rw [h2]
      exact q7 m y hmj h1
theorem dles_flat {K : Kx} {ρ : Rh} {H : Hp} : ∀ {ys : List V} {xs : List Va}, RpL K ρ H ys xs → dles 0 xs = true → ys.all flatV = true
  | _, _, .nil, _ => rfl
  | _, x :: xs, .cons r t, h => by
    unfold dles at h
    cases q : dle 0 x with
    | false => rw [q] at h; cases h
    | true =>
      rw [q] at h
      rw [List.all_cons, Bool.and_eq_true]
      refine ⟨?_, dles_flat t h⟩
      cases r with
      | tup _ _ => simp [dle] at q
      | lst _ _ => simp [dle] at q
      | _ => rfl
theorem flat_eq {K : Kx} {ρ : Rh} {H : Hp} {y : V} {x : Va} {i : Int} (r : Rp K ρ H y x) (h : flatV y = true) : eqV y (.int i) = veq x (.int i) := by
  cases r with
  | int j => show (j == i) = ieq j i; rw [ieq_beq]
  | bl b =>
    cases b with
    | true => show ((1 : Int) == i) = ieq 1 i; rw [ieq_beq]
    | false => show ((0 : Int) == i) = ieq 0 i; rw [ieq_beq]
  | non => simp [eqV, veq]
  | str s => simp [eqV, veq]
  | tup _ _ => cases h
  | lst _ _ => cases h
theorem idxOf_ok {K : Kx} {ρ : Rh} {H : Hp} {i : Int} : ∀ {ys : List V} {xs : List Va} {k n : Nat}, RpL K ρ H ys xs → ys.all flatV = true → idxOf (.int i) xs k = some n → ∃ j z, n = k + j ∧ ys[j]? = some z ∧ eqV z (.int i) = true ∧ ∀ m z, m < j → ys[m]? = some z → eqV z (.int i) = false
  | _, _, _, _, .nil, _, e => by cases e
  | y :: ys, x :: xs, k, n, .cons r t, f, e => by
    rw [List.all_cons, Bool.and_eq_true] at f
    have hq := flat_eq (i := i) r f.1
    unfold idxOf at e
    split at e
    · rename_i q
      cases e
      exact ⟨0, y, rfl, rfl, by rw [hq, q], fun m z hm _ => absurd hm (Nat.not_lt_zero m)⟩
    · rename_i q
      obtain ⟨j, z, h1, h2, h3, h4⟩ := idxOf_ok t f.2 e
      refine ⟨j + 1, z, by omega, by simpa using h2, h3, fun m z' hm e' => ?_⟩
      cases m with
      | zero =>
        cases e'
        rw [hq, q]
      | succ m => exact h4 m z' (by omega) (by simpa using e')
theorem se_idx (ha : SE X e a) (hb : SE X f b)
    (hbase : attributeBase e "index" X.env (eval e X.env) = eval e X.env := by rfl)
    (hfew : ((backTo cpos (starEach [f] X.env)).all (fun x => !x.1) && (backToKw cpos (keywordEach [] X.env)).all (fun x => x.1.isSome)
      && decide (([f] : List Expr).length + ([] : List Keyword).length + (if ([] : List Keyword).isEmpty then 0 else 1) < 30)) = true := by rfl)
    (hline : (apos.endLine == cpos.line) = true := by rfl) (hs : starEach [f] X.env = (false, eval f X.env) :: starEach [] X.env := by rfl) :
    SE X (.Call (.Attribute e "index" apos) [f] [] cpos) (xVV a b gIndex) :=
  PE.imp (pe_idx ha hb hbase hfew hline hs) fun σ H Q ⟨ρ, σv, h, w, h', st, hv, eq, k⟩ => by
    unfold xVV at eq
    split at eq
    · rename_i v h1 ea
      split at eq
      · rename_i u h2 eb
        split at eq
        · rename_i w' eg
          cases eq
          unfold gIndex at eg
          split at eg
          · rename_i xs i
            split at eg
            · rename_i hd
              split at eg
              · rename_i n hn
                cases eg
                refine e_one st hv ea fun ρ1 H1 x x1 st1 hv1 r1 => ?_
                obtain ⟨a, ys, rfl, q1, q2⟩ := r1.tup
                refine ⟨a, ys, rfl, q1, e_one st1 hv1 eb fun ρ2 H2 y x2 st2 hv2 r2 => ?_⟩
                have hf := dles_flat q2 hd
                obtain ⟨j, z, h1, h2, h3, h4⟩ := idxOf_ok q2 hf hn
                rw [Nat.zero_add] at h1
                subst h1
                exact ⟨i, n, z, by rw [r2.int], x2.sqN q1, hf, h2, h3, h4, k ρ2 H2 _ (x1.trans x2) hv2 (.inl (.int _))⟩
              · cases eg
            · cases eg
          · cases eg
        · cases eq
      · cases eq
    · cases eq

/-! ### sorted -/
def rSortV (K : Kx) : List V → Hp → VK → Prop := fun vs H Q => ∃ (ρ : Rh) (a : Addr) (ys : List V) (z : Va) (zs xs : List Va), vs = [V.ref a] ∧ SqL K.k H a ys ∧ RpL K ρ H ys (.tup (z :: zs) :: xs) ∧
  shpAll (.tup (z :: zs)) (.tup (z :: zs) :: xs) = true ∧ dles 7 (.tup (z :: zs) :: xs) = true ∧ ascV (sortV (.tup (z :: zs) :: xs)) = true ∧ ∀ ys', RpL K ρ H ys' (sortV (.tup (z :: zs) :: xs)) → ∀ p, H p = none → Q (.ref p) (upd H p (.lst ys'))
theorem each_zip {K : Kx} {ρ : Rh} {H : Hp} : ∀ {ys : List V} {xs : List Va} {us : List Value}, RpL K ρ H ys xs → Vals ys us → PySem.W.EachIs (fun (v : Value) (b : V × Va) => RelV b.1 v ∧ Rp K ρ H b.1 b.2) us (ys.zip xs)
  | _, _, _, .nil, .nil => .nil
  | _, _, _, .cons h t, .cons r rs => .cons ⟨r, h⟩ (each_zip t rs)
theorem unzip_each {K : Kx} {ρ : Rh} {H : Hp} : ∀ {us : List Value} {bs : List (V × Va)}, PySem.W.EachIs (fun (v : Value) (b : V × Va) => RelV b.1 v ∧ Rp K ρ H b.1 b.2) us bs → Vals (bs.map (·.1)) us ∧ RpL K ρ H (bs.map (·.1)) (bs.map (·.2))
  | _, _, .nil => ⟨.nil, .nil⟩
  | _, _, .cons h t => ⟨.cons h.1 (unzip_each t).1, .cons h.2 (unzip_each t).2⟩
theorem mem_dle {n : Nat} : ∀ {xs : List Va}, dles n xs = true → ∀ x ∈ xs, dle n x = true
  | x :: xs, h, y, hy => by
    unfold dles at h
    cases q : dle n x with
    | false => rw [q] at h; cases h
    | true =>
      rw [q] at h
      rcases List.mem_cons.mp hy with e | e
      · rw [e]; exact q
      · exact mem_dle h y e
theorem cr_sortV (hu : X.A.units + 64 < cLine) : CallR X (.builtin "sorted") (rSortV (kx X)) := by
  intro pins s σ H vs us Q I r h
  obtain ⟨ρ, a, ys, z, zs, xs, rfl, hq, rl, hs, hd, hasc, q⟩ := h
  rw [Vals.ref1 r]
  obtain ⟨its, rv, hl, hz⟩ := I.list hq
  have hlen := rl.length
  have e0 := each_zip rl rv
  have hsnd : (ys.zip (.tup (z :: zs) :: xs)).map (·.2) = .tup (z :: zs) :: xs := List.map_snd_zip (Nat.le_of_eq hlen.symm)
  have hmem : ∀ b ∈ ys.zip (.tup (z :: zs) :: xs), b.2 ∈ (.tup (z :: zs) :: xs : List Va) := fun b hb => by
    have := List.mem_map_of_mem (f := (·.2)) hb
    rw [hsnd] at this
    exact this
  have hmap : (ys.zip (.tup (z :: zs) :: xs)).map (fun b : V × Va => toD b.2) = toDs (.tup (z :: zs) :: xs) := by
    rw [toDs_map, ← hsnd, List.map_map, hsnd]
    rfl
  refine PySem.W.sorted_data (β := V × Va) (enc := fun b => toD b.2) (R := fun v b => RelV b.1 v ∧ Rp (kx X) ρ H b.1 b.2) hl.isList e0 (e0.mono fun v b hb => Dp.reads I _ _ _ hb.2.dp hb.1) ?_ ?_ (by rw [← e0.length, ← rv.length]; exact hz) (fun b hb => ?_) fun out hout he => ?_
  · rw [hmap]
    have := alikeAll_of hs
    exact this.1
  · rw [hmap, toDs_map]
    refine .inl fun d hd' => ?_
    obtain ⟨x, hx, rfl⟩ := List.mem_map.mp hd'
    have h1 := shpAll_mem hs x hx
    cases x with
    | tup ws => cases ws with
      | nil => simp [shp, shps] at h1
      | cons w ws => exact ⟨toD w, toDs ws, by simp [toD, toDs]⟩
    | _ => simp [shp] at h1
  · have h1 := (plain_toD 7 b.2 (mem_dle hd _ (hmem b hb))).2
    show X.A.units + 2 + (toD b.2).depth < cLine
    omega
  · have hm : ((ys.zip (.tup (z :: zs) :: xs)).mergeSort (PySem.W.dataLe false fun b : V × Va => toD b.2)).map (·.2) = sortV (.tup (z :: zs) :: xs) := by
      refine (PySem.W.sort_maps (r := PySem.W.dataLe false fun b : V × Va => toD b.2) (s := PySem.W.dataLe false toD) (fun b : V × Va => b.2) (fun _ _ _ _ => rfl)).trans ?_
      rw [hsnd]
      exact sortV_merge hs hasc
    obtain ⟨h1, h2⟩ := unzip_each he
    rw [hm] at h2
    obtain ⟨c, hc⟩ := PyProof.Rows.sortedAll_at s.heap its (List.toArray out)
    refine ⟨.ref _, _, I.laid (t' := s.toks) (a := s.heap.objs.size + 1) (o := .lst (((ys.zip (.tup (z :: zs) :: xs)).mergeSort (PySem.W.dataLe false fun b : V × Va => toD b.2)).map (·.1))) (fun b u e => PyProof.Rows.sortedAll_old e) (Nat.le_succ _) ?_, rfl, q _ h2 _ (I.hok.fresh (Nat.le_succ _))⟩
    refine ⟨?_, out, c, h1, hc⟩
    rw [h1.length, hout, ← e0.length, ← rv.length]
    exact hz
theorem g_sorted {K : Kx} : G1 K (fun x => rSortV K [x]) gSorted := by
  intro ρ H h x v w Q hv rx e k
  unfold gSorted at e
  split at e
  · rename_i z zs xs e1
    split at e
    · rename_i e2 e3 e4
      split at e
      · rename_i e5
        cases e
        obtain ⟨a, ys, rfl, q1, q2⟩ := list_ok hv rx e1
        exact ⟨ρ, a, ys, z, zs, xs, rfl, q1, q2, e2, e3, e5, fun ys' r' => fresh_lst hv r' k⟩
      · cases e
    · cases e
  · cases e
theorem se_sorted (hu : X.A.units + 64 < cLine) (B : Bn X "sorted") (ha : SE X e a) (he : starEach [e] X.env = (false, eval e X.env) :: starEach [] X.env := by rfl) : SE X (.Call (.Name "sorted" p) [e] [] pos) (xU a gSorted) :=
  PE.imp (pe_callB (cr_sortV hu) B.g B.m PyProof.Rows.boot_sorted (pa_cons ha pa_nil he) (he := he)) fun _ _ _ h => op_a g_sorted h
end
end Ev
end
section
set_option Elab.async false
set_option linter.all false
set_option maxRecDepth 100000
/-! EvDict: dicts whose keys are intsV (HandS's own) or tuples of intsV (an object of one's own). -/
namespace Ev
open PySem PySem.Spec PyProof.Rows L2

/-! ### tuple keys -/
def lookT (k : List Int) (kys : KyT) : Option V := (kys.find? fun x => decide (x.1 = k)).map (·.2.2)
def hasT (k : List Int) (kys : KyT) : Bool := kys.any fun x => decide (x.1 = k)
def storeT (k : List Int) (b : Addr) (v : V) (kys : KyT) : KyT := if hasT k kys then kys.map (fun x => if x.1 = k then (x.1, x.2.1, v) else x) else kys ++ [(k, b, v)]
def AllK (K : PySem.W.Frag) (H : Hp) (kys : KyT) : Prop := ∀ e ∈ kys, SqN K H e.2.1 (e.1.map V.int)
theorem inl_inj {a b : List Int} : (a.map Sum.inl : List Key) = b.map Sum.inl ↔ a = b :=
  ⟨fun h => (List.map_inj_right (fun x y (e : (Sum.inl x : Key) = Sum.inl y) => Sum.inl.inj e)).mp h, fun h => by rw [h]⟩
theorem KyR.val {kys : KyT} {xs : List (List Key × Addr × Value)} (r : KyR kys xs) (k : List Int) : RelO (lookT k kys) ((atKey xs (k.map Sum.inl)).map (·.2)) := by
  unfold KyR at r
  induction r with
  | nil => exact True.intro
  | @cons p q ps qs h t ih =>
    obtain ⟨h1, _, h2⟩ := h
    by_cases e : p.1 = k
    · have e' : q.1 = k.map Sum.inl := by rw [← h1, e]
      have b : atKey (q :: qs) (k.map Sum.inl) = some q.2 := by simp [atKey, List.find?_cons, e']
      have b2 : lookT k (p :: ps) = some p.2.2 := by simp [lookT, List.find?_cons, e]
      rw [b, b2]
      exact h2
    · have e' : ¬ q.1 = k.map Sum.inl := fun z => e (inl_inj.mp (h1.trans z))
      have b : atKey (q :: qs) (k.map Sum.inl) = atKey qs (k.map Sum.inl) := by simp [atKey, List.find?_cons, e']
      have b2 : lookT k (p :: ps) = lookT k ps := by simp [lookT, List.find?_cons, e]
      rw [b, b2]
      exact ih
theorem look_has (k : List Int) : ∀ kys : KyT, hasT k kys = (lookT k kys).isSome
  | [] => rfl
  | p :: ps => by
    unfold hasT lookT
    by_cases e : p.1 = k
    · simp [List.find?_cons, e]
    · have := look_has k ps
      unfold hasT lookT at this
      simp [List.find?_cons, e, this]
theorem KyR.has {kys : KyT} {xs : List (List Key × Addr × Value)} (r : KyR kys xs) (k : List Int) : hasT k kys = (atKey xs (k.map Sum.inl)).isSome := by
  rw [look_has, (r.val k).isSome_eq, Option.isSome_map]
theorem KyR.put {kys : KyT} {xs : List (List Key × Addr × Value)} (r : KyR kys xs) (k : List Int) {b : Addr} {y : V} {u : Value} (ry : RelV y u) : KyR (storeT k b y kys) (storedH xs (k.map Sum.inl) b u) := by
  unfold storeT storedH
  rw [r.has k]
  by_cases q : (atKey xs (k.map Sum.inl)).isSome = true
  · rw [if_pos q, if_pos q]
    clear q
    unfold KyR at r ⊢
    induction r with
    | nil => exact .nil
    | @cons p q ps qs h t ih =>
      rw [List.map_cons, List.map_cons]
      refine .cons ?_ ih
      obtain ⟨h1, h2, h3⟩ := h
      unfold putAt
      by_cases e : p.1 = k
      · have e' : q.1 = k.map Sum.inl := by rw [← h1, e]
        rw [if_pos e, if_pos e']
        exact ⟨h1, h2, ry⟩
      · have e' : ¬ q.1 = k.map Sum.inl := fun z => e (inl_inj.mp (h1.trans z))
        rw [if_neg e, if_neg e']
        exact ⟨h1, h2, h3⟩
  · rw [if_neg q, if_neg q]
    exact Paired.snoc r ⟨rfl, rfl, ry⟩
theorem storeT_len (k : List Int) (b : Addr) (v : V) (kys : KyT) : (storeT k b v kys).length ≤ kys.length + 1 := by
  unfold storeT
  split
  · rw [List.length_map]; omega
  · rw [List.length_append, List.length_cons, List.length_nil]; omega

section
variable {X : Cx} {pins : List (Addr × Obj)} {σ : L2.St} {H : Hp} {s : Shared} {a b : Addr} {kys : KyT} {k : List Int}
theorem dt_obj (I : Inv X pins σ H s) (h : H a = some (dtO X.prog X.w a kys)) : DtH X.prog X.w a kys s.heap := (I.hok a _ h).1
theorem dt_stay {P : Program} {w : World} {h1 h2 : Heap} (x : DtH P w a kys h1) (e : ∀ o, h1.get? a = some o → h2.get? a = some o) : DtH P w a kys h2 := by
  obtain ⟨z, hd, xs, r, o, es, ep, h1, r2⟩ := x
  exact ⟨z, hd, xs, r, o, es, ep, e o h1, r2⟩
theorem dt_okO {P : Program} {w : World} {H' : Hp} {h' : Heap} (x : DtH P w a kys h') : ObjOk P w H' h' a (dtO P w a kys) := by
  obtain ⟨z, hd, xs, r, o, es, ep, h1, r2⟩ := id x
  exact ⟨x, ⟨o, h1⟩, fun _ _ q e => dt_stay q e⟩
theorem key_N (I : Inv X pins σ H s) (q : SqN X.K H b (k.map V.int)) : (tupleKind (mixKind X.prog X.w)).is s.heap (k.map Sum.inl) b := by
  obtain ⟨its, r, ⟨o, h1, h2, n, h3⟩, _⟩ := I.tuple q.seq
  have e : (k.map Sum.inl : List Key).map kV = k.map V.int := by
    rw [List.map_map]
    rfl
  have r' : Vals ((k.map Sum.inl : List Key).map kV) its := by
    rw [e]
    exact r
  exact ⟨o, its.toArray, n, h1, h2, h3, by simpa using items_are r'⟩
theorem keys_N (I : Inv X pins σ H s) : ∀ {kys : KyT} {xs : List (List Key × Addr × Value)}, KyR kys xs → AllK X.K H kys → ∀ x ∈ xs, (tupleKind (mixKind X.prog X.w)).is s.heap x.1 x.2.1
  | _, _, .nil, _, x, hx => by cases hx
  | p :: ps, q :: qs, .cons hq t, hk, x, hx => by
    rcases List.mem_cons.mp hx with e | hx
    · subst e
      rw [← hq.1, ← hq.2.1]
      exact key_N I (hk p List.mem_cons_self)
    · exact keys_N I t (fun e he => hk e (List.mem_cons_of_mem _ he)) x hx
theorem dt_of (I : Inv X pins σ H s) (h : H a = some (dtO X.prog X.w a kys)) (hk : AllK X.K H kys) : kys.length ≤ sizeLine ∧ (a == sysModules) = false ∧ ∃ xs, KyR kys xs ∧ s.heap.DictOfH (tupleKind (mixKind X.prog X.w)) a xs := by
  obtain ⟨z, hd, xs, r, o, es, ep, h1, h2, h3, h4, h5⟩ := dt_obj I h
  exact ⟨z, hd, xs, r, o, es, ep, h1, h2, h3, h4, keys_N I r hk, h5⟩

/-! ### the rules -/
/-- d[y] -/
def rDg (K : Kx) : R2 := fun x y H Q => (∃ a v, x = .ref a ∧ DGet H a y (some v) ∧ Q v H) ∨
  ∃ a kys k b v, x = .ref a ∧ y = .ref b ∧ H a = some (dtO K.P K.w a kys) ∧ AllK K.k H kys ∧ SqN K.k H b (k.map V.int) ∧ lookT k kys = some v ∧ Q v H
theorem ix_dict (hu : X.A.units + 64 < cLine) : IxR X (rDg (kx X)) := by
  intro value slice pins s σ H x y v u Q I rx ry h hs
  rcases h with ⟨a, z, rfl, g, q⟩ | ⟨a, kys, k, b, z, rfl, rfl, e, hk, eb, l, q⟩
  · cases rx
    exact tail_any (dict_typeIs I g) PySem.F.slot_dict_getitem.lookup (d_getItem (by omega) I g ry fun w' s3 I3 rw' => ⟨z, H, I3, rw', q⟩) hs
  · cases rx
    cases ry
    obtain ⟨_, hd, xs, rel, dd⟩ := dt_of I e hk
    obtain ⟨w', hw, rw'⟩ := RelO.some_of (v := z) (o := (atKey xs (k.map Sum.inl)).map (·.2)) (by rw [← l]; exact rel.val k)
    obtain ⟨p, hp, hp2⟩ := Option.map_eq_some_iff.mp hw
    refine tail_any dd.typeIs PySem.F.slot_dict_getitem.lookup (wpAny_getItem_heap (tupleKind_room_in1 (by omega)) (key_N I eb) dd hp ?_) hs
    rw [hp2]
    exact ⟨z, H, I.tok _, rw', q⟩
/-- y in d, y not in d -/
def rDi (K : Kx) (f : Bool → Bool) : R2 := fun y x H Q => (∃ a o, x = .ref a ∧ DGet H a y o ∧ Q (.bl (f o.isSome)) H) ∨
  ∃ a kys k b, x = .ref a ∧ y = .ref b ∧ H a = some (dtO K.P K.w a kys) ∧ AllK K.k H kys ∧ SqN K.k H b (k.map V.int) ∧ Q (.bl (f (lookT k kys).isSome)) H
theorem op_din (hu : X.A.units + 64 < cLine) : OpR X (compareOp .In) (rDi (kx X) id) := by
  intro pins s σ H y x u v Q I ry rx h
  rcases h with ⟨a, o, rfl, g, q⟩ | ⟨a, kys, k, b, rfl, rfl, e, hk, eb, q⟩
  · cases rx
    exact d_in (by omega) I g ry fun s3 I3 => ⟨.bl o.isSome, H, I3, rfl, q⟩
  · cases rx
    cases ry
    obtain ⟨_, hd, xs, rel, dd⟩ := dt_of I e hk
    refine wpAny_in_heap (tupleKind_room_in1 (by omega)) (key_N I eb) hd dd ?_
    rw [← rel.has k, look_has]
    exact ⟨.bl _, H, I.tok _, rfl, q⟩
theorem op_dnin (hu : X.A.units + 64 < cLine) : OpR X (compareOp .NotIn) (rDi (kx X) (!·)) := by
  intro pins s σ H y x u v Q I ry rx h
  rcases h with ⟨a, o, rfl, g, q⟩ | ⟨a, kys, k, b, rfl, rfl, e, hk, eb, q⟩
  · cases rx
    exact d_notIn (by omega) I g ry fun s3 I3 => ⟨.bl (!o.isSome), H, I3, rfl, q⟩
  · cases rx
    cases ry
    obtain ⟨_, hd, xs, rel, dd⟩ := dt_of I e hk
    refine wpAny_notIn_heap (tupleKind_room_in1 (by omega)) (key_N I eb) hd dd ?_
    rw [← rel.has k, look_has]
    exact ⟨.bl _, H, I.tok _, rfl, q⟩
/-- d[y] = v -/
def rDp (K : Kx) : V → V → V → Hp → (Hp → Prop) → Prop := fun x y v H Q => (∃ a H', x = .ref a ∧ DPut H a y v H' ∧ Q H') ∨
  ∃ a kys k b, x = .ref a ∧ y = .ref b ∧ H a = some (dtO K.P K.w a kys) ∧ AllK K.k H kys ∧ SqN K.k H b (k.map V.int) ∧ kys.length < sizeLine ∧ Q (upd H a (dtO K.P K.w a (storeT k b v kys)))
theorem set_dict (hu : X.A.units + 64 < cLine) : PSet X (rDp (kx X)) := by
  intro pins s σ H o i v ov iv u Q I ro ri rv h
  rcases h with ⟨a, H', rfl, g, q⟩ | ⟨a, kys, k, b, rfl, rfl, e, hk, eb, l, q⟩
  · cases ro
    exact d_setItem (by omega) I g ri rv fun s4 I4 => ⟨H', I4, q⟩
  · cases ro
    cases ri
    obtain ⟨z, hd, xs, rel, dd⟩ := dt_of I e hk
    have hz : xs.length ≤ sizeLine := by rw [← Paired.length rel]; exact z
    have hl : (storeT k b v kys).length ≤ sizeLine := by have := storeT_len k b v kys; omega
    refine wpAny_setItem_heap (hsz := hz) (tupleKind_room_in1 (by omega)) (key_N I eb) dd fun h' dd' hs => ⟨_, ?_, q⟩
    obtain ⟨q, es, ep, hq, h2, h3, h4, _, h5⟩ := dd'
    exact d_write I (by rw [e]; exact True.intro) hs ⟨q, hq⟩ (dt_okO ⟨hl, hd, _, rel.put k rv, q, es, ep, hq, h2, h3, h4, h5⟩)
/-- {}, its keys to be tuples -/
def tDNewX (K : Kx) : TE := fun _ H Q => ∀ p, H p = none → Q (.ref p) (upd H p (dtO K.P K.w p []))
theorem pe_dnewX {pos : Pos} : PE X (.Dict [] [] pos) (tDNewX (kx X)) := ⟨fun pins s σ H Q I h =>
  wpAny_Dict_empty ⟨.ref s.heap.objs.size, _, I.laid (a := s.heap.objs.size) (o := dtO X.prog X.w s.heap.objs.size []) (t' := s.toks) (fun _ _ q => Heap.get?_push_of_some _ q) (Nat.le_refl _)
    (dt_okO ⟨Nat.zero_le _, beq_eq_false_iff_ne.mpr (Ne.symm (Nat.ne_of_lt I.big)), [], .nil, _, #[], 0, Heap.get?_push_size _ rfl, ⟨rfl, rfl, rfl⟩, rfl, rfl, List.nodup_nil⟩), rfl, h _ (I.hok.fresh (Nat.le_refl _))⟩⟩
/-- d.get(y, z) -/
def tDG2 (K : Kx) (td ty tx : TE) : TE := fun σ H Q => td σ H fun x H1 => ∃ a kys, x = .ref a ∧ H1 a = some (dtO K.P K.w a kys) ∧ ty σ H1 fun y H2 => tx σ H2 fun z H3 =>
  ∃ kys k b, y = .ref b ∧ H3 a = some (dtO K.P K.w a kys) ∧ AllK K.k H3 kys ∧ SqN K.k H3 b (k.map V.int) ∧ Q ((lookT k kys).getD z) H3
theorem pe_dg2 {o e f : Expr} {apos cpos : Pos} {td ty tx : TE} (hu : X.A.units + 64 < cLine) (ho : PE X o td) (he : PE X e ty) (hf : PE X f tx) (m : M2 X o "get" apos e f cpos) : PE X (.Call (.Attribute o "get" apos) [e, f] [] cpos) (tDG2 (kx X) td ty tx) := by
  refine ⟨fun pins s σ H Q I h => ?_⟩
  refine wpAny_Call_method m.base m.few m.line PySem.F.plainAttrs_dict PySem.F.slot_dict_get PySem.F.type_dict_get (thn (ho.run pins s σ H _ I h) fun u s1 ⟨x, H1, I1, rx, a, kys, ex, d, q1⟩ => ?_)
  subst ex
  obtain rfl : u = Value.ref a := rx
  obtain ⟨_, _, xs, _, ob, es, ep, h1, h2, _⟩ := dt_obj I1 d
  refine ⟨⟨ob, h1, h2.1⟩, fun b q => ?_, ?_⟩
  · cases q
    exact ⟨ob, h1, h2.2.1⟩
  · rw [m.trees]
    refine Calls.callWith_builtin rfl (Calls.evalArgs_plain (Calls.spliced_cons (thn (he.run pins s1 σ H1 _ I1 q1) fun iv s2 ⟨y, H2, I2, ry, q2⟩ =>
      Calls.spliced_cons (thn (hf.run pins s2 σ H2 _ I2 q2) fun fv s3 ⟨z, H3, I3, rz, kys', k, b, ey, e, hk, eb, q3⟩ => Calls.spliced_nil ?_))))
    subst ey
    cases ry
    obtain ⟨_, hd, xs, rel, dd⟩ := dt_of I3 e hk
    exact call_meetsIn PySem.F.slot_dict_get dd.typeIs PySem.F.entry_dict_get (PySem.F.args_dict_get_3 _ _ _) (meetsH_dict_get_default (tupleKind (mixKind X.prog X.w)) a b hd fv) ⟨tupleKind_room_in1 (by omega), k.map Sum.inl, xs, key_N I3 eb, dd, ⟨_, H3, I3.tok _, (rel.val k).getD rz, q3⟩⟩
end

/-! ### by cells -/
section
variable {K : Kx} {ρ : Rh} {H : Hp} {h : Hv}
theorem ints_ok {ρ : Rh} : ∀ {ys : List V} {xs : List Va} {is : List Int}, RpL K ρ H ys xs → intsV xs = some is → ys = is.map V.int ∧ xs = is.map Va.int
  | _, _, _, .nil, e => by cases e; exact ⟨rfl, rfl⟩
  | _, x :: xs, is, .cons r t, e => by
    cases x with
    | int i =>
      unfold intsV at e
      split at e
      · rename_i js q
        cases e
        obtain ⟨h1, h2⟩ := ints_ok t q
        cases r
        exact ⟨by rw [h1]; rfl, by rw [h2]; rfl⟩
      · cases e
    | _ => cases e
theorem ieqs_eq : ∀ a b : List Int, ieqs a b = decide (a = b)
  | [], [] => rfl
  | [], _ :: _ => rfl
  | _ :: _, [] => rfl
  | i :: is, j :: js => by
    unfold ieqs
    rw [ieq_eq, ieqs_eq is js]
    by_cases e : i = j
    · rw [decide_eq_true e]
      simp [e]
    · rw [decide_eq_false e]
      simp [e]
theorem RpY.all : ∀ {ys : KyT} {xs : List (List Int × Va)}, RpY K ρ H ys xs → AllK K.k H ys
  | _, _, .nil => fun e he => by cases he
  | _, _, .cons q h t => fun e he => by
    rcases List.mem_cons.mp he with z | z
    · rw [z]; exact q
    · exact RpY.all t e z
theorem RpY.look (k : List Int) : ∀ {ys : KyT} {xs : List (List Int × Va)}, RpY K ρ H ys xs → (lookT k ys = none ∧ getT k xs = none) ∨ ∃ y x, lookT k ys = some y ∧ getT k xs = some x ∧ Rp K ρ H y x
  | _, _, .nil => .inl ⟨rfl, rfl⟩
  | (j, b, y) :: ys, (_, x) :: xs, .cons q h t => by
    unfold lookT getT
    rw [ieqs_eq]
    by_cases e : j = k
    · refine .inr ⟨y, x, ?_, ?_, h⟩
      · simp [List.find?_cons, e]
      · rw [decide_eq_true e]
    · rw [decide_eq_false e]
      have := RpY.look k t
      unfold lookT at this
      simpa [List.find?_cons, e] using this
theorem RpY.rep (k : List Int) {b : Addr} {y : V} {x : Va} (r : Rp K ρ H y x) : ∀ {ys : KyT} {xs : List (List Int × Va)}, RpY K ρ H ys xs → RpY K ρ H (ys.map fun e => if e.1 = k then (e.1, e.2.1, y) else e) (repT k x xs)
  | _, _, .nil => .nil
  | (j, c, z) :: ys, (_, u) :: xs, .cons q h t => by
    rw [List.map_cons]
    unfold repT
    rw [ieqs_eq]
    by_cases e : j = k
    · rw [if_pos e, decide_eq_true e]
      exact .cons q r (RpY.rep k (b := b) r t)
    · rw [if_neg e, decide_eq_false e]
      exact .cons q h (RpY.rep k (b := b) r t)
theorem RpY.snoc : ∀ {ys : KyT} {xs : List (List Int × Va)} {k : List Int} {b : Addr} {y : V} {x : Va}, RpY K ρ H ys xs → SqN K.k H b (k.map V.int) → Rp K ρ H y x → RpY K ρ H (ys ++ [(k, b, y)]) (xs ++ [(k, x)])
  | _, _, _, _, _, _, .nil, q, r => .cons q r .nil
  | _, _, _, _, _, _, .cons q h t, q', r => .cons q h (RpY.snoc t q' r)
theorem RpY.put (k : List Int) {b : Addr} {y : V} {x : Va} {ys : KyT} {xs : List (List Int × Va)} (t : RpY K ρ H ys xs) (q : SqN K.k H b (k.map V.int)) (r : Rp K ρ H y x) : RpY K ρ H (storeT k b y ys) (putT k x xs) := by
  unfold storeT putT
  rw [look_has]
  rcases t.look k with ⟨h1, h2⟩ | ⟨y', x', h1, h2, _⟩
  · rw [h1, h2]
    exact t.snoc q r
  · rw [h1, h2]
    exact t.rep k (b := b) r
theorem RpK.look (k : Int) : ∀ {ys : List (Int × V)} {xs : List (Int × Va)}, RpK K ρ H ys xs → (valV (kI ys) (Sum.inl k : Key) = none ∧ getI k xs = none) ∨ ∃ y x, valV (kI ys) (Sum.inl k : Key) = some y ∧ getI k xs = some x ∧ Rp K ρ H y x
  | _, _, .nil => .inl ⟨rfl, rfl⟩
  | (j, y) :: ys, (_, x) :: xs, .cons h t => by
    unfold getI
    rw [ieq_eq]
    show (valV ((Sum.inl j, y) :: kI ys) _ = _ ∧ _) ∨ _
    by_cases e : j = k
    · refine .inr ⟨y, x, ?_, ?_, h⟩
      · exact valV_pos (by rw [e])
      · rw [decide_eq_true e]
    · rw [decide_eq_false e]
      have e2 : ¬ (Sum.inl j : Key) = Sum.inl k := fun z => e (Sum.inl.inj z)
      have h0 : valV ((Sum.inl j, y) :: kI ys) (Sum.inl k : Key) = valV (kI ys) (Sum.inl k) := valV_neg e2
      have h2 := RpK.look k t
      rw [← h0] at h2
      exact h2
theorem RpK.rep (k : Int) {y : V} {x : Va} (r : Rp K ρ H y x) : ∀ {ys : List (Int × V)} {xs : List (Int × Va)}, RpK K ρ H ys xs → RpK K ρ H (ys.map fun e => if e.1 = k then (e.1, y) else e) (repI k x xs)
  | _, _, .nil => .nil
  | (j, z) :: ys, (_, u) :: xs, .cons h t => by
    rw [List.map_cons]
    unfold repI
    rw [ieq_eq]
    by_cases e : j = k
    · rw [if_pos e, decide_eq_true e]
      exact .cons r (RpK.rep k r t)
    · rw [if_neg e, decide_eq_false e]
      exact .cons h (RpK.rep k r t)
theorem RpK.snoc : ∀ {ys : List (Int × V)} {xs : List (Int × Va)} {k : Int} {y : V} {x : Va}, RpK K ρ H ys xs → Rp K ρ H y x → RpK K ρ H (ys ++ [(k, y)]) (xs ++ [(k, x)])
  | _, _, _, _, _, .nil, r => .cons r .nil
  | _, _, _, _, _, .cons h t, r => .cons h (RpK.snoc t r)
theorem RpK.put (k : Int) {y : V} {x : Va} {ys : List (Int × V)} {xs : List (Int × Va)} (t : RpK K ρ H ys xs) (r : Rp K ρ H y x) : ∃ zs, putK (kI ys) (Sum.inl k : Key) y = kI zs ∧ RpK K ρ H zs (putI k x xs) := by
  unfold putI putK
  rw [valV_any]
  rcases t.look k with ⟨h1, h2⟩ | ⟨y', x', h1, h2, _⟩
  · rw [h1, h2]
    exact ⟨ys ++ [(k, y)], by simp [kI], t.snoc r⟩
  · rw [h1, h2]
    refine ⟨ys.map fun e => if e.1 = k then (e.1, y) else e, ?_, t.rep k r⟩
    show List.map _ (kI ys) = _
    unfold kI
    rw [List.map_map, List.map_map]
    apply List.map_congr_left
    intro e _
    show (if (Sum.inl e.1 : Key) = Sum.inl k then ((Sum.inl e.1 : Key), y) else ((Sum.inl e.1 : Key), e.2)) = _
    by_cases q : e.1 = k
    · rw [if_pos (by rw [q])]
      show _ = ((Sum.inl (if e.1 = k then (e.1, y) else e).1 : Key), (if e.1 = k then (e.1, y) else e).2)
      rw [if_pos q]
    · rw [if_neg (fun z => q (Sum.inl.inj z))]
      show _ = ((Sum.inl (if e.1 = k then (e.1, y) else e).1 : Key), (if e.1 = k then (e.1, y) else e).2)
      rw [if_neg q]
/-- what the cell holds at a key -/
theorem dLook_ok {x y : V} {d k : Va} {o : Option Va} (hv : HvR K ρ H h) (rx : RpT K ρ H x d) (ry : RpT K ρ H y k) (e : dLook h d k = some o) :
    (∃ a ov, x = .ref a ∧ DGet H a y ov ∧ ((ov = none ∧ o = none) ∨ ∃ v w, ov = some v ∧ o = some w ∧ Rp K ρ H v w)) ∨
    ∃ a kys ks b, x = .ref a ∧ y = .ref b ∧ H a = some (dtO K.P K.w a kys) ∧ AllK K.k H kys ∧ SqN K.k H b (ks.map V.int) ∧ ((lookT ks kys = none ∧ o = none) ∨ ∃ v w, lookT ks kys = some v ∧ o = some w ∧ Rp K ρ H v w) := by
  unfold dLook at e
  split at e
  · rename_i n
    obtain ⟨a, rfl, ha⟩ := rx.ref
    split at e
    · rename_i kvs ec
      obtain ⟨kys, h1, h2⟩ := hv.cell ha ec
      split at e
      · rename_i i
        cases e
        left
        have : y = kV (Sum.inl i) := ry.int
        subst this
        refine ⟨a, _, rfl, DGet.k h1, ?_⟩
        rcases h2.look i with ⟨q1, q2⟩ | ⟨v, w, q1, q2, q3⟩
        · exact .inl ⟨q1, q2⟩
        · exact .inr ⟨v, w, q1, q2, q3⟩
      · cases e
    · rename_i kvs ec
      obtain ⟨kys, h1, h2⟩ := hv.cell ha ec
      split at e
      · rename_i xs
        split at e
        · rename_i is ei
          cases e
          right
          obtain ⟨b, ys, rfl, q1, q2⟩ := ry.tup
          obtain ⟨rfl, _⟩ := ints_ok q2 ei
          refine ⟨a, kys, is, b, rfl, rfl, h1, h2.all, q1, ?_⟩
          rcases h2.look is with ⟨q1, q2⟩ | ⟨v, w, q1, q2, q3⟩
          · exact .inl ⟨q1, q2⟩
          · exact .inr ⟨v, w, q1, q2, q3⟩
        · cases e
      · cases e
    · cases e
  · cases e
theorem isDT_ok {x : V} {v : Va} (hv : HvR K ρ H h) (r : RpT K ρ H x v) (e : isDT h v = true) : ∃ n a kys, v = .ref n ∧ x = .ref a ∧ H a = some (dtO K.P K.w a kys) := by
  unfold isDT at e
  split at e
  · rename_i n
    obtain ⟨a, rfl, ha⟩ := r.ref
    split at e
    · rename_i kvs ec
      obtain ⟨kys, h1, _⟩ := hv.cell ha ec
      exact ⟨n, a, kys, rfl, rfl, h1⟩
    · cases e
  · cases e
theorem dget_no {P : Program} {w : World} {a : Addr} {kys : KyT} {y : V} {o : Option V} (h : H a = some (dtO P w a kys)) : ¬ DGet H a y o := by
  rintro (⟨kvs, k, e | ⟨ob, e⟩, _⟩ | ⟨kvs, k, b, e | ⟨ob, e⟩, _⟩)
  · rw [h] at e; cases e
  · rw [h] at e; cases e
  · rw [h] at e; cases e
  · rw [h] at e; cases e
theorem g_dget : G2 K (rDg K) gDget := by
  intro ρ H h x y v u w Q hv rx ry e k
  unfold gDget at e
  split at e
  · rename_i v' q
    cases e
    rcases dLook_ok hv rx ry q with ⟨a, ov, ex, g, ⟨_, z⟩ | ⟨y', w', e1, e2, r⟩⟩ | ⟨a, kys, ks, b, ex, ey, h1, h2, h3, ⟨_, z⟩ | ⟨y', w', e1, e2, r⟩⟩
    · cases z
    · cases e2
      subst e1
      exact .inl ⟨a, y', ex, g, k ρ H _ .refl hv (.inl r)⟩
    · cases z
    · cases e2
      exact .inr ⟨a, kys, ks, b, y', ex, ey, h1, h2, h3, e1, k ρ H _ .refl hv (.inl r)⟩
  · cases e
theorem din_ok {f : Bool → Bool} {x y : V} {d k : Va} {o : Option Va} {Q : VK} (hv : HvR K ρ H h) (rx : RpT K ρ H x d) (ry : RpT K ρ H y k) (e : dLook h d k = some o) (q : Q (.bl (f o.isSome)) H) : rDi K f y x H Q := by
  rcases dLook_ok hv rx ry e with ⟨a, ov, ex, g, ⟨z1, z⟩ | ⟨y', w', e1, e2, r⟩⟩ | ⟨a, kys, ks, b, ex, ey, h1, h2, h3, ⟨z1, z⟩ | ⟨y', w', e1, e2, r⟩⟩
  · subst z1 z
    exact .inl ⟨a, none, ex, g, q⟩
  · subst e1 e2
    exact .inl ⟨a, some y', ex, g, q⟩
  · subst z
    exact .inr ⟨a, kys, ks, b, ex, ey, h1, h2, h3, by rw [z1]; exact q⟩
  · subst e2
    exact .inr ⟨a, kys, ks, b, ex, ey, h1, h2, h3, by rw [e1]; exact q⟩
theorem g_din : G2 K (rDi K id) gDin := by
  intro ρ H h x y v u w Q hv rx ry e k
  unfold gDin at e
  split at e
  · rename_i z q
    cases e
    exact din_ok hv ry rx q (k ρ H _ .refl hv (.inl (.bl _)))
  · rename_i q
    cases e
    exact din_ok hv ry rx q (k ρ H _ .refl hv (.inl (.bl _)))
  · cases e
theorem g_dnin : G2 K (rDi K (!·)) gDnin := by
  intro ρ H h x y v u w Q hv rx ry e k
  unfold gDnin at e
  split at e
  · rename_i z q
    cases e
    exact din_ok hv ry rx q (k ρ H _ .refl hv (.inl (.bl _)))
  · rename_i q
    cases e
    exact din_ok hv ry rx q (k ρ H _ .refl hv (.inl (.bl _)))
  · cases e
end
section
variable {X : Cx} {e f g : Expr} {pos p apos cpos : Pos} {a b c : EM}
theorem se_dget (hu : X.A.units + 64 < cLine) (ha : SE X e a) (hb : SE X f b) (hs : PlainIx f := by intro _ _; rfl) : SE X (.Subscript e f pos) (xVH a b gDget) :=
  PE.imp (pe_ix (ix_dict hu) ha hb hs) fun _ _ _ h => op_vh g_dget h
theorem se_din (hu : X.A.units + 64 < cLine) (ha : SE X e a) (hb : SE X f b) (hm : behindInMarks .In f = false := by rfl) : SE X (.Compare e [.In] [f] pos) (xVH a b gDin) := se_cmpH (op_din hu) g_din ha hb hm
theorem sb_din (hu : X.A.units + 64 < cLine) (ha : SE X e a) (hb : SE X f b) (hm : behindInMarks .In f = false := by rfl) : SB X (.Compare e [.In] [f] pos) (tV (xVH a b gDin)) := sb_cmpH (op_din hu) g_din ha hb hm
theorem sb_dnin (hu : X.A.units + 64 < cLine) (ha : SE X e a) (hb : SE X f b) (hm : behindInMarks .NotIn f = false := by rfl) : SB X (.Compare e [.NotIn] [f] pos) (tV (xVH a b gDnin)) := sb_cmpH (op_dnin hu) g_dnin ha hb hm
theorem se_newDI : SE X (.Dict [] [] pos) xNewDI :=
  PE.imp pe_dnewK fun σ H Q ⟨ρ, σv, h, w, h', st, hv, eq, k⟩ p hp => by
    cases eq
    exact k (ρ.add p) _ _ (Ext.new hv hp) (hv.new hp ⟨[], upd_same, .nil⟩) (.inr ⟨_, p, rfl, rfl, Rh.last hv⟩)
theorem se_newDT : SE X (.Dict [] [] pos) xNewDT :=
  PE.imp pe_dnewX fun σ H Q ⟨ρ, σv, h, w, h', st, hv, eq, k⟩ p hp => by
    cases eq
    exact k (ρ.add p) _ _ (Ext.new hv hp) (hv.new hp ⟨[], upd_same, .nil⟩) (.inr ⟨_, p, rfl, rfl, Rh.last hv⟩)
theorem m2_of {o e f : Expr} {m : Str} (base : attributeBase o m X.env (eval o X.env) = eval o X.env := by rfl)
    (few : ((backTo cpos (starEach [e, f] X.env)).all (fun x => !x.1) && (backToKw cpos (keywordEach [] X.env)).all (fun x => x.1.isSome)
    && decide (([e, f] : List Expr).length + ([] : List Keyword).length + (if ([] : List Keyword).isEmpty then 0 else 1) < 30)) = true := by rfl)
    (line : (apos.endLine == cpos.line) = true := by rfl) (trees : backTo cpos (starEach [e, f] X.env) = [(false, eval e X.env), (false, eval f X.env)] := by rfl) : M2 X o m apos e f cpos := ⟨base, few, line, trees⟩
theorem se_get (hu : X.A.units + 64 < cLine) (ha : SE X e a) (hb : SE X f b) (hc : SE X g c) (m : M2 X e "get" apos f g cpos) : SE X (.Call (.Attribute e "get" apos) [f, g] [] cpos) (xGet a b c) :=
  PE.imp (pe_dg2 hu ha hb hc m) fun σ H Q ⟨ρ, σv, h, w, h', st, hv, eq, k⟩ => by
    unfold xGet at eq
    split at eq
    · rename_i dv h1 ea
      split at eq
      · rename_i ed
        split at eq
        · rename_i kv h2 eb
          split at eq
          · rename_i xv h3 ec
            refine e_one st hv ea fun ρ1 H1 x x1 st1 hv1 r1 => ?_
            obtain ⟨n, a, kys, rfl, rfl, e1⟩ := isDT_ok hv1 r1 ed
            refine ⟨a, kys, rfl, e1, e_one st1 hv1 eb fun ρ2 H2 y x2 st2 hv2 r2 => e_one st2 hv2 ec fun ρ3 H3 z x3 st3 hv3 r3 => ?_⟩
            have xx := (x1.trans x2).trans x3
            have ra := (r1.ext x2).ext x3
            have rk := r2.ext x3
            split at eq
            · rename_i v ed3 el
              cases eq
              obtain ⟨n', a', kys', e4, e5, e6⟩ := isDT_ok hv3 ra ed3
              cases e4
              cases e5
              rcases dLook_ok hv3 ra rk el with ⟨a2, ov, ex, g, _⟩ | ⟨a2, kys2, ks, b, ex, ey, h1, h2, h3, ⟨z1, z2⟩ | ⟨v', w', q1, q2, q3⟩⟩
              · cases ex
                exact absurd g (dget_no e6)
              · cases z2
              · cases q2
                cases ex
                exact ⟨kys2, ks, b, ey, h1, h2, h3, by rw [q1]; exact k ρ3 H3 _ xx hv3 (.inl q3)⟩
            · rename_i ed3 el
              cases eq
              obtain ⟨n', a', kys', e4, e5, e6⟩ := isDT_ok hv3 ra ed3
              cases e4
              cases e5
              rcases dLook_ok hv3 ra rk el with ⟨a2, ov, ex, g, _⟩ | ⟨a2, kys2, ks, b, ex, ey, h1, h2, h3, ⟨z1, z2⟩ | ⟨v', w', q1, q2, q3⟩⟩
              · cases ex
                exact absurd g (dget_no e6)
              · cases ex
                exact ⟨kys2, ks, b, ey, h1, h2, h3, by rw [z1]; exact k ρ3 H3 _ xx hv3 r3⟩
              · cases q2
            · cases eq
          · cases eq
        · cases eq
      · cases eq
    · cases eq
end
end Ev
end
section
set_option Elab.async false
set_option linter.all false
set_option maxRecDepth 100000
/-! EvIt: what is walked, targets. -/
namespace PySem
open AutoSeq1 (wpAny_loadPart')
/-- enumerate(t), a tuple -/
theorem kz_enum_new (l : Addr) (items : Array Value) (n : Nat) (dct : Option Addr) (sl : Array (Option Value)) :
    Meets (Builtin.«enumerate.__new__» ⟨[.type "enumerate", .ref l], []⟩) (fun _ R s => s.heap.get? l = some { cls := .type "tuple", dict := dct, data := .seq items n, slots := sl } ∧
      R (.ok (.ret (.ref (s.heap.push { cls := .type "tuple_iterator", data := .fields #[.ref l, .int 0 0] }).objs.size)))
        { s with heap := (s.heap.push { cls := .type "tuple_iterator", data := .fields #[.ref l, .int 0 0] }).push { cls := .type "enumerate", data := .fields #[.none, .bool false, .ref s.heap.objs.size, rawInt 0, .none, .none] } }) :=
  .of_wp fun prog w A R s h => by
    obtain ⟨hp, g, d, tk, os⟩ := s
    obtain ⟨hl, h⟩ := h
    have hsub := sub_enumerate
    have hL : Heap.IsTuple (Shared.heap ⟨hp, g, d, tk, os⟩) l items := ⟨_, hl, rfl, n, rfl⟩
    wp_walk using wpAny_loadPart' hl
    refine wpAny_stack_any fun st => wpAny_pure ?_
    split
    · rename_i c _ _ _ _ _
      cases (c == Value.type "enumerate")
      · wp_walk using wpAny_loadPart' hl, wpAny_pyIter_tuple hL
        exact ⟨_, rfl, h⟩
      · wp_walk using wpAny_loadPart' hl, wpAny_pyIter_tuple hL
        exact ⟨_, rfl, h⟩
    · wp_walk using wpAny_loadPart' hl, wpAny_pyIter_tuple hL
      exact ⟨_, rfl, h⟩
theorem kz_enum_tuple {prog : Program} {w : World} {A : Around} {E : Value → Shared → Prop} {s : Shared} {l : Addr} {items : Array Value} {Q : Value → Shared → Prop} (hL : s.heap.IsTuple l items)
    (h : ∀ h', IsEnum h' (s.heap.objs.size + 1) s.heap.objs.size 0 .none → h'.IsTupleIter s.heap.objs.size l 0 → h'.objs.size = s.heap.objs.size + 2 →
      (∀ b o, s.heap.get? b = some o → h'.get? b = some o) → Q (.ref (s.heap.objs.size + 1)) { s with heap := h' }) :
    wpAny (model prog w) A (call (.type "enumerate") [.ref l]) Q E s := by
  obtain ⟨⟨c, dct, dt, sl⟩, hl, hc, n, hd⟩ := hL
  replace hc : c = .type "tuple" := hc
  replace hd : dt = .seq items n := hd
  subst hc hd
  refine callType_new F.called_enumerate (by decide) (F.typeCall_enumerate_1 _) (F.newCall_enumerate_1 _) (fun obj => F.args_object_init_2 obj _) F.entry_enumerate_new
    (kz_enum_new l items n dct sl) ⟨hl, ?_⟩
  have hz : (s.heap.push { cls := .type "tuple_iterator", data := .fields #[.ref l, .int 0 0] }).objs.size = s.heap.objs.size + 1 := Heap.size_push ..
  show _ ∧ _
  rw [hz]
  have he : IsEnum ((s.heap.push { cls := .type "tuple_iterator", data := .fields #[.ref l, .int 0 0] }).push
      { cls := .type "enumerate", data := .fields #[.none, .bool false, .ref s.heap.objs.size, rawInt 0, .none, .none] }) (s.heap.objs.size + 1) s.heap.objs.size 0 .none := by
    have := Heap.get?_push_size (s.heap.push { cls := .type "tuple_iterator", data := .fields #[.ref l, .int 0 0] })
      (o := { cls := .type "enumerate", data := .fields #[.none, .bool false, .ref s.heap.objs.size, rawInt 0, .none, .none] }) rfl
    rw [hz] at this
    exact this
  exact ⟨⟨_, he, rfl⟩, h _ he ⟨_, Heap.get?_push_of_some _ (Heap.get?_push_size _ rfl), rfl, rfl⟩ (by rw [Heap.size_push, hz]) fun b o x => Heap.get?_push_of_some _ (Heap.get?_push_of_some _ x)⟩
end PySem
namespace Ev
open PySem PySem.Spec PyProof.Rows L2

/-! ### enumerate over a tuple -/
def IteT (K : PySem.W.Frag) (a : Addr) : It :=
  ⟨fun i H => ∃ (xs : List V) (x : V), SqT K H a xs ∧ xs[i]? = some x, fun i H v H' => ∃ T x, v = .ref T ∧ H T = none ∧ H' = upd H T (.tup [.int (i : Nat), x]) ∧ ∀ xs, SqT K H a xs → xs[i]? = some x, fun i H => ∃ xs : List V, SqT K H a xs ∧ xs.length ≤ i⟩
theorem turn_enumT {P : Program} {w : World} {K : PySem.W.Frag} {elts : List Expr} {kk : Nat} {tpos : Pos} (a e it : Addr) :
    Turn P w K (.Tuple elts kk tpos) (IteT K a) [e, it] e (fun i h => (∃ old, IsEnum h e it ((i : Nat) : Int) old) ∧ h.IsTupleIter it a i ∧ e ≠ it ∧ a ≠ it ∧ a ≠ e) where
  mem := by simp
  obj := fun i h st b hb => by
    obtain ⟨⟨old, he⟩, ⟨o, ho, hc, hd⟩, _⟩ := st
    have e' : b = e ∨ b = it := by simpa using hb
    rcases e' with z | z
    · rw [z]; exact ⟨_, he, fun v q => nomatch q⟩
    · rw [z]; exact ⟨o, ho, fun v q => by rw [hd] at q; cases q⟩
  keep := fun i h h' st k => let ⟨⟨old, he⟩, hi, hne⟩ := st; ⟨⟨old, k e (by simp) _ he⟩, hi.at fun o q => k it (by simp) o q, hne⟩
  item := by
    intro X hP hw hK hc i pins s σ H E I hf st hg
    subst hP hw hK
    obtain ⟨⟨old, he⟩, hit, hne, ha1, ha2⟩ := st
    obtain ⟨xs, x, hq, hx⟩ := hg
    obtain ⟨its, rv, p, hz⟩ := I.tuple hq
    obtain ⟨u, hu, ru⟩ := rv.get hx
    have hel : e < s.heap.objs.size := Heap.lt_size he
    have hil : it < s.heap.objs.size := by obtain ⟨_, q, _⟩ := hit; exact Heap.lt_size q
    have hlt : i < its.toArray.size := by rw [List.size_toArray]; exact (List.getElem?_eq_some_iff.mp hu).1
    refine wpAny_pyNext_enum_itemD (Draws.tuple (A := X.A.in1) (I.ok.hd hc) it a ha1 its.toArray) he ⟨hit, p⟩ hlt hne (by simp [hne, Ne.symm ha2]) fun y h' tk hy ho st' hT hsz hk => ?_
    have ey : y = u := by
      have : its[i]? = some y := by simpa using hy
      rw [hu] at this
      exact (Option.some.inj this).symm
    subst ey
    refine ⟨_, rfl, wpAny_letOwnedTupleGo_enum (s := { s with heap := h', toks := tk + 1 }) ho fun h'' he' sb => ?_⟩
    have hT2 : h''.get? s.heap.objs.size = some { cls := .type "tuple", data := .seq #[.int i tk, y] } := (sb.2 _ (Nat.ne_of_gt hel)).trans hT
    have new : ObjOk X.prog X.w (upd H s.heap.objs.size (.tup [.int (i : Nat), x])) h'' s.heap.objs.size (.tup [.int (i : Nat), x]) :=
      ⟨by show 2 ≤ sizeLine; decide, [.int i tk, y], .cons ⟨_, rfl⟩ (.cons ru .nil), ⟨_, hT2, rfl, _, rfl⟩⟩
    have I1 : Inv X pins σ (upd H s.heap.objs.size (.tup [.int (i : Nat), x])) { s with heap := h'', toks := tk + 1 } :=
      I.turnedNew (ch := [e, it]) (fun b ob hb q => (sb.2 b (fun z => hb (by simp [z]))).trans (hk b ob (fun z => hb (by simp [z])) (fun z => hb (by simp [z])) q)) hf (Nat.le_refl _) new
    refine ⟨.ref s.heap.objs.size, _, I1, rfl, ⟨_, x, rfl, I.hok.fresh (Nat.le_refl _), rfl, fun ys hy => by rw [I.tuple_inj hy hq]; exact hx⟩, ⟨⟨y, ?_⟩, st'.1.at fun o q => (sb.2 it (Ne.symm hne)).trans q, hne, ha1, ha2⟩, fun b hb => ?_⟩
    · have e1 : ((i + 1 : Nat) : Int) = (i : Int) + 1 := by omega
      rw [e1]; exact he'
    · have hb' : b < s.heap.objs.size := by
        have e' : b = e ∨ b = it := by simpa using hb
        rcases e' with z | z
        · rw [z]; exact hel
        · rw [z]; exact hil
      rw [upd_ne (Nat.ne_of_lt hb')]
      exact (hf b hb).1
  done := by
    intro X hP hw hK hc i pins s σ H E I hf st hg
    subst hP hw hK
    obtain ⟨⟨old, he⟩, hit, hne, ha1, ha2⟩ := st
    obtain ⟨xs, hq, hx⟩ := hg
    obtain ⟨its, rv, p, hz⟩ := I.tuple hq
    obtain ⟨f0, f1, f2, f3, f4, f5⟩ := hf it (by simp)
    have hl := rv.length
    have hT : s.TypeIs (.ref e) "enumerate" := ⟨_, he, rfl⟩
    have fin : ∀ h', Heap.ExtBut it s.heap h' → (none : Option Value) = none ∧ Inv X pins σ H { s with heap := h' } := fun h' eb => ⟨rfl, I.turned (t' := s.toks) (fun b o hb q => eb b o hb q) f0 f1 f3 f4 f5⟩
    unfold pyNext
    refine wpAny_bind (wpAny_attempt (wpAny_callSpecial?_slot (name := Str.ofString "__next__") hT F.slot_enumerate_next
      (wpAny_call_entry F.slot_enumerate_next hT F.entry_enumerate_next ?_ (F.args_enumerate_next_1 _))))
    show wpAny _ _ (field (.ref e) 2 >>= _) _ _ _
    refine wpAny_bind (wpAny_field he rfl (x := .ref it) rfl ?_)
    refine wpAny_bind (wpAny_nextOf_tuple_end (I.ok.hd hc) hit p (by simp; omega) fun h' x he' hx' => ?_)
    obtain ⟨o, ho, hc'⟩ := hx'
    refine wpAny_bind (wpAny_isInstance (T := "StopIteration") (b := true) ⟨o, ho, hc'⟩ isSubtype_stop ?_)
    exact wpAny_pure (fin _ he')
  self := fun A i s Q E st h => let ⟨⟨_, he⟩, _⟩ := st; wpAny_pyIter_enum he h
def rEnum (K : PySem.W.Frag) (R : It → Hp → Prop) (vs : List V) (H : Hp) : Prop := ∃ a xs, vs = [.ref a] ∧ ((SqL K H a xs ∧ R (Ite K a) H) ∨ (SqT K H a xs ∧ R (IteT K a) H))
def iEnumX (K : PySem.W.Frag) (ta : TE) : TI := fun σ H R => ta σ H fun x H1 => rEnum K R [x] H1
theorem pi_enumX {X : Cx} {e : Expr} {ta : TE} {p pos tpos : Pos} {elts : List Expr} {kk : Nat} (hg : Gl X "enumerate") (hm : X.mg "enumerate" = none) (ha : PE X e ta) (hs : starEach [e] X.env = (false, eval e X.env) :: starEach [] X.env := by rfl) :
    PI X (.Tuple elts kk tpos) (.Call (.Name "enumerate" p) [e] [] pos) (iEnumX X.K ta) := by
  refine ⟨fun pins s σ H R I h => ?_⟩
  have hA := (pa_cons ha pa_nil hs).run pos pins s σ H (fun vs H1 => rEnum X.K R vs H1) I h
  refine Call_ (ld_blt I hg hm PyProof.Rows.boot_enumerate (PyProof.Rows.callWith_type1 (thn hA fun us s1 ⟨vs, H1, I1, r1, a, xs, ev, hq⟩ => ?_) hs rfl))
  subst ev
  cases r1 with
  | cons r rr =>
    cases rr
    cases r
    rcases hq with ⟨hq, q⟩ | ⟨hq, q⟩
    · obtain ⟨its, rv, p', hz⟩ := I1.list hq
      refine call_enumerate_list p'.isList fun h' he hit hsz hk => wpAny_pyIter_enum he ?_
      have I2 : Inv X pins σ H1 { s1 with heap := h' } := I1.kept (t' := s1.toks) hk
      refine ⟨s1.heap.objs.size + 1, [s1.heap.objs.size + 1, s1.heap.objs.size], _, _, H1, rfl, I2, turn_enum a (s1.heap.objs.size + 1) s1.heap.objs.size, ⟨⟨.none, he⟩, hit, Nat.succ_ne_self _⟩, fun b hb => ?_, q⟩
      have e' : b = s1.heap.objs.size + 1 ∨ b = s1.heap.objs.size := by simpa using hb
      have hle : s1.heap.objs.size ≤ b := by
        rcases e' with z | z
        · rw [z]; exact Nat.le_add_right _ _
        · rw [z]; exact Nat.le_refl _
      exact I1.fpOk hle (I1.hok.fresh hle)
    · obtain ⟨its, rv, p', hz⟩ := I1.tuple hq
      have hlt : a < s1.heap.objs.size := by obtain ⟨o, ho, _⟩ := p'; exact Heap.lt_size ho
      refine kz_enum_tuple p' fun h' he hit hsz hk => wpAny_pyIter_enum he ?_
      have I2 : Inv X pins σ H1 { s1 with heap := h' } := I1.kept (t' := s1.toks) hk
      refine ⟨s1.heap.objs.size + 1, [s1.heap.objs.size + 1, s1.heap.objs.size], _, _, H1, rfl, I2, turn_enumT a (s1.heap.objs.size + 1) s1.heap.objs.size, ⟨⟨.none, he⟩, hit, Nat.succ_ne_self _, Nat.ne_of_lt hlt, Nat.ne_of_lt (Nat.lt_succ_of_lt hlt)⟩, fun b hb => ?_, q⟩
      have e' : b = s1.heap.objs.size + 1 ∨ b = s1.heap.objs.size := by simpa using hb
      have hle : s1.heap.objs.size ≤ b := by
        rcases e' with z | z
        · rw [z]; exact Nat.le_add_right _ _
        · rw [z]; exact Nat.le_refl _
      exact I1.fpOk hle (I1.hok.fresh hle)

/-! ### the keys of a locked dict -/
/-- its keys, in their order, each key's own tuple -/
def Itky (K : Kx) (d : Addr) (o : Obj) (kys : KyT) : It :=
  ⟨fun i H => H d = some (.frz o (dtO K.P K.w d kys)) ∧ AllK K.k H kys ∧ i < kys.length, fun i H x H' => H' = H ∧ ∃ k b v, kys[i]? = some (k, b, v) ∧ x = .ref b, fun i H => H d = some (.frz o (dtO K.P K.w d kys)) ∧ kys.length ≤ i⟩
theorem frz_T {X : Cx} {pins : List (Addr × Obj)} {σ : L2.St} {H : Hp} {s : Shared} {d : Addr} {o : Obj} {kys : KyT} (I : Inv X pins σ H s) (h : H d = some (.frz o (dtO X.prog X.w d kys))) :
    (d == sysModules) = false ∧ s.heap.get? d = some o ∧ o.ExactDict ∧ ∃ (es : Array DictEntry) (ep : Nat), o.data = .dict es ep ∧ es.size = kys.length ∧
      ∀ (i : Nat) (k : List Int) (b : Addr) (v : V), kys[i]? = some (k, b, v) → ∃ (en : DictEntry), es[i]? = some en ∧ en.key = .ref b := by
  obtain ⟨hd, ⟨z, hs, xs, pr, o', es, ep, ho, hx, hdt, he, _⟩, _⟩ := I.hok d _ h
  rw [hd] at ho
  cases ho
  refine ⟨hs, hd, hx, es, ep, hdt, ?_, fun i k b v e => ?_⟩
  · have l1 : es.size = xs.length := size_of_entries he
    have l2 : kys.length = xs.length := Paired.length pr
    omega
  · obtain ⟨c, hc, e1, e2, _⟩ := paired_get pr e
    have q := entry_at he i
    rw [hc] at q
    refine ⟨_, q, ?_⟩
    show Value.ref c.2.1 = Value.ref b
    rw [← e2]
theorem turn_ky {P : Program} {w : World} {K : PySem.W.Frag} {tg : Expr} {d : Addr} {o : Obj} {es : Array DictEntry} {ep : Nat} {kys : KyT} (it : Addr) (hod : o.data = .dict es ep) : Turn P w K tg (Itky ⟨K, P, w⟩ d o kys) [it] it (fun i h => h.IsKeyIter it d i kys.length ep) where
  mem := by simp
  obj := fun i h st b hb => by
    have e : b = it := by simpa using hb
    subst e
    obtain ⟨oi, e, c, dd⟩ := st
    exact ⟨oi, e, fun v z => by rw [dd] at z; cases z⟩
  keep := fun i h h' st k => st.at fun oi e => k it (by simp) oi e
  item := by
    intro X hP hw hK hc i pins s σ H E I hf st hg
    subst hP hw hK
    obtain ⟨hd, _, hi⟩ := hg
    obtain ⟨f0, f1, f2, f3, f4, f5⟩ := hf it (by simp)
    obtain ⟨hs, hgd, hx, es', ep', hdt, hsz, ent⟩ := frz_T I hd
    obtain ⟨rfl, rfl⟩ := dict_ep hod hdt
    obtain ⟨⟨k, b, v⟩, hkv⟩ : ∃ p, kys[i]? = some p := ⟨kys[i], List.getElem?_eq_getElem hi⟩
    obtain ⟨en, hen, hkey⟩ := ent i k b v hkv
    refine next_key_item st hgd hdt hsz hen fun h' st' sb => ?_
    have I1 : Inv X pins σ H { s with heap := h' } := I.turned (t' := s.toks) (fun b ob hb e => (sb.2 b hb).trans e) f0 f1 f3 f4 f5
    obtain ⟨oi, e, c, dd⟩ := id st'
    exact ⟨en.key, rfl, go_of (s := { s with heap := h' }) e c dd (by decide) ⟨.ref b, H, I1, hkey, ⟨rfl, k, b, v, hkv, rfl⟩, st', fun b hb => (hf b hb).1⟩⟩
  done := by
    intro X hP hw hK hc i pins s σ H E I hf st hg
    subst hP hw hK
    obtain ⟨hd, hi⟩ := hg
    obtain ⟨f0, f1, f2, f3, f4, f5⟩ := hf it (by simp)
    obtain ⟨hs, hgd, hx, es', ep', hdt, hsz, ent⟩ := frz_T I hd
    obtain ⟨rfl, rfl⟩ := dict_ep hod hdt
    exact next_key_end (I.ok.hd hc) st hgd hdt hsz hi fun h' eb => ⟨rfl, I.turned (t' := s.toks) (fun b ob hb e => eb b ob hb e) f0 f1 f3 f4 f5⟩
  self := fun A i s Q E st h => by
    refine wpAny_pyIter_slot st.typeIs F.slot_dict_keyiterator_iter (wpAny_call_entry F.slot_dict_keyiterator_iter st.typeIs F.entry_dict_keyiterator_iter ?_ (F.args_dict_keyiterator_iter_1 _))
    show wpAny _ _ (ret (.ref it)) _ _ s
    exact wpAny_pure ⟨_, rfl, "dict_keyiterator", _, st.typeIs, F.slot_dict_keyiterator_next.lookup, h⟩
/-- the dict is locked -/
def iKy (K : Kx) (td : TE) : TI := fun σ H R => td σ H fun x H1 => ∃ d o kys, x = .ref d ∧ H1 d = some (.frz o (dtO K.P K.w d kys)) ∧ R (Itky K d o kys) H1
theorem pi_ky {X : Cx} {tg e : Expr} {td : TE} (he : PE X e td) : PI X tg e (iKy (kx X) td) := by
  refine ⟨fun pins s σ H R I h => ?_⟩
  refine thn (he.run pins s σ H _ I h) fun u s1 ⟨x, H1, I1, rx, d, o, kys, ex, hd, q⟩ => ?_
  subst ex
  obtain rfl : u = Value.ref d := rx
  obtain ⟨hs, hgd, hx, es, ep, hdt, hsz, ent⟩ := frz_T I1 hd
  refine iter_keys hs hgd hx hdt (pi_one (tk := s1.toks) I1 _ (turn_ky _ hdt) ⟨_, Heap.get?_push_size _ rfl, rfl, ?_⟩ q)
  rw [hsz] <;> rfl

/-! ### a list or a tuple -/
def iSeq (K : PySem.W.Frag) (tl : TE) : TI := fun σ H R => tl σ H fun x H1 => ∃ a, x = .ref a ∧ (((∃ xs, SqL K H1 a xs) ∧ R (Itl K a) H1) ∨ ((∃ xs, SqT K H1 a xs) ∧ R (Itt K a) H1))
theorem pi_seq {X : Cx} {tg l : Expr} {tl : TE} (hl : PE X l tl) : PI X tg l (iSeq X.K tl) := by
  refine ⟨fun pins s σ H R I h => ?_⟩
  refine thn (hl.run pins s σ H _ I h) fun v s1 ⟨x, H1, I1, r1, a, e, q1⟩ => ?_
  subst e
  cases r1
  have fp : ∀ b ∈ [s1.heap.objs.size], FpOk X pins H1 b := fun b hb => by
    have e : b = s1.heap.objs.size := by simpa using hb
    subst e
    exact I1.fpOk (Nat.le_refl _) (I1.hok.fresh (Nat.le_refl _))
  rcases q1 with ⟨⟨xs, hq⟩, q⟩ | ⟨⟨xs, hq⟩, q⟩
  · obtain ⟨its, rv, p, hz⟩ := I1.list hq
    refine wpAny_pyIter_list p.isList ?_
    exact ⟨s1.heap.objs.size, [s1.heap.objs.size], _, _, H1, rfl, I1.kept (t' := s1.toks) fun b o e => Heap.get?_push_of_some _ e, turn_list a _, ⟨_, Heap.get?_push_size _ rfl, rfl, rfl⟩, fp, q⟩
  · obtain ⟨its, rv, p, hz⟩ := I1.tuple hq
    refine wpAny_pyIter_tuple (show s1.heap.IsTuple a its.toArray from p) ?_
    exact ⟨s1.heap.objs.size, [s1.heap.objs.size], _, _, H1, rfl, I1.kept (t' := s1.toks) fun b o e => Heap.get?_push_of_some _ e, turn_tuple a _, ⟨_, Heap.get?_push_size _ rfl, rfl, rfl⟩, fp, q⟩

/-! ### what a walk gives -/
/-- a value, or a tuple whose object is not known -/
def RpW (K : Kx) (ρ : Rh) (H : Hp) (v : V) (x : Va) : Prop := RpT K ρ H v x ∨ ∃ a ys xs, v = .ref a ∧ x = .tup xs ∧ SqT K.k H a ys ∧ RpL K ρ H ys xs
def RB (b : Bool) (K : Kx) (ρ : Rh) (H : Hp) (v : V) (x : Va) : Prop := match b with
  | true => RpW K ρ H v x
  | false => RpT K ρ H v x
theorem RB.w {b : Bool} {K : Kx} {ρ : Rh} {H : Hp} {v : V} {x : Va} (r : RB b K ρ H v x) : RpW K ρ H v x := by
  cases b with
  | true => exact r
  | false => exact .inl r
def ItOk (b : Bool) (K : Kx) (ρ : Rh) (H : Hp) (J : It) (xs : List Va) : Prop :=
  ∀ ρ' H' h', Mv ρ H ρ' H' → HvR K ρ' H' h' → (∀ i x, xs[i]? = some x → J.go i H' ∧ ∀ v H'', J.yld i H' v H'' → Ext ρ' H' ρ' H'' ∧ HvR K ρ' H'' h' ∧ RB b K ρ' H'' v x) ∧ J.stop xs.length H'
def iOf (b : Bool) (K : Kx) (m : AM) : TI := fun σ H R => ∃ ρ σv h xs h', StR K ρ H σ σv ∧ HvR K ρ H h ∧ m σv h = some (xs, h') ∧
  ∀ ρ' H' J, Ext ρ H ρ' H' → HvR K ρ' H' h' → ItOk b K ρ' H' J xs → R J H'
abbrev SI (X : Cx) (b : Bool) (tg e : Expr) (m : AM) : Prop := PI X tg e (iOf b (kx X) m)
theorem PI.imp {X : Cx} {tg e : Expr} {t t' : TI} (h : PI X tg e t) (k : ∀ σ H R, t' σ H R → t σ H R) : PI X tg e t' := ⟨fun pins s σ H R I q => h.run pins s σ H R I (k σ H R q)⟩
section
variable {K : Kx} {ρ ρ' : Rh} {H H' : Hp} {h : Hv}
theorem it_list {a : Addr} {ys : List V} {xs : List Va} (q : LstAt K.k ρ H a ys) (r : RpL K ρ H ys xs) : ItOk false K ρ H (Itl K.k a) xs := by
  intro ρ' H' h' x hv
  have q' := x.lstAt q
  have r' := r.mv x
  refine ⟨fun i z hz => ?_, ys, q'.seq, Nat.le_of_eq r.length⟩
  obtain ⟨y, h1, h2⟩ := r'.get hz
  refine ⟨⟨ys, y, q'.seq, h1⟩, fun v H'' hy => ?_⟩
  obtain ⟨rfl, hy⟩ := hy
  have := hy ys q'.seq
  rw [h1] at this
  cases this
  exact ⟨.refl, hv, .inl h2⟩
theorem it_tup {a : Addr} {ys : List V} {xs : List Va} (q : SqN K.k H a ys) (r : RpL K ρ H ys xs) : ItOk false K ρ H (Itt K.k a) xs := by
  intro ρ' H' h' x hv
  have q' := x.sqN q
  have r' := r.mv x
  refine ⟨fun i z hz => ?_, ys, q'.seq, Nat.le_of_eq r.length⟩
  obtain ⟨y, h1, h2⟩ := r'.get hz
  refine ⟨⟨ys, y, q'.seq, h1⟩, fun v H'' hy => ?_⟩
  obtain ⟨rfl, hy⟩ := hy
  have := hy ys q'.seq
  rw [h1] at this
  cases this
  exact ⟨.refl, hv, .inl h2⟩
theorem it_rng {lo : Int} {n : Nat} : ItOk false K ρ H (Itr lo n) ((List.range n).map fun k => Va.int (lo + (k : Nat))) := by
  intro ρ' H' h' x hv
  refine ⟨fun i z hz => ?_, by show n ≤ _; rw [List.length_map, List.length_range]; exact Nat.le_refl _⟩
  have hi : i < n := by
    have := (List.getElem?_eq_some_iff.mp hz).1
    rwa [List.length_map, List.length_range] at this
  have hz' : z = Va.int (lo + (i : Nat)) := by
    rw [List.getElem?_map, List.getElem?_range hi] at hz
    exact (Option.some.inj hz).symm
  subst hz'
  refine ⟨hi, fun v H'' hy => ?_⟩
  obtain ⟨rfl, rfl⟩ := hy
  exact ⟨.refl, hv, .inl (.int _)⟩
theorem numb_get : ∀ (xs : List Va) (k i : Nat), (numb k xs)[i]? = xs[i]?.map fun x => Va.tup [.int ((k + i : Nat) : Int), x]
  | [], _, _ => by simp [numb]
  | x :: xs, k, 0 => by simp [numb]
  | x :: xs, k, i + 1 => by
    rw [numb]
    simp only [List.getElem?_cons_succ]
    rw [numb_get xs (k + 1) i]
    rw [show k + 1 + i = k + (i + 1) by omega]
theorem numb_len : ∀ (xs : List Va) (k : Nat), (numb k xs).length = xs.length
  | [], _ => rfl
  | x :: xs, k => by rw [numb, List.length_cons, List.length_cons, numb_len xs]
/-- a new pair -/
theorem pair_new {T : Addr} {y1 y2 : V} {x1 x2 : Va} (hv : HvR K ρ H h) (hT : H T = none) (r1 : Rp K ρ H y1 x1) (r2 : Rp K ρ H y2 x2) :
    Ext ρ H ρ (upd H T (.tup [y1, y2])) ∧ HvR K ρ (upd H T (.tup [y1, y2])) h ∧ RpW K ρ (upd H T (.tup [y1, y2])) (.ref T) (.tup [x1, x2]) :=
  ⟨Ext.upd hv hT, hv.upd hT, .inr ⟨T, [y1, y2], [x1, x2], rfl, rfl, .inl (.inl upd_same), .cons (r1.ext (Ext.upd hv hT)) (.cons (r2.ext (Ext.upd hv hT)) .nil)⟩⟩
theorem it_enumL {a : Addr} {ys : List V} {xs : List Va} (q : LstAt K.k ρ H a ys) (r : RpL K ρ H ys xs) : ItOk true K ρ H (Ite K.k a) (numb 0 xs) := by
  intro ρ' H' h' x hv
  have q' := x.lstAt q
  have r' := r.mv x
  refine ⟨fun i z hz => ?_, ys, q'.seq, by rw [numb_len, r.length]; exact Nat.le_refl _⟩
  rw [numb_get] at hz
  obtain ⟨z', hz', rfl⟩ := Option.map_eq_some_iff.mp hz
  obtain ⟨y, h1, h2⟩ := r'.get hz'
  refine ⟨⟨ys, y, q'.seq, h1⟩, fun v H'' hy => ?_⟩
  obtain ⟨T, y', rfl, hT, rfl, hy⟩ := hy
  have := hy ys q'.seq
  rw [h1] at this
  cases this
  rw [Nat.zero_add]
  exact pair_new hv hT (.int _) h2
theorem it_enumT {a : Addr} {ys : List V} {xs : List Va} (q : SqN K.k H a ys) (r : RpL K ρ H ys xs) : ItOk true K ρ H (IteT K.k a) (numb 0 xs) := by
  intro ρ' H' h' x hv
  have q' := x.sqN q
  have r' := r.mv x
  refine ⟨fun i z hz => ?_, ys, q'.seq, by rw [numb_len, r.length]; exact Nat.le_refl _⟩
  rw [numb_get] at hz
  obtain ⟨z', hz', rfl⟩ := Option.map_eq_some_iff.mp hz
  obtain ⟨y, h1, h2⟩ := r'.get hz'
  refine ⟨⟨ys, y, q'.seq, h1⟩, fun v H'' hy => ?_⟩
  obtain ⟨T, y', rfl, hT, rfl, hy⟩ := hy
  have := hy ys q'.seq
  rw [h1] at this
  cases this
  rw [Nat.zero_add]
  exact pair_new hv hT (.int _) h2
theorem zipT_get : ∀ (xs ys : List Va) (i : Nat) (z : Va), (zipT xs ys)[i]? = some z → ∃ x y, xs[i]? = some x ∧ ys[i]? = some y ∧ z = .tup [x, y]
  | [], _, _, _, h => by simp [zipT] at h
  | _ :: _, [], _, _, h => by simp [zipT] at h
  | x :: xs, y :: ys, 0, z, h => by
    simp [zipT] at h
    exact ⟨x, y, rfl, rfl, h.symm⟩
  | x :: xs, y :: ys, i + 1, z, h => by
    rw [zipT] at h
    simp only [List.getElem?_cons_succ] at h
    obtain ⟨x', y', h1, h2, h3⟩ := zipT_get xs ys i z h
    exact ⟨x', y', by simpa using h1, by simpa using h2, h3⟩
theorem zipT_len : ∀ (xs ys : List Va), (zipT xs ys).length = min xs.length ys.length
  | [], _ => by simp [zipT]
  | _ :: _, [] => by simp [zipT]
  | x :: xs, y :: ys => by
    rw [zipT, List.length_cons, zipT_len xs ys, List.length_cons, List.length_cons]
    omega
theorem it_zipL {a b : Addr} {ys zs : List V} {xs us : List Va} (q : LstAt K.k ρ H a ys) (r : RpL K ρ H ys xs) (p : LstAt K.k ρ H b zs) (t : RpL K ρ H zs us) : ItOk true K ρ H (Itz K.k a b) (zipT xs us) := by
  intro ρ' H' h' x hv
  have q' := x.lstAt q
  have r' := r.mv x
  have p' := x.lstAt p
  have t' := t.mv x
  refine ⟨fun i z hz => ?_, ys, zs, q'.seq, p'.seq, ?_⟩
  · obtain ⟨x1, x2, e1, e2, rfl⟩ := zipT_get _ _ _ _ hz
    obtain ⟨y, h1, h2⟩ := r'.get e1
    obtain ⟨w, h3, h4⟩ := t'.get e2
    refine ⟨⟨ys, zs, y, w, q'.seq, p'.seq, h1, h3⟩, fun v H'' hy => ?_⟩
    obtain ⟨T, y', w', rfl, hT, rfl, hy, hw⟩ := hy
    have g1 := hy ys q'.seq
    have g2 := hw zs p'.seq
    rw [h1] at g1
    rw [h3] at g2
    cases g1
    cases g2
    exact pair_new hv hT h2 h4
  · rw [zipT_len, r.length, t.length]
    omega
theorem it_zipT {a b : Addr} {ys zs : List V} {xs us : List Va} (q : SqN K.k H a ys) (r : RpL K ρ H ys xs) (p : SqN K.k H b zs) (t : RpL K ρ H zs us) : ItOk true K ρ H (RZ.ItzT K.k a b) (zipT xs us) := by
  intro ρ' H' h' x hv
  have q' := x.sqN q
  have r' := r.mv x
  have p' := x.sqN p
  have t' := t.mv x
  refine ⟨fun i z hz => ?_, ys, zs, q'.seq, p'.seq, ?_⟩
  · obtain ⟨x1, x2, e1, e2, rfl⟩ := zipT_get _ _ _ _ hz
    obtain ⟨y, h1, h2⟩ := r'.get e1
    obtain ⟨w, h3, h4⟩ := t'.get e2
    refine ⟨⟨ys, zs, y, w, q'.seq, p'.seq, h1, h3⟩, fun v H'' hy => ?_⟩
    obtain ⟨T, y', w', rfl, hT, rfl, hy, hw⟩ := hy
    have g1 := hy ys q'.seq
    have g2 := hw zs p'.seq
    rw [h1] at g1
    rw [h3] at g2
    cases g1
    cases g2
    exact pair_new hv hT h2 h4
  · rw [zipT_len, r.length, t.length]
    omega
end
section
variable {X : Cx} {tg e f : Expr} {pos p tpos : Pos} {a b : EM} {elts : List Expr} {kk : Nat}
theorem si_val (ha : SE X e a) : SI X false tg e (iVal a) :=
  PI.imp (pi_seq ha) fun σ H R ⟨ρ, σv, h, xs, h', st, hv, eq, k⟩ => by
    unfold iVal at eq
    split at eq
    · rename_i zs h1 ea
      cases eq
      refine e_one st hv ea fun ρ1 H1 x x1 st1 hv1 r1 => ?_
      obtain ⟨c, ys, rfl, q1, q2⟩ := r1.tup
      exact ⟨c, rfl, .inr ⟨⟨ys, q1.seq⟩, k ρ1 H1 _ x1 hv1 (it_tup q1 q2)⟩⟩
    · rename_i zs h1 ea
      cases eq
      refine e_one st hv ea fun ρ1 H1 x x1 st1 hv1 r1 => ?_
      obtain ⟨c, ys, rfl, q1, q2⟩ := r1.lst
      exact ⟨c, rfl, .inl ⟨⟨ys, q1.seq⟩, k ρ1 H1 _ x1 hv1 (it_list q1 q2)⟩⟩
    · cases eq
theorem si_r1 (B : Bn X "range") (ha : SE X e a) (na : starEach [e] X.env = (false, eval e X.env) :: starEach [] X.env := by rfl) : SI X false tg (.Call (.Name "range" p) [e] [] pos) (iR1 a) :=
  PI.imp (pi_range1 B.g B.m (pa_cons ha pa_nil na) na) fun σ H R ⟨ρ, σv, h, xs, h', st, hv, eq, k⟩ => by
    unfold iR1 at eq
    split at eq
    · rename_i j h1 ea
      split at eq
      · rename_i ys er
        cases eq
        obtain ⟨_, _, hj, rfl⟩ := rng_ok er
        refine e_one st hv ea fun ρ1 H1 x x1 st1 hv1 r1 => ⟨j, by rw [r1.int], by omega, by omega, k ρ1 H1 _ x1 hv1 ?_⟩
        rw [Int.sub_zero]
        exact it_rng
      · cases eq
    · cases eq
theorem si_r2 (B : Bn X "range") (ha : SE X e a) (hb : SE X f b) (na : starEach [e, f] X.env = (false, eval e X.env) :: starEach [f] X.env := by rfl) (nb : starEach [f] X.env = (false, eval f X.env) :: starEach [] X.env := by rfl) : SI X false tg (.Call (.Name "range" p) [e, f] [] pos) (iR2 a b) :=
  PI.imp (pi_range2 B.g B.m (pa_cons ha (pa_cons hb pa_nil nb) na) (by rw [na, nb]; rfl) nb) fun σ H R ⟨ρ, σv, h, xs, h', st, hv, eq, k⟩ => by
    unfold iR2 at eq
    split at eq
    · rename_i i h1 ea
      split at eq
      · rename_i j h2 eb
        split at eq
        · rename_i ys er
          cases eq
          obtain ⟨_, hi, hj, rfl⟩ := rng_ok er
          refine e_two st hv ea eb fun ρ1 H1 x y x1 st1 hv1 r1 r2 => ⟨i, j, by rw [r1.int, r2.int], ⟨by omega, by omega, by omega, by omega⟩, k ρ1 H1 _ x1 hv1 it_rng⟩
        · cases eq
      · cases eq
    · cases eq
theorem si_enum (B : Bn X "enumerate") (ha : SE X e a) (hs : starEach [e] X.env = (false, eval e X.env) :: starEach [] X.env := by rfl) : SI X true (.Tuple elts kk tpos) (.Call (.Name "enumerate" p) [e] [] pos) (iEnum a) :=
  PI.imp (pi_enumX B.g B.m ha hs) fun σ H R ⟨ρ, σv, h, xs, h', st, hv, eq, k⟩ => by
    unfold Ev.iEnum at eq
    split at eq
    · rename_i zs h1 ea
      cases eq
      refine e_one st hv ea fun ρ1 H1 x x1 st1 hv1 r1 => ?_
      obtain ⟨c, ys, rfl, q1, q2⟩ := r1.tup
      exact ⟨c, ys, rfl, .inr ⟨q1.seq, k ρ1 H1 _ x1 hv1 (it_enumT q1 q2)⟩⟩
    · rename_i zs h1 ea
      cases eq
      refine e_one st hv ea fun ρ1 H1 x x1 st1 hv1 r1 => ?_
      obtain ⟨c, ys, rfl, q1, q2⟩ := r1.lst
      exact ⟨c, ys, rfl, .inl ⟨q1.seq, k ρ1 H1 _ x1 hv1 (it_enumL q1 q2)⟩⟩
    · cases eq
theorem si_zip (B : Bn X "zip") (ha : SE X e a) (hb : SE X f b) (na : starEach [e, f] X.env = (false, eval e X.env) :: starEach [f] X.env := by rfl) (nb : starEach [f] X.env = (false, eval f X.env) :: starEach [] X.env := by rfl)
    (hpl : (backTo pos (starEach [f] X.env)).any (·.1) = false := by rfl) : SI X true (.Tuple elts kk tpos) (.Call (.Name "zip" p) [e, f] [] pos) (iZip a b) :=
  PI.imp (RZ.pi_zipA B.g B.m (pa_cons ha (pa_cons hb pa_nil nb) na) na hpl) fun σ H R ⟨ρ, σv, h, xs, h', st, hv, eq, k⟩ => by
    unfold Ev.iZip at eq
    split at eq
    · rename_i zs h1 ea
      split at eq
      · rename_i us h2 eb
        cases eq
        refine e_two st hv ea eb fun ρ1 H1 x y x1 st1 hv1 r1 r2 => ?_
        obtain ⟨c, ys, rfl, q1, q2⟩ := r1.tup
        obtain ⟨d, ws, rfl, q3, q4⟩ := r2.tup
        exact ⟨c, d, ys, ws, rfl, .inr ⟨q1.seq, q3.seq, k ρ1 H1 _ x1 hv1 (it_zipT q1 q2 q3 q4)⟩⟩
      · cases eq
    · rename_i zs h1 ea
      split at eq
      · rename_i us h2 eb
        cases eq
        refine e_two st hv ea eb fun ρ1 H1 x y x1 st1 hv1 r1 r2 => ?_
        obtain ⟨c, ys, rfl, q1, q2⟩ := r1.lst
        obtain ⟨d, ws, rfl, q3, q4⟩ := r2.lst
        exact ⟨c, d, ys, ws, rfl, .inl ⟨q1.seq, q3.seq, k ρ1 H1 _ x1 hv1 (it_zipL q1 q2 q3 q4)⟩⟩
      · cases eq
    · cases eq

/-! ### targets -/
/-- several slots set -/
def sets : L2.St → List Nat → List V → L2.St
  | σ, i :: is, v :: vs => sets (σ.set i (some v)) is vs
  | σ, _, _ => σ
def gOf (b : Bool) (K : Kx) (is : List Nat) (bd : Bd) : TG := fun v σ H Q => ∃ ρ σv x σv', StR K ρ H σ σv ∧ RB b K ρ H v x ∧ bd x σv = some σv' ∧ ∀ vs, StR K ρ H (sets σ is vs) σv' → Q (sets σ is vs) H
abbrev SG (X : Cx) (b : Bool) (tg : Expr) (is : List Nat) (bd : Bd) : Prop := PG X tg (gOf b (kx X) is bd)
theorem PG.imp {t t' : TG} (h : PG X tg t) (k : ∀ v σ H Q, t' v σ H Q → t v σ H Q) : PG X tg t' := ⟨fun pins s σ H v u Q I r q => h.run pins s σ H v u Q I r (k v σ H Q q)⟩
theorem PGs.imp {ts : List Expr} {t t' : TGs} (h : PGs X ts t) (k : ∀ v σ H Q, t' v σ H Q → t v σ H Q) : PGs X ts t' := ⟨fun pins s σ H v u Q I r q => h.run pins s σ H v u Q I r (k v σ H Q q)⟩
theorem sg_name {i : Nat} {x : Str} (hN : X.N.Nodup) (hi : X.N[i]? = some x := by rfl) (hx : Loc X.env.scope x := by first | exact Or.inl rfl | exact Or.inr rfl) (hf : X.fn x = true ∨ X.env.scope.names.lookup x = some .local := by first | exact .inl rfl | exact .inr rfl) : SG X false (.Name x pos) [i] (bN i) :=
  PG.imp (pg_name hN hi hx hf) fun v σ H Q ⟨ρ, σv, z, σv', st, r, eq, k⟩ => by
    unfold bN at eq
    cases eq
    exact k [v] (StR.set (v := some v) (x := some z) r i st)
/-- names in a row -/
def gsOf (is : List Nat) : TGs := fun vs σ H Q => vs.length = is.length ∧ Q (sets σ is vs) H
theorem sgs_nil : PGs X [] (gsOf []) := PGs.imp pgs_nil fun v σ H Q ⟨h1, h2⟩ => by
  cases v with
  | nil => exact ⟨rfl, h2⟩
  | cons _ _ => cases h1
theorem sgs_cons {i : Nat} {is : List Nat} {x : Str} {es : List Expr} (hr : PGs X es (gsOf is)) (hN : X.N.Nodup) (hi : X.N[i]? = some x := by rfl) (hx : Loc X.env.scope x := by first | exact Or.inl rfl | exact Or.inr rfl) (hf : X.fn x = true ∨ X.env.scope.names.lookup x = some .local := by first | exact .inl rfl | exact .inr rfl)
    (hs : (assignEach (.Name x pos :: es) X.env).map (·.2) = assign (.Name x pos) X.env :: (assignEach es X.env).map (·.2) := by rfl) : PGs X (.Name x pos :: es) (gsOf (i :: is)) :=
  PGs.imp (pgs_cons (pg_name hN hi hx hf) hr hs) fun vs σ H Q ⟨h1, h2⟩ => by
    cases vs with
    | nil => cases h1
    | cons v vs => exact ⟨v, vs, rfl, Nat.succ.inj h1, h2⟩
theorem bNs_ok {K : Kx} {ρ : Rh} {H : Hp} : ∀ {is : List Nat} {xs : List Va} {ys : List V} {σ : L2.St} {σv σv' : Sv}, StR K ρ H σ σv → RpL K ρ H ys xs → bNs is xs σv = some σv' → ys.length = is.length ∧ StR K ρ H (sets σ is ys) σv'
  | [], _, _, _, _, _, st, .nil, e => by
    cases e
    exact ⟨rfl, st⟩
  | [], _ :: _, _, _, _, _, _, .cons _ _, e => by cases e
  | _ :: _, _, _, _, _, _, _, .nil, e => by cases e
  | i :: is, x :: xs, y :: ys, σ, σv, σv', st, .cons r t, e => by
    obtain ⟨h1, h2⟩ := bNs_ok (is := is) (StR.set (v := some y) (x := some x) (.inl r) i st) t e
    exact ⟨congrArg Nat.succ h1, h2⟩
theorem sg_tup {b : Bool} {es : List Expr} {k : Nat} {is : List Nat} (hc : X.calm = true) (h : PGs X es (gsOf is))
    (hn : (assignEach es X.env).length = is.length := by rfl) (hst : (assignEach es X.env).findIdx? (·.1) = none := by rfl) : SG X b (.Tuple es k pos) is (bT is) :=
  PG.imp (pg_tup hc h hn hst) fun v σ H Q ⟨ρ, σv, z, σv', st, r, eq, k⟩ => by
    unfold bT at eq
    split at eq
    · rename_i xs
      have fin : ∀ a ys, v = .ref a → SqT X.K H a ys → RpL (kx X) ρ H ys xs → gTup X.K is.length (gsOf is) v σ H Q := fun a ys e q r => by
        obtain ⟨h1, h2⟩ := bNs_ok st r eq
        exact ⟨a, ys, e, q, h1, h1, k ys h2⟩
      rcases r.w with r | ⟨a, ys, zs, e, e2, q, r⟩
      · obtain ⟨a, ys, e, q1, q2⟩ := r.tup
        exact fin a ys e q1.seq q2
      · cases e2
        exact fin a ys e q r
    · cases eq
end
end Ev
end
section
set_option Elab.async false
set_option linter.all false
set_option maxRecDepth 100000
/-! EvComp: list comprehensions. -/
namespace Ev
open PySem PySem.Spec PyProof.Rows L2

/-! ### slots forgotten -/
theorem wip_get (σ : L2.St) : ∀ (vs : List Nat) (i : Nat), (L2.wipe σ vs)[i]? = if i ∈ vs then (σ[i]?).map fun _ => none else σ[i]?
  | [], i => by simp [L2.wipe]
  | v :: vs, i => by
    unfold L2.wipe
    rw [List.getElem?_set, wip_get σ vs i, wipe_length]
    by_cases e : v = i
    · subst e
      rw [if_pos rfl, if_pos List.mem_cons_self]
      by_cases h : v < σ.length
      · rw [if_pos h, List.getElem?_eq_getElem h]; rfl
      · rw [if_neg h, List.getElem?_eq_none (by omega)]; rfl
    · rw [if_neg e]
      by_cases h : i ∈ vs
      · rw [if_pos h, if_pos (List.mem_cons_of_mem _ h)]
      · rw [if_neg h, if_neg]
        intro m
        rcases List.mem_cons.mp m with m | m
        · exact e m.symm
        · exact h m
theorem sets_get : ∀ (is : List Nat) (vs : List V) (σ : L2.St) (i : Nat), i ∉ is → (sets σ is vs)[i]? = σ[i]?
  | [], _, _, _, _ => by simp [sets]
  | _ :: _, [], _, _, _ => by simp [sets]
  | j :: is, v :: vs, σ, i, h => by
    rw [List.mem_cons, not_or] at h
    rw [sets, sets_get is vs _ i h.2, List.getElem?_set_ne (Ne.symm h.1)]
theorem sets_len : ∀ (is : List Nat) (vs : List V) (σ : L2.St), (sets σ is vs).length = σ.length
  | [], _, _ => by simp [sets]
  | _ :: _, [], _ => by simp [sets]
  | j :: is, v :: vs, σ => by rw [sets, sets_len is vs, List.length_set]
theorem wipe_sets {is own : List Nat} (h : ∀ i ∈ is, i ∈ own) (vs : List V) (σ : L2.St) : L2.wipe (sets (L2.wipe σ own) is vs) own = L2.wipe σ own := by
  apply List.ext_getElem?
  intro i
  rw [wip_get, wip_get]
  by_cases e : i ∈ own
  · rw [if_pos e, if_pos e]
    by_cases hl : i < σ.length
    · rw [List.getElem?_eq_getElem (by rw [sets_len, wipe_length]; exact hl), List.getElem?_eq_getElem hl]; rfl
    · rw [List.getElem?_eq_none (by rw [sets_len, wipe_length]; omega), List.getElem?_eq_none (by omega)]
  · rw [if_neg e, if_neg e, sets_get is vs _ i (fun m => e (h i m)), wip_get]
    exact if_neg e

/-! ### one clause -/
section
variable {K : Kx} {ρ ρ1 : Rh} {H H1 : Hp} {σ : L2.St} {σv : Sv} {h h1 h2 : Hv} {D : Addr}
/-- the state within a comprehension: the list at D, what was made so far -/
structure Bld (K : Kx) (ρ1 : Rh) (H1 : Hp) (D : Addr) (ρ : Rh) (H : Hp) (h : Hv) (acc : List V) (ys : List Va) : Prop where
  d : ρ.d = D :: ρ1.d
  mv : Mv ρ1 H1 ρ H
  hv : HvR K ρ H h
  kd : ∀ a ∈ ρ1.d, H a = H1 a
  at_ : H D = some (.lst acc)
  r : RpL K ρ H acc ys
theorem Bld.begin (hv : HvR K ρ1 H1 h) (hD : H1 D = none) : Bld K ρ1 H1 D ⟨ρ1.c, D :: ρ1.d⟩ (upd H1 D (.lst [])) h [] [] :=
  ⟨rfl, Mv.begin hv hD, hv.begin hD, fun a ha => upd_ne fun e => (hv.out hD).2 (e ▸ ha), upd_same, .nil⟩
theorem Bld.ext {acc : List V} {ys : List Va} {ρ' : Rh} {H' : Hp} {h' : Hv} (B : Bld K ρ1 H1 D ρ H h acc ys) (x : Ext ρ H ρ' H') (hv : HvR K ρ' H' h') : Bld K ρ1 H1 D ρ' H' h' acc ys :=
  ⟨x.hid.trans B.d, B.mv.trans x.toMv, hv, fun a ha => (x.keepD a (by rw [B.d]; exact List.mem_cons_of_mem _ ha)).trans (B.kd a ha), (x.keepD D (by rw [B.d]; exact List.mem_cons_self)).trans B.at_, B.r.mv x.toMv⟩
theorem Bld.push {acc : List V} {ys : List Va} {y : V} {v : Va} (B : Bld K ρ1 H1 D ρ H h acc ys) (hD : D ∉ ρ1.d) (r : Rp K ρ H y v) : Bld K ρ1 H1 D ρ (upd H D (.lst (acc ++ [y]))) h (acc ++ [y]) (ys ++ [v]) := by
  have m : D ∈ ρ.d := by rw [B.d]; exact List.mem_cons_self
  have x := Mv.build (zs := acc ++ [y]) B.hv m
  exact ⟨B.d, B.mv.trans x, B.hv.build m, fun a ha => (upd_ne (fun e : a = D => hD (e ▸ ha))).trans (B.kd a ha), upd_same, (B.r.mv x).append (.cons (r.mv x) .nil)⟩
theorem Bld.done {acc : List V} {ys : List Va} {w : Va} {Q : VK} (B : Bld K ρ1 H1 D ρ H h acc ys) (hD : D ∉ ρ1.d) (k : Kt K ρ1 H1 h (.lst ys) Q) : Q (.ref D) H := by
  obtain ⟨c, d⟩ := ρ
  obtain ⟨rfl⟩ : d = D :: ρ1.d := B.d
  have x : Mv ⟨c, D :: ρ1.d⟩ H ⟨c, ρ1.d⟩ H := Mv.done
  refine k ⟨c, ρ1.d⟩ H (.ref D) ⟨B.mv.trans x, rfl, B.kd⟩ B.hv.done (.inl (.lst (.inl ⟨⟨?_, hD⟩, .inl B.at_⟩) (B.r.mv x)))
  exact (B.hv.dd D List.mem_cons_self).1
variable {b : Bool} {is own : List Nat} {bd : Bd} {tt : BM} {el : EM}
/-- a walk over xs that runs the block -/
theorem lcGo_cons {x : Va} {xs : List Va} {h : Hv} {ys : List Va} {h2 : Hv} (e : lcGo own bd tt el σv (x :: xs) h = some (ys, h2)) :
    ∃ σ1 t h1, bd x (wip σv own) = some σ1 ∧ tt σ1 h = some (t, h1) ∧ ((t = false ∧ lcGo own bd tt el σv xs h1 = some (ys, h2)) ∨
      ∃ y h3 ys', t = true ∧ el σ1 h1 = some (y, h3) ∧ isP y = true ∧ lcGo own bd tt el σv xs h3 = some (ys', h2) ∧ ys = y :: ys') := by
  unfold lcGo at e
  split at e
  · cases e
  · rename_i σ1 e1
    split at e
    · cases e
    · rename_i h1 e2
      exact ⟨σ1, false, h1, e1, e2, .inl ⟨rfl, e⟩⟩
    · rename_i h1 e2
      split at e
      · cases e
      · rename_i y h3 e3
        split at e
        · cases e
        · rename_i e4
          split at e
          · cases e
          · rename_i ys' h4 e5
            cases e
            exact ⟨σ1, true, h1, e1, e2, .inr ⟨y, h3, ys', rfl, e3, e4, e5, rfl⟩⟩
theorem drop_at {xs : List Va} {i : Nat} (h : i < xs.length) : xs.drop i = xs[i] :: xs.drop (i + 1) := List.drop_eq_getElem_cons h
/-- the walk of one clause, from any state within; Fin: what is to hold behind it -/
theorem lc_walk {J : It} {xs : List Va} {ρi : Rh} {Hi : Hp} {hi h2 : Hv} {acc0 : List V} {ys0 ysA : List Va} {σ0 : L2.St} {Fin : Hp → Prop} (hD : D ∉ ρ1.d) (hsub : ∀ i ∈ is, i ∈ own)
    (st : StR K ρi Hi σ0 σv) (ok : ItOk b K ρi Hi J xs) (B : Bld K ρ1 H1 D ρi Hi hi acc0 ys0) (hgo : lcGo own bd tt el σv xs hi = some (ysA, h2)) (hz : ys0.length + xs.length ≤ sizeLine)
    (fin : ∀ ρf Hf acc, Mv ρi Hi ρf Hf → Bld K ρ1 H1 D ρf Hf h2 acc (ys0 ++ ysA) → Fin Hf) :
    ∃ W : Nat → Nat → Hp → Prop, (∃ m, W 0 m Hi) ∧ ∀ i m H, W i m H →
      (J.stop i H ∧ Fin H) ∨ (J.go i H ∧ ∃ Nx : Hp → Prop, (∀ H', Nx H' → ∃ m', m' < m ∧ W (i + 1) m' H') ∧ ∀ x H', J.yld i H x H' → gOf b K is bd x (L2.wipe σ0 own) H' fun σ2 H2 => L2.wipe σ2 own = L2.wipe σ0 own ∧ bOf K tt σ2 H2 fun b H3 =>
        if b = true then eOf K el σ2 H3 fun y H4 => ∃ acc, H4 D = some (.lst acc) ∧ acc.length < sizeLine ∧ Nx (upd H4 D (.lst (acc ++ [y]))) else Nx H3) := by
  refine ⟨fun i m Hc => m = xs.length - i ∧ i ≤ xs.length ∧ ∃ ρc hc acc ys ys2, Mv ρi Hi ρc Hc ∧ Bld K ρ1 H1 D ρc Hc hc acc (ys0 ++ ys) ∧ ys.length ≤ i ∧ ysA = ys ++ ys2 ∧ lcGo own bd tt el σv (xs.drop i) hc = some (ys2, h2),
    ⟨xs.length, rfl, Nat.zero_le _, ρi, hi, acc0, [], ysA, .refl, by rw [List.append_nil]; exact B, Nat.le_refl _, rfl, hgo⟩, ?_⟩
  rintro i m Hc ⟨rfl, hle, ρc, hc, acc, ys, ys2, mvc, Bc, hl, rfl, hg⟩
  obtain ⟨hstep, hstop⟩ := ok ρc Hc hc mvc Bc.hv
  by_cases hlt : i < xs.length
  · right
    obtain ⟨hgo1, hyld⟩ := hstep i xs[i] (List.getElem?_eq_getElem hlt)
    rw [drop_at hlt] at hg
    obtain ⟨σ1, t, h1', e1, e2, e3⟩ := lcGo_cons hg
    refine ⟨hgo1, fun Hn => ∃ ρc hc acc ys ys2', Mv ρi Hi ρc Hn ∧ Bld K ρ1 H1 D ρc Hn hc acc (ys0 ++ ys) ∧ ys.length ≤ i + 1 ∧ _ = ys ++ ys2' ∧ lcGo own bd tt el σv (xs.drop (i + 1)) hc = some (ys2', h2), fun H' p => ⟨xs.length - (i + 1), by omega, rfl, hlt, p⟩, fun v H' hy => ?_⟩
    obtain ⟨xy, hvy, rv⟩ := hyld v H' hy
    have By := Bc.ext xy hvy
    have sty : StR K ρc H' (L2.wipe σ0 own) (wip σv own) := (st.mv (mvc.trans xy.toMv)).wipe own
    refine ⟨ρc, wip σv own, xs[i], σ1, sty, rv, e1, fun vs st1 => ⟨wipe_sets hsub vs σ0, ?_⟩⟩
    refine b_one st1 hvy e2 fun ρ2 H2 x2 st2 hv2 => ?_
    have B2 := By.ext x2 hv2
    have mv2 : Mv ρi Hi ρ2 H2 := (mvc.trans xy.toMv).trans x2.toMv
    rcases e3 with ⟨rfl, e3⟩ | ⟨y, h3, ys', rfl, e3, e4, e5, rfl⟩
    · rw [if_neg Bool.false_ne_true]
      exact ⟨ρ2, h1', acc, ys, ys2, mv2, B2, Nat.le_succ_of_le hl, rfl, e3⟩
    · rw [if_pos rfl]
      refine e_one st2 hv2 e3 fun ρ3 H3 z x3 st3 hv3 r3 => ?_
      have B3 := B2.ext x3 hv3
      have len : acc.length < sizeLine := by
        rw [B3.r.length, List.length_append]
        omega
      refine ⟨acc, B3.at_, len, ρ3, h3, acc ++ [z], ys ++ [y], ys', ?_, ?_, ?_, ?_, e5⟩
      · exact (mv2.trans x3.toMv).trans (Mv.build B3.hv (by rw [B3.d]; exact List.mem_cons_self))
      · rw [← List.append_assoc]
        exact B3.push hD (r3.pure e4)
      · rw [List.length_append, List.length_singleton]
        omega
      · rw [List.append_assoc]
        rfl
  · left
    have ei : i = xs.length := by omega
    subst ei
    rw [List.drop_length] at hg
    unfold lcGo at hg
    cases hg
    rw [List.append_nil] at fin
    exact ⟨hstop, fin ρc Hc acc mvc Bc⟩
theorem lc_ok {it : AM} {Q : VK} (hsub : ∀ i ∈ is, i ∈ own) (hq : eOf K (xLC own it bd tt el) σ H Q) : tLc (iOf b K it) (gOf b K is bd) (bOf K tt) (eOf K el) own σ H Q := by
  obtain ⟨ρ, σv, h, w, h', st, hv, e, k⟩ := hq
  unfold xLC at e
  split at e
  · rename_i xs h1 ei
    split at e
    · rename_i hs
      split at e
      · rename_i ys h2 eg
        cases e
        refine ⟨ρ, σv, h, xs, h1, st, hv, ei, fun ρ1 H1 J x1 hv1 ok D hD => ?_⟩
        have out := hv1.out hD
        have st1 := st.ext x1
        have B0 := Bld.begin hv1 hD
        refine lc_walk (ρ1 := ρ1) (H1 := H1) out.2 hsub (st1.mv (Mv.begin hv1 hD)) (fun ρ' H' h' m hv' => ok ρ' H' h' ((Mv.begin hv1 hD).trans m) hv') B0 eg (by have := short_sz hs; simpa using this) fun ρf Hf acc _ Bf => ?_
        exact Bf.done (w := .non) out.2 fun ρ2 H2 z x2 hv2 r2 => k ρ2 H2 z (x1.trans x2) hv2 r2
      · cases e
    · cases e
  · cases e

/-! ### two clauses -/
variable {bd1 : Bd} {is1 own1 : List Nat} {it1 : AM} {b1 : Bool}
theorem lc2Go_cons {x : Va} {xs : List Va} {h : Hv} {ys : List Va} {h2 : Hv} (e : lc2Go own own1 bd it1 bd1 tt el σv (x :: xs) h = some (ys, h2)) :
    ∃ σ1 zs h1 ys1 h3 ys2, bd x (wip σv own) = some σ1 ∧ it1 σ1 h = some (zs, h1) ∧ short 1000000 zs = true ∧ lcGo own1 bd1 tt el σ1 zs h1 = some (ys1, h3) ∧ lc2Go own own1 bd it1 bd1 tt el σv xs h3 = some (ys2, h2) ∧ ys = ys1 ++ ys2 := by
  unfold lc2Go at e
  split at e
  · cases e
  · rename_i σ1 e1
    split at e
    · cases e
    · rename_i zs h1 e2
      split at e
      · cases e
      · rename_i e0
        split at e
        · cases e
        · rename_i ys1 h3 e3
          split at e
          · cases e
          · rename_i ys2 h4 e4
            cases e
            exact ⟨σ1, zs, h1, ys1, h3, ys2, e1, e2, e0, e3, e4, rfl⟩
theorem lc2_walk {J : It} {xs : List Va} {ρi : Rh} {Hi : Hp} {hi h2 : Hv} {acc0 : List V} {ysA : List Va} {σ0 : L2.St} {Fin : Hp → Prop} (hD : D ∉ ρ1.d) (hsub : ∀ i ∈ is, i ∈ own) (hsub1 : ∀ i ∈ is1, i ∈ own1)
    (st : StR K ρi Hi σ0 σv) (ok : ItOk b K ρi Hi J xs) (B : Bld K ρ1 H1 D ρi Hi hi acc0 []) (hgo : lc2Go own own1 bd it1 bd1 tt el σv xs hi = some (ysA, h2)) (hz : ysA.length < 1000000)
    (fin : ∀ ρf Hf acc, Mv ρi Hi ρf Hf → Bld K ρ1 H1 D ρf Hf h2 acc ysA → Fin Hf) :
    ∃ W : Nat → Nat → Hp → Prop, (∃ m, W 0 m Hi) ∧ ∀ i m H, W i m H →
      (J.stop i H ∧ Fin H) ∨ (J.go i H ∧ ∃ Nx : Hp → Prop, (∀ H', Nx H' → ∃ m', m' < m ∧ W (i + 1) m' H') ∧ ∀ x H', J.yld i H x H' → gOf b K is bd x (L2.wipe σ0 own) H' fun σ2 H2 => L2.wipe σ2 own = L2.wipe σ0 own ∧ L2.tYes σ2 H2 fun b H3 =>
        if b = true then iOf b1 K it1 σ2 H3 fun J1 H4 => ∃ W1 : Nat → Nat → Hp → Prop, (∃ m, W1 0 m H4) ∧ ∀ j k H, W1 j k H →
          (J1.stop j H ∧ Nx H) ∨ (J1.go j H ∧ ∃ Nx1 : Hp → Prop, (∀ H', Nx1 H' → ∃ k', k' < k ∧ W1 (j + 1) k' H') ∧ ∀ x H', J1.yld j H x H' → gOf b1 K is1 bd1 x (L2.wipe σ2 own1) H' fun σ3 H5 => L2.wipe σ3 own1 = L2.wipe σ2 own1 ∧ bOf K tt σ3 H5 fun b H6 =>
            if b = true then eOf K el σ3 H6 fun y H7 => ∃ acc, H7 D = some (.lst acc) ∧ acc.length < sizeLine ∧ Nx1 (upd H7 D (.lst (acc ++ [y]))) else Nx1 H6)
        else Nx H3) := by
  refine ⟨fun i m Hc => m = xs.length - i ∧ i ≤ xs.length ∧ ∃ ρc hc acc ys ys2, Mv ρi Hi ρc Hc ∧ Bld K ρ1 H1 D ρc Hc hc acc ys ∧ ysA = ys ++ ys2 ∧ lc2Go own own1 bd it1 bd1 tt el σv (xs.drop i) hc = some (ys2, h2),
    ⟨xs.length, rfl, Nat.zero_le _, ρi, hi, acc0, [], ysA, .refl, B, rfl, hgo⟩, ?_⟩
  rintro i m Hc ⟨rfl, hle, ρc, hc, acc, ys, ys2, mvc, Bc, rfl, hg⟩
  obtain ⟨hstep, hstop⟩ := ok ρc Hc hc mvc Bc.hv
  by_cases hlt : i < xs.length
  · right
    obtain ⟨hgo1, hyld⟩ := hstep i xs[i] (List.getElem?_eq_getElem hlt)
    rw [drop_at hlt] at hg
    obtain ⟨σ1, zs, h1', ys1, h3, ys2', e1, e2, e0, e3, e4, rfl⟩ := lc2Go_cons hg
    refine ⟨hgo1, fun Hn => ∃ ρc hc acc ys ys2', Mv ρi Hi ρc Hn ∧ Bld K ρ1 H1 D ρc Hn hc acc ys ∧ _ = ys ++ ys2' ∧ lc2Go own own1 bd it1 bd1 tt el σv (xs.drop (i + 1)) hc = some (ys2', h2), fun H' p => ⟨xs.length - (i + 1), by omega, rfl, hlt, p⟩, fun v H' hy => ?_⟩
    obtain ⟨xy, hvy, rv⟩ := hyld v H' hy
    have By := Bc.ext xy hvy
    have sty : StR K ρc H' (L2.wipe σ0 own) (wip σv own) := (st.mv (mvc.trans xy.toMv)).wipe own
    refine ⟨ρc, wip σv own, xs[i], σ1, sty, rv, e1, fun vs st1 => ⟨wipe_sets hsub vs σ0, ?_⟩⟩
    unfold L2.tYes
    dsimp only
    rw [if_pos rfl]
    refine ⟨ρc, σ1, hc, zs, h1', st1, hvy, e2, fun ρ4 H4 J1 x4 hv4 ok1 => ?_⟩
    have B4 := By.ext x4 hv4
    have lz := short_lt e0
    have hly : ys.length < 1000000 := by
      rw [List.length_append] at hz
      omega
    refine lc_walk hD hsub1 (st1.mv x4.toMv) ok1 B4 e3 (by rw [sizeLine_eq]; omega) fun ρf Hf acc' mf Bf => ?_
    exact ⟨ρf, h3, acc', ys ++ ys1, ys2', ((mvc.trans xy.toMv).trans x4.toMv).trans mf, Bf, by rw [List.append_assoc], e4⟩
  · left
    have ei : i = xs.length := by omega
    subst ei
    rw [List.drop_length] at hg
    unfold lc2Go at hg
    cases hg
    rw [List.append_nil] at fin
    exact ⟨hstop, fin ρc Hc acc mvc Bc⟩
theorem lc2_ok {it : AM} {Q : VK} (hsub : ∀ i ∈ is, i ∈ own) (hsub1 : ∀ i ∈ is1, i ∈ own1) (hq : eOf K (xLC2 own own1 it bd it1 bd1 tt el) σ H Q) :
    tLc2 (iOf b K it) (gOf b K is bd) L2.tYes (iOf b1 K it1) (gOf b1 K is1 bd1) (bOf K tt) (eOf K el) own own1 σ H Q := by
  obtain ⟨ρ, σv, h, w, h', st, hv, e, k⟩ := hq
  unfold xLC2 at e
  split at e
  · rename_i xs h1 ei
    split at e
    · rename_i ys h2 eg
      split at e
      · rename_i hs
        cases e
        refine ⟨ρ, σv, h, xs, h1, st, hv, ei, fun ρ1 H1 J x1 hv1 ok D hD => ?_⟩
        have out := hv1.out hD
        have st1 := st.ext x1
        have B0 := Bld.begin hv1 hD
        refine lc2_walk (ρ1 := ρ1) (H1 := H1) out.2 hsub hsub1 (st1.mv (Mv.begin hv1 hD)) (fun ρ' H' h' m hv' => ok ρ' H' h' ((Mv.begin hv1 hD).trans m) hv') B0 eg (short_lt hs) fun ρf Hf acc _ Bf => ?_
        exact Bf.done (w := .non) out.2 fun ρ2 H2 z x2 hv2 r2 => k ρ2 H2 z (x1.trans x2) hv2 r2
      · cases e
    · cases e
  · cases e
end
section
variable {X : Cx} {elt tg iter tg1 iter1 c : Expr} {scope : Scope} {own : List (Str × Nat)} {pos : Pos} {b b1 : Bool} {is is1 own1 : List Nat} {it it1 : AM} {bd bd1 : Bd} {tt : BM} {el : EM}
/-- in every block -/
abbrev Blk (X : Cx) (scope : Scope) (P : Cx → Prop) : Prop := ∀ (s : Shared) (H : Hp) (C : Addr) (cl : List (Str × Addr)) (fp : List Addr), P (X.blk s H scope (compEnvC scope cl C X.env) fp)
theorem tYes_ok {K : Kx} {σ : L2.St} {H : Hp} {Q : Bool → Hp → Prop} (h : bOf K Ev.tYes σ H Q) : Q true H := by
  obtain ⟨ρ, σv, h0, w, h', st, hv, e, k⟩ := h
  cases e
  exact k ρ H .refl hv
theorem se_lc0 (hc : X.calm = true) (hN : X.N.Nodup) (ok : BlkOk X.N X.env.scope scope own) (hi : SI X b tg iter it) (hg : Blk X scope fun Y => SG Y b tg is bd) (he : Blk X scope fun Y => SE Y elt el)
    (hsub : ∀ i ∈ is, i ∈ own.map (·.2) := by decide) (hs : ∀ x, foldedSetIterable iter X.env x = pure x := by intro _; rfl) : SE X (.ListComp elt [⟨tg, iter, [], 0⟩] scope pos) (xLC (own.map (·.2)) it bd Ev.tYes el) :=
  PE.imp (pe_lc (tt := bOf (kx X) Ev.tYes) hc hN hi ok hg (fun s H C cl fp => ⟨fun pins s' σ H' Q I h => (pts_nil (X := X.blk s H scope (compEnvC scope cl C X.env) fp)).run pins s' σ H' Q I (tYes_ok h)⟩) he hs) fun _ _ _ h => lc_ok hsub h
theorem se_lc1 (hc : X.calm = true) (hN : X.N.Nodup) (ok : BlkOk X.N X.env.scope scope own) (hi : SI X b tg iter it) (hg : Blk X scope fun Y => SG Y b tg is bd) (ht : Blk X scope fun Y => SB Y c tt) (he : Blk X scope fun Y => SE Y elt el)
    (hsub : ∀ i ∈ is, i ∈ own.map (·.2) := by decide) (hs : ∀ x, foldedSetIterable iter X.env x = pure x := by intro _; rfl) : SE X (.ListComp elt [⟨tg, iter, [c], 0⟩] scope pos) (xLC (own.map (·.2)) it bd tt el) :=
  PE.imp (pe_lc (tt := bOf (kx X) tt) hc hN hi ok hg (fun s H C cl fp => pts_one (ht s H C cl fp)) he hs) fun _ _ _ h => lc_ok hsub h
/-- two clauses, no condition -/
theorem se_lc2 (hc : X.calm = true) (hN : X.N.Nodup) (ok : BlkOk X.N X.env.scope scope own) (hi : SI X b tg iter it) (hg : Blk X scope fun Y => SG Y b tg is bd) (hi1 : Blk X scope fun Y => SI Y b1 tg1 iter1 it1) (hg1 : Blk X scope fun Y => SG Y b1 tg1 is1 bd1) (he : Blk X scope fun Y => SE Y elt el)
    (hv : ∀ i ∈ own1, i ∈ own.map (·.2) := by decide) (hsub : ∀ i ∈ is, i ∈ own.map (·.2) := by decide) (hsub1 : ∀ i ∈ is1, i ∈ own1 := by decide) (hs : ∀ x, foldedSetIterable iter X.env x = pure x := by intro _; rfl) (hs1 : ∀ env x, foldedSetIterable iter1 env x = pure x := by intro _ _; rfl) :
    SE X (.ListComp elt [⟨tg, iter, [], 0⟩, ⟨tg1, iter1, [], 0⟩] scope pos) (xLC2 (own.map (·.2)) own1 it bd it1 bd1 Ev.tYes el) :=
  PE.imp (pe_lc2 (tt := L2.tYes) (tt1 := bOf (kx X) Ev.tYes) (vs1 := own1) hc hN hi ok hv hg (fun _ _ _ _ _ => pts_nil) hi1 hg1 (fun s H C cl fp => ⟨fun pins s' σ H' Q I h => (pts_nil (X := X.blk s H scope (compEnvC scope cl C X.env) fp)).run pins s' σ H' Q I (tYes_ok h)⟩) he hs hs1) fun _ _ _ h => lc2_ok hsub hsub1 h
end

/-! ### over the keys of a dict -/
section
variable {K : Kx} {ρ ρf : Rh} {H Hf : Hp} {h h2 : Hv} {a : Addr} {n : Nat} {kys : KyT} {kvs : List (List Int × Va)} {od : Obj}
theorem it_ky (he : H a = some (.frz od (dtO K.P K.w a kys))) (r : RpY K ρ H kys kvs) : ItOk false K ρ H (Itky K a od kys) (kvs.map fun p => Va.tup (p.1.map .int)) := by
  intro ρ' H' h' x hv
  have he' := x.frz _ _ _ he
  have r' := r.mw x.w
  refine ⟨fun i z hz => ?_, he', by rw [List.length_map, r.length]; exact Nat.le_refl _⟩
  have hi : i < kys.length := by
    have := (List.getElem?_eq_some_iff.mp hz).1
    rwa [List.length_map, ← r.length] at this
  refine ⟨⟨he', r'.all, hi⟩, fun v H'' hy => ?_⟩
  obtain ⟨rfl, k, b, y, e1, rfl⟩ := hy
  exact ⟨.refl, hv, key_at r' e1 hz⟩
where
  key_at {ρ : Rh} {H : Hp} : ∀ {kys : KyT} {kvs : List (List Int × Va)} {i : Nat} {k : List Int} {b : Addr} {y : V} {z : Va}, RpY K ρ H kys kvs → kys[i]? = some (k, b, y) → (kvs.map fun p => Va.tup (p.1.map .int))[i]? = some z → RpT K ρ H (.ref b) z
  | _, _, _, _, _, _, _, .nil, e, _ => by simp at e
  | _, _, 0, _, _, _, _, .cons q h t, e, f => by
    simp at e f
    obtain ⟨rfl, rfl, rfl⟩ := e
    subst f
    exact .inl (.tup q (se_gtup.ints_rp _))
  | _, _, i + 1, _, _, _, _, .cons q h t, e, f => key_at (i := i) t (by simpa using e) (by simpa using f)
theorem dt_open (K : Kx) (kys : KyT) : (∀ xs, dtO K.P K.w a kys ≠ .tup xs) ∧ (∀ xs, dtO K.P K.w a kys ≠ .lst xs) ∧ ∀ o u, dtO K.P K.w a kys ≠ .frz o u := ⟨fun _ z => (nomatch (show HO.ext _ = HO.tup _ from z)), fun _ z => (nomatch (show HO.ext _ = HO.lst _ from z)), fun _ _ z => (nomatch (show HO.ext _ = HO.frz _ _ from z))⟩
theorem unlock (hv : HvR K ρ H h) (ha : ρ.c[n]? = some a) (hc : h[n]? = some (.dT kvs)) (e : H a = some (dtO K.P K.w a kys)) (x : Ext ρ (upd H a (.frz od (dtO K.P K.w a kys))) ρf Hf) (hvf : HvR K ρf Hf h2) (r : RpY K ρ H kys kvs) :
    Hf a = some (.frz od (dtO K.P K.w a kys)) ∧ Mw ρf Hf ρf (upd Hf a (dtO K.P K.w a kys)) ∧ Ext ρ H ρf (upd Hf a (dtO K.P K.w a kys)) ∧ HvR K ρf (upd Hf a (dtO K.P K.w a kys)) (h2.set n (.dT kvs)) := by
  obtain ⟨o1, o2, o3⟩ := dt_open (a := a) K kys
  have m : a ∈ ρ.c := List.mem_of_getElem? ha
  obtain ⟨t, et⟩ := x.pre
  have mf : a ∈ ρf.c := by rw [et]; exact List.mem_append_left _ m
  have haf : ρf.c[n]? = some a := by
    rw [et, List.getElem?_append_left (List.getElem?_eq_some_iff.mp ha).1]
    exact ha
  have ef : Hf a = some (.frz od (dtO K.P K.w a kys)) := x.frz _ _ _ upd_same
  have w : Mw ρf Hf ρf (upd Hf a (dtO K.P K.w a kys)) := by
    refine ⟨⟨[], by simp⟩, fun b o h1 h2 => ⟨h1, ?_⟩, fun b o xs h1 => ?_⟩
    · rw [upd_ne (fun z : b = a => h1.1 (z ▸ mf))]; exact h2
    · rw [upd_ne (fun z => by subst z; rw [ef] at h1; cases h1)]; exact h1
  have ext : Ext ρ H ρf (upd Hf a (dtO K.P K.w a kys)) := by
    refine ⟨⟨x.pre, fun b o h1 h2 => ?_, fun b xs h1 => ?_, fun b o u h1 => ?_⟩, x.hid, fun b hb => ?_⟩
    · have hne : b ≠ a := fun z => h1.1 (z ▸ m)
      obtain ⟨h3, h4⟩ := x.keep b o h1 (by rw [upd_ne hne]; exact h2)
      exact ⟨h3, by rw [upd_ne hne]; exact h4⟩
    · have hne : b ≠ a := fun z => by
        subst z; rw [e] at h1
        exact o1 _ (Option.some.inj h1)
      rw [upd_ne hne]
      exact x.tup b xs (by rw [upd_ne hne]; exact h1)
    · have hne : b ≠ a := fun z => by
        subst z; rw [e] at h1
        exact o3 _ _ (Option.some.inj h1)
      rw [upd_ne hne]
      exact x.frz b o u (by rw [upd_ne hne]; exact h1)
    · have hne : b ≠ a := fun z => (hv.dd b hb).1 (z ▸ m)
      rw [upd_ne hne, x.keepD b hb, upd_ne hne]
  refine ⟨ef, w, ext, ?_⟩
  refine ⟨by rw [List.length_set]; exact hvf.len, hvf.nd, fun k b c e1 e2 => ?_, fun b hb => ⟨(hvf.dd b hb).1, ?_⟩⟩
  · by_cases hk : n = k
    · subst hk
      rw [haf] at e1; cases e1
      have hn : n < h2.length := by rw [← hvf.len]; exact (List.getElem?_eq_some_iff.mp haf).1
      rw [List.getElem?_set_self hn] at e2
      cases e2
      exact ⟨kys, upd_same, r.mw ext.toMv.w⟩
    · rw [List.getElem?_set_ne hk] at e2
      refine (hvf.at_ k b c e1 e2).ew w (upd_ne fun z => hk ?_)
      subst z
      exact nodup_addr hvf.nd haf e1
  · obtain ⟨h1, xs, h3⟩ := hvf.dd b hb
    exact ⟨xs, by rw [upd_ne (fun z : b = a => h1 (z ▸ mf))]; exact h3⟩
variable {X : Cx} {elt tg c : Expr} {scope : Scope} {own : List (Str × Nat)} {pos p : Pos} {is : List Nat} {bd : Bd} {tt : BM} {el : EM} {x : Str} {i : Nat}
theorem se_lcK (hcalm : X.calm = true) (hN : X.N.Nodup) (ok : BlkOk X.N X.env.scope scope own) (hg : Blk X scope fun Y => SG Y false tg is bd) (ht : Blk X scope fun Y => SB Y c tt) (he : Blk X scope fun Y => SE Y elt el)
    (hsub : ∀ i ∈ is, i ∈ own.map (·.2) := by decide) (hi : X.N[i]? = some x := by rfl) (hv : Vis X.env.scope x := by first | exact Or.inl rfl | exact Or.inr (Or.inl rfl) | exact Or.inr (Or.inr rfl)) (hd : (x == ("__debug__" : Str)) = false := by decide)
    (hcd : (x == ("__classdict__" : Str)) = false := by decide) (hs : ∀ y, foldedSetIterable (.Name x p) X.env y = pure y := by intro _; rfl) : SE X (.ListComp elt [⟨tg, .Name x p, [c], 0⟩] scope pos) (xLCK (own.map (·.2)) i bd tt el) :=
  PE.imp (pe_lock (pe_lc (tt := bOf (kx X) tt) (g := gOf false (kx X) is bd) (te := eOf (kx X) el) hcalm hN (pi_ky (pe_var hi hv hd hcd)) ok hg (fun s H C cl fp => pts_one (ht s H C cl fp)) he hs)) fun σ H Q ⟨ρ, σv, h, w, h', st, hv, eq, k⟩ => by
    unfold xLCK at eq
    split at eq
    · rename_i n en
      split at eq
      · rename_i kvs ec
        split at eq
        · rename_i hz
          split at eq
          · rename_i ys h2 eg
            split at eq
            · rename_i ec2
              cases eq
              obtain ⟨v, e1, r1⟩ := st.nth en
              obtain ⟨a, rfl, ha⟩ := r1.ref
              obtain ⟨kys, e2, r2⟩ := hv.cell ha ec
              rw [cellAt_eq] at ec ec2
              rw [setC_eq] at eg
              obtain ⟨o1, o2, o3⟩ := dt_open (a := a) (kx X) kys
              refine ⟨a, dtO X.prog X.w a kys, e2, True.intro, fun od => ?_⟩
              have x1 : Ext ρ H ρ (upd H a (.frz od (dtO X.prog X.w a kys))) := Ext.write hv ha ec rfl
              have hv1 : HvR (kx X) ρ (upd H a (.frz od (dtO X.prog X.w a kys))) (h.set n .hid) := hv.write ha ec rfl ⟨od, _, upd_same, o1, o2⟩
              refine ⟨.ref a, e1, a, od, kys, rfl, upd_same, fun D hD => ?_⟩
              have out := hv1.out hD
              have st1 := st.ext x1
              have B0 := Bld.begin hv1 hD
              have hlen : kvs.length ≤ sizeLine := short_sz hz
              refine lc_walk (b := false) (ρ1 := ρ) (H1 := upd H a (.frz od (dtO X.prog X.w a kys))) out.2 hsub (st1.mv (Mv.begin hv1 hD)) (it_ky ((Mv.begin hv1 hD).frz _ _ _ upd_same) ((r2.mw x1.toMv.w).mw (Mv.begin hv1 hD).w)) B0 eg (by simpa using hlen) fun ρf Hf acc _ Bf => ?_
              refine Bf.done (w := .non) (Q := fun v H' => H' a = some (.frz od (dtO X.prog X.w a kys)) ∧ Q v (upd H' a (dtO X.prog X.w a kys))) out.2 fun ρ2 H2 z x2 hv2 r3 => ?_
              obtain ⟨u1, u2, u3, u4⟩ := unlock hv ha ec e2 x2 hv2 r2
              refine ⟨u1, k ρ2 _ z u3 ?_ (r3.mw u2)⟩
              rw [setC_eq]
              exact u4
            · cases eq
          · cases eq
        · cases eq
      · cases eq
    · cases eq
end
end Ev
end
section
set_option Elab.async false
set_option linter.all false
set_option maxRecDepth 100000
/-! EvStm: statements. -/
namespace Ev
open PySem PySem.Spec PyProof.Rows L2

/-- what is to hold behind a statement -/
def Aft (K : Kx) (ρ : Rh) (H : Hp) (r : Fl) (D : Ends) : Prop := match r with
  | .nx σv' h' => ∀ ρ' H' σ', Ext ρ H ρ' H' → StR K ρ' H' σ' σv' → HvR K ρ' H' h' → D.nx σ' H'
  | .rt v h' => ∀ ρ' H' x, Ext ρ H ρ' H' → HvR K ρ' H' h' → RpT K ρ' H' x v → D.rt x H'
theorem Aft.ext {K : Kx} {ρ ρ' : Rh} {H H' : Hp} {r : Fl} {D : Ends} (a : Aft K ρ H r D) (x : Ext ρ H ρ' H') : Aft K ρ' H' r D := by
  cases r with
  | nx σv h => exact fun ρ2 H2 σ2 x2 => a ρ2 H2 σ2 (x.trans x2)
  | rt v h => exact fun ρ2 H2 y x2 => a ρ2 H2 y (x.trans x2)
def sOf (K : Kx) (m : SM) : TS := fun D σ H => ∃ ρ σv h r, StR K ρ H σ σv ∧ HvR K ρ H h ∧ m σv h = some r ∧ Aft K ρ H r D
abbrev SS (X : Cx) (s : Stmt) (m : SM) : Prop := PS X s (sOf (kx X) m)
abbrev SSs (X : Cx) (s : List Stmt) (m : SM) : Prop := PSs X s (sOf (kx X) m)
theorem PS.imp {X : Cx} {s : Stmt} {t t' : TS} (h : PS X s t) (k : ∀ D σ H, t' D σ H → t D σ H) : PS X s t' := ⟨fun pins s σ H D I q => h.run pins s σ H D I (k D σ H q)⟩
theorem PSs.imp {X : Cx} {s : List Stmt} {t t' : TS} (h : PSs X s t) (k : ∀ D σ H, t' D σ H → t D σ H) : PSs X s t' := ⟨fun pins s σ H D I q => h.run pins s σ H D I (k D σ H q)⟩

section
variable {X : Cx} {st : Stmt} {sts : List Stmt} {e f g : Expr} {pos p : Pos} {a b c : EM} {s t : SM} {q : BM}
theorem sss_nil : SSs X [] sNil := PSs.imp pss_nil fun D σ H ⟨ρ, σv, h, r, st, hv, e, af⟩ => by
  cases e
  exact af ρ H σ .refl st hv
theorem sss_one (h : SS X st s) : SSs X [st] s := pss_one h
theorem sss_cons (h : SS X st s) (k : SSs X sts t) : SSs X (st :: sts) (sSeq s t) := PSs.imp (pss_cons h k) fun D σ H ⟨ρ, σv, h, r, st, hv, e, af⟩ => by
  unfold sSeq at e
  cases ea : s σv h with
  | none => rw [ea] at e; cases e
  | some r1 =>
    rw [ea] at e
    cases r1 with
    | nx σ1 h1 => exact ⟨ρ, σv, h, _, st, hv, ea, fun ρ' H' σ' x st' hv' => ⟨ρ', σ1, h1, r, st', hv', e, af.ext x⟩⟩
    | rt v h1 =>
      cases e
      exact ⟨ρ, σv, h, _, st, hv, ea, af⟩
theorem ss_never : SS X st sNever := PS.imp ps_never fun D σ H ⟨ρ, σv, h, r, st, hv, e, af⟩ => by cases e
theorem ss_ret (ha : SE X e a) : SS X (.Return (some e) pos) (sRet a) := PS.imp (ps_ret ha) fun D σ H ⟨ρ, σv, h, r, st, hv, eq, af⟩ => by
  unfold sRet at eq
  split at eq
  · rename_i v h1 ea
    cases eq
    exact e_one st hv ea fun ρ1 H1 x x1 st1 hv1 r1 => af ρ1 H1 x x1 hv1 r1
  · cases eq
theorem ss_expr (ha : SE X e a) (hs : swapsWith e none pos.line X.env = pure false := by rfl) : SS X (.Expr e pos) (sExpr a) := PS.imp (ps_expr ha hs) fun D σ H ⟨ρ, σv, h, r, st, hv, eq, af⟩ => by
  unfold sExpr at eq
  split at eq
  · rename_i v h1 ea
    cases eq
    exact e_one st hv ea fun ρ1 H1 x x1 st1 hv1 r1 => af ρ1 H1 σ x1 st1 hv1
  · cases eq
theorem set_ok {K : Kx} {i : Nat} {te : TE} {D : Ends} {σ : L2.St} {H : Hp} (k : ∀ Q, eOf K a σ H Q → te σ H Q) (hq : sOf K (sSet i a) D σ H) : tAsg te (gName i) D σ H := by
  obtain ⟨ρ, σv, h, r, st, hv, eq, af⟩ := hq
  unfold sSet at eq
  split at eq
  · rename_i v h1 ea
    cases eq
    refine k _ (e_one st hv ea fun ρ1 H1 x x1 st1 hv1 r1 => ?_)
    exact af ρ1 H1 _ x1 (StR.set (v := some x) (x := some v) r1 i st1) hv1
  · cases eq
theorem ss_set {i : Nat} {x : Str} {pos' : Pos} (ha : SE X e a) (hN : X.N.Nodup) (hi : X.N[i]? = some x := by rfl) (hx : Loc X.env.scope x := by first | exact Or.inl rfl | exact Or.inr rfl) (hs : swapsWith e (some (.Name x pos')) pos.line X.env = pure false := by rfl)
    (hf : X.fn x = true ∨ X.env.scope.names.lookup x = some .local := by first | exact .inl rfl | exact .inr rfl) : SS X (.Assign [.Name x pos'] e pos) (sSet i a) :=
  PS.imp (ps_set hN hi hx ha hs hf) fun D σ H h => set_ok (fun Q h => h) h
/-- a, b = x, y -/
theorem par_ok {K : Kx} {i j : Nat} {D : Ends} {σ : L2.St} {H : Hp} (hq : sOf K (sPar i j a b) D σ H) : tPar i j (tCons (eOf K a) (tCons (eOf K b) tNil)) D σ H := by
  obtain ⟨ρ, σv, h, r, st, hv, eq, af⟩ := hq
  unfold sPar at eq
  split at eq
  · rename_i v h1 ea
    split at eq
    · rename_i u h2 eb
      cases eq
      refine e_two st hv ea eb fun ρ1 H1 x y x1 st1 hv1 r1 r2 => ⟨x, y, rfl, ?_⟩
      exact af ρ1 H1 _ x1 (StR.set (v := some y) (x := some u) r2 j (StR.set (v := some x) (x := some v) r1 i st1)) hv1
    · cases eq
  · cases eq
theorem ss_par {i j : Nat} {x y : Str} {px py pt pt2 : Pos} {kt k2} (hc : X.calm = true) (ha : SE X e a) (hb : SE X f b) (hN : X.N.Nodup) (hi : X.N[i]? = some x := by rfl) (hj : X.N[j]? = some y := by rfl) (hij : i ≠ j := by decide)
    (hx : X.env.scope.names.lookup x = some .local := by rfl) (hy : X.env.scope.names.lookup y = some .local := by rfl)
    (na : starEach [e, f] X.env = (false, eval e X.env) :: starEach [f] X.env := by rfl) (nb : starEach [f] X.env = (false, eval f X.env) :: starEach [] X.env := by rfl)
    (hw : swappedStores [.Tuple [.Name x px, .Name y py] kt pt] (.Tuple [e, f] k2 pt2) X.env = pure (some [x, y]) := by rfl)
    (hs : swapsWithSole [.Tuple [.Name x px, .Name y py] kt pt] (.Tuple [e, f] k2 pt2) pos.line X.env = pure false := by rfl) :
    SS X (.Assign [.Tuple [.Name x px, .Name y py] kt pt] (.Tuple [e, f] k2 pt2) pos) (sPar i j a b) :=
  PS.imp (ps_par hc hN hi hj hij hx hy (pa_cons ha (pa_cons hb pa_nil nb) na) hw hs) fun D σ H h => par_ok h
/-- .. by way of a tuple -/
theorem ss_parT {i j : Nat} {x y : Str} {px py pt pt2 : Pos} {kt k2} (hc : X.calm = true) (ha : SE X e a) (hb : SE X f b) (hN : X.N.Nodup) (hi : X.N[i]? = some x := by rfl) (hj : X.N[j]? = some y := by rfl)
    (hx : Loc X.env.scope x := by first | exact Or.inl rfl | exact Or.inr rfl) (hy : Loc X.env.scope y := by first | exact Or.inl rfl | exact Or.inr rfl)
    (hfx : X.fn x = true ∨ X.env.scope.names.lookup x = some .local := by first | exact .inl rfl | exact .inr rfl) (hfy : X.fn y = true ∨ X.env.scope.names.lookup y = some .local := by first | exact .inl rfl | exact .inr rfl)
    (na : starEach [e, f] X.env = (false, eval e X.env) :: starEach [f] X.env := by rfl) (nb : starEach [f] X.env = (false, eval f X.env) :: starEach [] X.env := by rfl)
    (hs : swapsWithSole [.Tuple [.Name x px, .Name y py] kt pt] (.Tuple [e, f] k2 pt2) pos.line X.env = pure false := by rfl) (hw : swappedStores [.Tuple [.Name x px, .Name y py] kt pt] (.Tuple [e, f] k2 pt2) X.env = pure none := by rfl)
    (h1 : (assignEach [.Tuple [.Name x px, .Name y py] kt pt] X.env).map (·.2) = [assign (.Tuple [.Name x px, .Name y py] kt pt) X.env] := by rfl)
    (h2 : (assignEach [.Name x px, .Name y py] X.env).map (·.2) = assign (.Name x px) X.env :: (assignEach [.Name y py] X.env).map (·.2) := by rfl) (h3 : (assignEach [.Name y py] X.env).map (·.2) = assign (.Name y py) X.env :: (assignEach [] X.env).map (·.2) := by rfl)
    (h4 : (assignEach [.Name x px, .Name y py] X.env).length = 2 := by rfl) (h5 : (assignEach [.Name x px, .Name y py] X.env).findIdx? (·.1) = none := by rfl) :
    SS X (.Assign [.Tuple [.Name x px, .Name y py] kt pt] (.Tuple [e, f] k2 pt2) pos) (sPar i j a b) :=
  PS.imp (ps_asg (pe_tupN (pa_cons ha (pa_cons hb pa_nil nb) na)) (pg_tup (n := 2) hc (pgs_cons (pg_name hN hi hx hfx) (pgs_cons (pg_name hN hj hy hfy) pgs_nil h3) h2) h4 h5) hs hw h1) fun D σ H ⟨ρ, σv, h, r, st, hv, eq, af⟩ => by
    unfold sPar at eq
    split at eq
    · rename_i v h1 ea
      split at eq
      · rename_i u h2 eb
        cases eq
        refine e_two st hv ea eb fun ρ1 H1 x y x1 st1 hv1 r1 r2 => ⟨by rw [sizeLine_eq]; show 2 ≤ 16777216; decide, fun p o hp hd => ?_⟩
        have x2 := Ext.upd (o := .frz o (.tup [x, y])) hv1 hp
        refine ⟨p, [x, y], rfl, .inl (.inr ⟨o, upd_same⟩), rfl, x, [y], rfl, y, [], rfl, rfl, ?_⟩
        exact af ρ1 _ _ (x1.trans x2) (StR.set (v := some y) (x := some u) (r2.ext x2) j (StR.set (v := some x) (x := some v) (r1.ext x2) i (st1.ext x2))) (hv1.upd hp)
      · cases eq
    · cases eq
/-- a, b, .. = e -/
theorem ss_unp {es : List Expr} {is : List Nat} {pt : Pos} {kt} (hc : X.calm = true) (ha : SE X e a) (h : PGs X es (gsOf is))
    (hs : swapsWithSole [.Tuple es kt pt] e pos.line X.env = pure false := by rfl) (hw : swappedStores [.Tuple es kt pt] e X.env = pure none := by rfl)
    (h1 : (assignEach [.Tuple es kt pt] X.env).map (·.2) = [assign (.Tuple es kt pt) X.env] := by rfl) (hn : (assignEach es X.env).length = is.length := by rfl) (hst : (assignEach es X.env).findIdx? (·.1) = none := by rfl) :
    SS X (.Assign [.Tuple es kt pt] e pos) (sUnp is a) :=
  PS.imp (ps_asg ha (sg_tup (b := false) hc h hn hst) hs hw h1) fun D σ H ⟨ρ, σv, h, r, st, hv, eq, af⟩ => by
    unfold sUnp at eq
    split at eq
    · rename_i v h1 ea
      split at eq
      · rename_i σ1 eb
        cases eq
        exact e_one st hv ea fun ρ1 H1 x x1 st1 hv1 r1 => ⟨ρ1, σv, v, σ1, st1, r1, eb, fun vs st2 => af ρ1 H1 _ x1 st2 hv1⟩
      · cases eq
    · cases eq

/-! ### stores -/
theorem putIx_ok {K : Kx} {ρ : Rh} {H : Hp} {h h4 : Hv} {o i v : Va} {x y z : V} {Q : Hp → Prop} (hv : HvR K ρ H h) (rx : RpT K ρ H x o) (ry : RpT K ρ H y i) (rz : RpT K ρ H z v) (e : putIx h o i v = some h4)
    (k : ∀ H', Ext ρ H ρ H' → HvR K ρ H' h4 → Q H') : rSetL x y z H Q := by
  unfold putIx at e
  split at e
  · rename_i n j hp
    split at e
    · rename_i xs ec
      split at e
      · rename_i m em
        cases e
        obtain ⟨a, rfl, ha⟩ := rx.ref
        obtain ⟨ys, e1, e2⟩ := hv.cell ha ec
        rw [cellAt_eq] at ec
        have r := rz.pure hp
        refine ⟨a, ys, j, m, rfl, ry.int, e1, by rw [e2.length, ← natIx_N]; exact em, ?_⟩
        have x1 : Ext ρ H ρ (upd H a (.lst (ys.set m z))) := Ext.write hv ha ec rfl
        refine k _ x1 ?_
        rw [setC_eq]
        exact hv.write ha ec rfl ⟨_, upd_same, (e2.ext x1).set (r.ext x1) m⟩
      · cases e
    · cases e
  · cases e
theorem ss_ix {tpos : Pos} (ho : SE X e a) (hi : SE X f b) (hv : SE X g c)
    (hs : swapsWithSole [.Subscript e f tpos] g pos.line X.env = pure false := by rfl) (hw : swappedStores [.Subscript e f tpos] g X.env = pure none := by rfl)
    (h1 : (assignEach [.Subscript e f tpos] X.env).map (·.2) = [assign (.Subscript e f tpos) X.env] := by rfl)
    (ha : ∀ v, assign (.Subscript e f tpos) X.env v = (do
      let ov ← holding [v] (eval e X.env)
      let iv ← holding [v, ov] (eval f X.env)
      standAt tpos
      holding [v, ov, iv] (setItem ov iv v)
      release [v, ov, iv] []) := by intro _; rfl) : SS X (.Assign [.Subscript e f tpos] g pos) (sIx a b c) :=
  PS.imp (ps_asg hv (pg_sub ho hi set_list ha) hs hw h1) fun D σ H ⟨ρ, σv, h, r, st, hv, eq, af⟩ => by
    unfold sIx at eq
    split at eq
    · rename_i v h1 ec
      split at eq
      · rename_i ov h2 ea
        split at eq
        · rename_i iv h3 eb
          split at eq
          · rename_i h4 ep
            cases eq
            refine e_one st hv ec fun ρ1 H1 z x1 st1 hv1 r1 => e_two st1 hv1 ea eb fun ρ2 H2 x y x2 st2 hv2 r2 r3 => ?_
            exact putIx_ok hv2 r2 r3 (r1.ext x2) ep fun H' x3 hv3 => af ρ2 H' σ ((x1.trans x2).trans x3) (st2.ext x3) hv3
          · cases eq
        · cases eq
      · cases eq
    · cases eq
/-- x[i], y[j] = a, b -/
theorem ss_ix2 {e2 f2 g2 : Expr} {a2 b2 c2 : EM} {tp tp2 pt pt2 : Pos} {kt k2} (hc : X.calm = true) (ho : SE X e a) (hi : SE X f b) (ho2 : SE X e2 a2) (hi2 : SE X f2 b2) (hv : SE X g c) (hv2 : SE X g2 c2)
    (na : starEach [g, g2] X.env = (false, eval g X.env) :: starEach [g2] X.env := by rfl) (nb : starEach [g2] X.env = (false, eval g2 X.env) :: starEach [] X.env := by rfl)
    (hs : swapsWithSole [.Tuple [.Subscript e f tp, .Subscript e2 f2 tp2] kt pt] (.Tuple [g, g2] k2 pt2) pos.line X.env = pure false := by rfl) (hw : swappedStores [.Tuple [.Subscript e f tp, .Subscript e2 f2 tp2] kt pt] (.Tuple [g, g2] k2 pt2) X.env = pure none := by rfl)
    (h1 : (assignEach [.Tuple [.Subscript e f tp, .Subscript e2 f2 tp2] kt pt] X.env).map (·.2) = [assign (.Tuple [.Subscript e f tp, .Subscript e2 f2 tp2] kt pt) X.env] := by rfl)
    (h2 : (assignEach [.Subscript e f tp, .Subscript e2 f2 tp2] X.env).map (·.2) = assign (.Subscript e f tp) X.env :: (assignEach [.Subscript e2 f2 tp2] X.env).map (·.2) := by rfl) (h3 : (assignEach [.Subscript e2 f2 tp2] X.env).map (·.2) = assign (.Subscript e2 f2 tp2) X.env :: (assignEach [] X.env).map (·.2) := by rfl)
    (h4 : (assignEach [.Subscript e f tp, .Subscript e2 f2 tp2] X.env).length = 2 := by rfl) (h5 : (assignEach [.Subscript e f tp, .Subscript e2 f2 tp2] X.env).findIdx? (·.1) = none := by rfl)
    (ha : ∀ v, assign (.Subscript e f tp) X.env v = (do
      let ov ← holding [v] (eval e X.env)
      let iv ← holding [v, ov] (eval f X.env)
      standAt tp
      holding [v, ov, iv] (setItem ov iv v)
      release [v, ov, iv] []) := by intro _; rfl)
    (ha2 : ∀ v, assign (.Subscript e2 f2 tp2) X.env v = (do
      let ov ← holding [v] (eval e2 X.env)
      let iv ← holding [v, ov] (eval f2 X.env)
      standAt tp2
      holding [v, ov, iv] (setItem ov iv v)
      release [v, ov, iv] []) := by intro _; rfl) :
    SS X (.Assign [.Tuple [.Subscript e f tp, .Subscript e2 f2 tp2] kt pt] (.Tuple [g, g2] k2 pt2) pos) (sIx2 a b a2 b2 c c2) :=
  PS.imp (ps_asg (pe_tupN (pa_cons hv (pa_cons hv2 pa_nil nb) na)) (pg_tup (n := 2) hc (pgs_cons (pg_sub ho hi set_list ha) (pgs_cons (pg_sub ho2 hi2 set_list ha2) pgs_nil h3) h2) h4 h5) hs hw h1) fun D σ H ⟨ρ, σv, h, r, st, hv, eq, af⟩ => by
    unfold sIx2 at eq
    split at eq
    · rename_i v h1 q1
      split at eq
      · rename_i u h2 q2
        split at eq
        · rename_i ov h3 q3
          split at eq
          · rename_i iv h4 q4
            split at eq
            · rename_i h5 q5
              split at eq
              · rename_i ov2 h6 q6
                split at eq
                · rename_i iv2 h7 q7
                  split at eq
                  · rename_i h8 q8
                    cases eq
                    refine e_two st hv q1 q2 fun ρ1 H1 x y x1 st1 hv1 r1 r2 => ⟨by rw [sizeLine_eq]; show 2 ≤ 16777216; decide, fun p o hp hd => ?_⟩
                    have xu := Ext.upd (o := .frz o (.tup [x, y])) hv1 hp
                    refine ⟨p, [x, y], rfl, .inl (.inr ⟨o, upd_same⟩), rfl, x, [y], rfl, ?_⟩
                    refine e_two (st1.ext xu) (hv1.upd hp) q3 q4 fun ρ3 H3 ox iy x3 st3 hv3 r3 r4 => ?_
                    refine putIx_ok hv3 r3 r4 ((r1.ext xu).ext x3) q5 fun H4 x4 hv4 => ?_
                    refine ⟨y, [], rfl, e_two (st3.ext x4) hv4 q6 q7 fun ρ5 H5 ox2 iy2 x5 st5 hv5 r5 r6 => ?_⟩
                    refine putIx_ok hv5 r5 r6 ((((r2.ext xu).ext x3).ext x4).ext x5) q8 fun H6 x6 hv6 => ⟨rfl, ?_⟩
                    exact af ρ5 H6 σ (((((x1.trans xu).trans x3).trans x4).trans x5).trans x6) (st5.ext x6) hv6
                  · cases eq
                · cases eq
              · cases eq
            · cases eq
          · cases eq
        · cases eq
      · cases eq
    · cases eq
theorem putD_ok {K : Kx} {ρ : Rh} {H : Hp} {h h4 : Hv} {d k v : Va} {x y z : V} {Q : Hp → Prop} (hv : HvR K ρ H h) (rx : RpT K ρ H x d) (ry : RpT K ρ H y k) (rz : RpT K ρ H z v) (e : putD h d k v = some h4)
    (kk : ∀ H', Ext ρ H ρ H' → HvR K ρ H' h4 → Q H') : rDp K x y z H Q := by
  unfold putD at e
  split at e
  · rename_i n hp
    have r := rz.pure hp
    obtain ⟨a, rfl, ha⟩ := rx.ref
    split at e
    · rename_i kvs ec
      obtain ⟨kys, e1, e2⟩ := hv.cell ha ec
      rw [cellAt_eq] at ec
      split at e
      · rename_i i hz
        cases e
        left
        have hl : (kI kys).length < sizeLine := by
          have := short_lt hz
          rw [← e2.length] at this
          unfold kI
          rw [List.length_map, sizeLine_eq]
          omega
        obtain ⟨zs, q1, q2⟩ := e2.put i r
        have : y = kV (Sum.inl i) := ry.int
        subst this
        refine ⟨a, _, rfl, DPut.k e1 hl, ?_⟩
        rw [q1]
        have x1 : Ext ρ H ρ (upd H a (.dK (kI zs))) := Ext.write hv ha ec rfl
        refine kk _ x1 ?_
        rw [setC_eq]
        exact hv.write ha ec rfl ⟨zs, upd_same, q2.mw x1.toMv.w⟩
      · cases e
    · rename_i kvs ec
      obtain ⟨kys, e1, e2⟩ := hv.cell ha ec
      rw [cellAt_eq] at ec
      split at e
      · rename_i xs hz
        split at e
        · rename_i is ei
          cases e
          right
          obtain ⟨b, ys, rfl, q1, q2⟩ := ry.tup
          obtain ⟨rfl, _⟩ := ints_ok q2 ei
          have hl : kys.length < sizeLine := by
            have := short_lt hz
            rw [← e2.length] at this
            rw [sizeLine_eq]
            omega
          refine ⟨a, kys, is, b, rfl, rfl, e1, e2.all, q1, hl, ?_⟩
          have x1 : Ext ρ H ρ (upd H a (dtO K.P K.w a (storeT is b z kys))) := Ext.write hv ha ec rfl
          refine kk _ x1 ?_
          rw [setC_eq]
          exact hv.write ha ec rfl ⟨_, upd_same, (e2.put is q1 r).mw x1.toMv.w⟩
        · cases e
      · cases e
    · cases e
  · cases e
theorem ss_dput {tpos : Pos} (hu : X.A.units + 64 < cLine) (ho : SE X e a) (hi : SE X f b) (hv : SE X g c)
    (hs : swapsWithSole [.Subscript e f tpos] g pos.line X.env = pure false := by rfl) (hw : swappedStores [.Subscript e f tpos] g X.env = pure none := by rfl)
    (h1 : (assignEach [.Subscript e f tpos] X.env).map (·.2) = [assign (.Subscript e f tpos) X.env] := by rfl)
    (ha : ∀ v, assign (.Subscript e f tpos) X.env v = (do
      let ov ← holding [v] (eval e X.env)
      let iv ← holding [v, ov] (eval f X.env)
      standAt tpos
      holding [v, ov, iv] (setItem ov iv v)
      release [v, ov, iv] []) := by intro _; rfl) : SS X (.Assign [.Subscript e f tpos] g pos) (sDput a b c) :=
  PS.imp (ps_asg hv (pg_sub ho hi (set_dict hu) ha) hs hw h1) fun D σ H ⟨ρ, σv, h, r, st, hv, eq, af⟩ => by
    unfold sDput at eq
    split at eq
    · rename_i v h1 ec
      split at eq
      · rename_i ov h2 ea
        split at eq
        · rename_i iv h3 eb
          split at eq
          · rename_i h4 ep
            cases eq
            refine e_one st hv ec fun ρ1 H1 z x1 st1 hv1 r1 => e_two st1 hv1 ea eb fun ρ2 H2 x y x2 st2 hv2 r2 r3 => ?_
            exact putD_ok hv2 r2 r3 (r1.ext x2) ep fun H' x3 hv3 => af ρ2 H' σ ((x1.trans x2).trans x3) (st2.ext x3) hv3
          · cases eq
        · cases eq
      · cases eq
    · cases eq

/-! ### a list's methods -/
theorem isL_ok {K : Kx} {ρ : Rh} {H : Hp} {h : Hv} {x : V} {n : Nat} (hv : HvR K ρ H h) (r : RpT K ρ H x (.ref n)) (e : isL h n = true) : ∃ a xs, x = .ref a ∧ ρ.c[n]? = some a ∧ H a = some (.lst xs) := by
  obtain ⟨a, rfl, ha⟩ := r.ref
  unfold isL at e
  split at e
  · rename_i xs ec
    obtain ⟨ys, h1, _⟩ := hv.cell ha ec
    exact ⟨a, ys, rfl, ha, h1⟩
  · cases e
theorem Ext.at {ρ ρ' : Rh} {H H' : Hp} (x : Ext ρ H ρ' H') {n : Nat} {a : Addr} (h : ρ.c[n]? = some a) : ρ'.c[n]? = some a := by
  obtain ⟨t, e⟩ := x.pre
  rw [e, List.getElem?_append_left (List.getElem?_eq_some_iff.mp h).1]
  exact h
variable {apos cpos : Pos}
theorem ss_app (ha : SE X e a) (hb : SE X f b) (hbase : attributeBase e "append" X.env (eval e X.env) = eval e X.env := by rfl)
    (hfew : ((backTo cpos (starEach [f] X.env)).all (fun x => !x.1) && (backToKw cpos (keywordEach [] X.env)).all (fun x => x.1.isSome)
      && decide (([f] : List Expr).length + ([] : List Keyword).length + (if ([] : List Keyword).isEmpty then 0 else 1) < 30)) = true := by rfl)
    (hline : (apos.endLine == cpos.line) = true := by rfl) (hs : starEach [f] X.env = (false, eval f X.env) :: starEach [] X.env := by rfl) (hpl : (backTo cpos (starEach [] X.env)).any (·.1) = false := by rfl)
    (hsw : swapsWith (.Call (.Attribute e "append" apos) [f] [] cpos) none pos.line X.env = pure false := by rfl) : SS X (.Expr (.Call (.Attribute e "append" apos) [f] [] cpos) pos) (sApp a b) :=
  PS.imp (ps_expr (pe_bm PySem.F.plainAttrs_list PySem.F.slot_list_append PySem.F.type_list_append mt_append ha (pa_cons hb pa_nil hs) hbase hfew hline hs hpl) hsw) fun D σ H ⟨ρ, σv, h, r, st, hv, eq, af⟩ => by
    unfold sApp at eq
    split at eq
    · rename_i n h1 ea
      split at eq
      · rename_i el
        split at eq
        · rename_i v h2 eb
          split at eq
          · rename_i xs hp ec
            split at eq
            · rename_i hz
              cases eq
              refine e_one st hv ea fun ρ1 H1 x x1 st1 hv1 r1 => ?_
              obtain ⟨a, ys, rfl, ha, h0⟩ := isL_ok hv1 r1 el
              refine ⟨.inl ⟨rfl, ys, .inl (.inl h0)⟩, e_one st1 hv1 eb fun ρ2 H2 y x2 st2 hv2 r2 => ?_⟩
              have ha2 := x2.at ha
              obtain ⟨zs, q1, q2⟩ := hv2.cell ha2 ec
              rw [cellAt_eq] at ec
              have x3 : Ext ρ2 H2 ρ2 (upd H2 a (.lst (zs ++ [y]))) := Ext.write hv2 ha2 ec rfl
              refine ⟨a, zs, y, rfl, rfl, q1, by rw [q2.length]; have := short_lt hz; rw [sizeLine_eq]; omega, ?_⟩
              refine af ρ2 _ σ ((x1.trans x2).trans x3) (st2.ext x3) ?_
              rw [setC_eq]
              exact hv2.write ha2 ec rfl ⟨_, upd_same, (q2.ext x3).append (.cons ((r2.pure hp).ext x3) .nil)⟩
            · cases eq
          · cases eq
        · cases eq
      · cases eq
    · cases eq
/-- x.extend(y), any list y -/
def rExtX (K : PySem.W.Frag) : V → List V → Hp → VK → Prop := fun x vs H Q => ∃ l b xs zs, x = .ref l ∧ vs = [.ref b] ∧ H l = some (.lst xs) ∧ SqL K H b zs ∧ xs.length + zs.length ≤ sizeLine ∧ Q .non (upd H l (.lst (xs ++ zs)))
theorem mt_extX : MtM X "list.extend" (rExtX X.K) := by
  intro pins s σ H x vs v us Q I rx rv h
  obtain ⟨l, b, xs, zs, rfl, rfl, hH, hB, hz, q⟩ := h
  cases rx
  obtain ⟨u, rfl, ru⟩ := rv.one
  cases ru
  obtain ⟨z, its, n, r, hl, e⟩ := I.lstM hH
  obtain ⟨its2, r2, ⟨⟨cls, dd, data, sl⟩, n2, ho, hc, _, hd⟩, _⟩ := I.list hB
  simp only at hc hd
  subst hc hd
  have hl2 := r2.length
  have hsz : its.toArray.size + its2.toArray.size ≤ sizeLine := by rw [List.size_toArray, List.size_toArray]; omega
  have hlong : ¬ (!its.toArray.isEmpty && Builtin.List.listTooLong (its.toArray.size + its2.toArray.size)) = true := by
    rw [notLongL hsz, Bool.and_false]
    exact Bool.false_ne_true
  refine call_meets F.slot_list_extend ⟨_, e, rfl⟩ F.entry_list_extend (F.args_list_extend_2 _ _)
    (kz_extend l its.toArray n b its2.toArray n2 dd sl hlong (by rw [List.size_toArray]; omega) (by omega)) ⟨e, ho, ?_⟩
  refine ⟨.non, _, I.lset (its' := its ++ its2) hH e (by simp) (r.append r2) ?_, rfl, q⟩
  rw [List.length_append]
  omega
theorem ss_ext (ha : SE X e a) (hb : SE X f b) (hbase : attributeBase e "extend" X.env (eval e X.env) = eval e X.env := by rfl)
    (hfew : ((backTo cpos (starEach [f] X.env)).all (fun x => !x.1) && (backToKw cpos (keywordEach [] X.env)).all (fun x => x.1.isSome)
      && decide (([f] : List Expr).length + ([] : List Keyword).length + (if ([] : List Keyword).isEmpty then 0 else 1) < 30)) = true := by rfl)
    (hline : (apos.endLine == cpos.line) = true := by rfl) (hs : starEach [f] X.env = (false, eval f X.env) :: starEach [] X.env := by rfl) (hpl : (backTo cpos (starEach [] X.env)).any (·.1) = false := by rfl)
    (hsw : swapsWith (.Call (.Attribute e "extend" apos) [f] [] cpos) none pos.line X.env = pure false := by rfl) : SS X (.Expr (.Call (.Attribute e "extend" apos) [f] [] cpos) pos) (sExt a b) :=
  PS.imp (ps_expr (pe_bm PySem.F.plainAttrs_list PySem.F.slot_list_extend PySem.F.type_list_extend mt_extX ha (pa_cons hb pa_nil hs) hbase hfew hline hs hpl) hsw) fun D σ H ⟨ρ, σv, h, r, st, hv, eq, af⟩ => by
    unfold sExt at eq
    split at eq
    · rename_i n h1 ea
      split at eq
      · rename_i el
        split at eq
        · rename_i ys h2 eb
          split at eq
          · rename_i xs ec
            split at eq
            · rename_i hz1 hz2
              cases eq
              refine e_one st hv ea fun ρ1 H1 x x1 st1 hv1 r1 => ?_
              obtain ⟨a, ys0, rfl, ha, h0⟩ := isL_ok hv1 r1 el
              refine ⟨.inl ⟨rfl, ys0, .inl (.inl h0)⟩, e_one st1 hv1 eb fun ρ2 H2 y x2 st2 hv2 r2 => ?_⟩
              have ha2 := x2.at ha
              obtain ⟨zs, q1, q2⟩ := hv2.cell ha2 ec
              obtain ⟨b, us, rfl, q3, q4⟩ := r2.lst
              rw [cellAt_eq] at ec
              have x3 : Ext ρ2 H2 ρ2 (upd H2 a (.lst (zs ++ us))) := Ext.write hv2 ha2 ec rfl
              refine ⟨a, b, zs, us, rfl, rfl, q1, q3.seq, by rw [q2.length, q4.length]; have := short_lt hz1; have := short_lt hz2; rw [sizeLine_eq]; omega, ?_⟩
              refine af ρ2 _ σ ((x1.trans x2).trans x3) (st2.ext x3) ?_
              rw [setC_eq]
              exact hv2.write ha2 ec rfl ⟨_, upd_same, (q2.ext x3).append (q4.ext x3)⟩
            · cases eq
          · cases eq
        · cases eq
      · cases eq
    · cases eq
theorem lastV_eq : ∀ xs : List Va, lastV xs = xs[xs.length - 1]?
  | [] => rfl
  | [x] => rfl
  | x :: y :: r => by
    unfold lastV
    rw [lastV_eq (y :: r)]
    simp
theorem se_pop (ha : SE X e a) (hbase : attributeBase e "pop" X.env (eval e X.env) = eval e X.env := by rfl) (hline : (apos.endLine == cpos.line) = true := by rfl) : SE X (.Call (.Attribute e "pop" apos) [] [] cpos) (xPop a) :=
  PE.imp (pe_bm0 PySem.F.plainAttrs_list PySem.F.slot_list_pop PySem.F.type_list_pop mt_pop ha hbase hline) fun σ H Q ⟨ρ, σv, h, w, h', st, hv, eq, k⟩ => by
    unfold xPop at eq
    split at eq
    · rename_i n h1 ea
      split at eq
      · rename_i xs ec
        split at eq
        · rename_i v el
          cases eq
          refine e_one st hv ea fun ρ1 H1 x x1 st1 hv1 r1 => ?_
          obtain ⟨a, rfl, ha⟩ := r1.ref
          obtain ⟨zs, q1, q2⟩ := hv1.cell ha ec
          rw [cellAt_eq] at ec
          rw [lastV_eq, ← q2.length] at el
          obtain ⟨y, e1, r2⟩ := q2.get el
          refine ⟨.inl ⟨rfl, zs, .inl (.inl q1)⟩, a, zs, y, rfl, rfl, q1, e1, ?_⟩
          have x3 : Ext ρ1 H1 ρ1 (upd H1 a (.lst zs.dropLast)) := Ext.write hv1 ha ec rfl
          refine k ρ1 _ y (x1.trans x3) ?_ (.inl (r2.ext x3))
          rw [setC_eq]
          exact hv1.write ha ec rfl ⟨_, upd_same, (q2.ext x3).dropLast⟩
        · cases eq
      · cases eq
    · cases eq

/-! ### if, for, while -/
variable {body orelse : List Stmt} {tg it : Expr} {ai : AM} {is : List Nat} {bd : Bd} {bb : Bool}
theorem ss_if (hc : SB X e q) (ha : SSs X body s) (hb : SSs X orelse t) : SS X (.If e body orelse pos) (sIf q s t) :=
  PS.imp (ps_if hc ha hb) fun D σ H ⟨ρ, σv, h, r, st, hv, eq, af⟩ => by
    unfold sIf at eq
    split at eq
    · rename_i h1 ea
      refine b_one st hv ea fun ρ1 H1 x1 st1 hv1 => ?_
      rw [if_pos rfl]
      exact ⟨ρ1, σv, h1, r, st1, hv1, eq, af.ext x1⟩
    · rename_i h1 ea
      refine b_one st hv ea fun ρ1 H1 x1 st1 hv1 => ?_
      rw [if_neg Bool.false_ne_true]
      exact ⟨ρ1, σv, h1, r, st1, hv1, eq, af.ext x1⟩
    · cases eq
theorem ss_for (hp : PassesOwn (model X.prog X.w) X.A X.env X.xe) (hc : X.calm = true) (hi : SI X bb tg it ai) (hg : SG X bb tg is bd) (hb : SSs X body s) (hs : ∀ x, foldedSetIterable it X.env x = pure x := by intro _; rfl) : SS X (.For tg it body [] pos) (sFor ai bd s) :=
  PS.imp (ps_for hp hc hi hg hb hs) fun D σ H ⟨ρ, σv, h, r, st, hv, eq, af⟩ => by
    unfold sFor at eq
    split at eq
    · rename_i xs h1 ei
      refine ⟨ρ, σv, h, xs, h1, st, hv, ei, fun ρ1 H1 J x1 hv1 ok => ?_⟩
      have st1 := st.ext x1
      refine ⟨fun i m σc Hc => m = xs.length - i ∧ i ≤ xs.length ∧ ∃ ρc σvc hc, Ext ρ1 H1 ρc Hc ∧ StR (kx X) ρc Hc σc σvc ∧ HvR (kx X) ρc Hc hc ∧ forGo bd s (xs.drop i) σvc hc = some r, ⟨xs.length, rfl, Nat.zero_le _, ρ1, σv, h1, .refl, st1, hv1, eq⟩, ?_⟩
      rintro i m σc Hc ⟨rfl, hle, ρc, σvc, hc, xc, stc, hvc, hg⟩
      obtain ⟨hstep, hstop⟩ := ok ρc Hc hc xc.toMv hvc
      by_cases hlt : i < xs.length
      · right
        obtain ⟨hgo1, hyld⟩ := hstep i xs[i] (List.getElem?_eq_getElem hlt)
        rw [drop_at hlt] at hg
        unfold forGo at hg
        refine ⟨hgo1, fun σn Hn => ∃ ρc σvc hc, Ext ρ1 H1 ρc Hn ∧ StR (kx X) ρc Hn σn σvc ∧ HvR (kx X) ρc Hn hc ∧ forGo bd s (xs.drop (i + 1)) σvc hc = some r, fun σ' H' p => ⟨xs.length - (i + 1), by omega, rfl, hlt, p⟩, fun v H' hy => ?_⟩
        obtain ⟨xy, hvy, rv⟩ := hyld v H' hy
        split at hg
        · cases hg
        · rename_i σ1 e1
          refine ⟨ρc, σvc, xs[i], σ1, stc.ext xy, rv, e1, fun vs st2 => ?_⟩
          have xx := xc.trans xy
          cases eb : s σ1 hc with
          | none => rw [eb] at hg; cases hg
          | some rb =>
            rw [eb] at hg
            refine ⟨ρc, σ1, hc, rb, st2, hvy, eb, ?_⟩
            cases rb with
            | nx σ2 h2 => exact fun ρ' H'' σ' x2 st3 hv3 => ⟨ρ', σ2, h2, xx.trans x2, st3, hv3, hg⟩
            | rt v h2 =>
              cases hg
              exact (af.ext x1).ext xx
      · left
        have ei : i = xs.length := by omega
        subst ei
        rw [List.drop_length] at hg
        unfold forGo at hg
        cases hg
        exact ⟨hstop, af ρc Hc σc (x1.trans xc) stc hvc⟩
    · cases eq
theorem ss_while {n : Nat} (hp : PassesOwn (model X.prog X.w) X.A X.env X.xe) (hc : SB X e q) (hb : SSs X body s) : SS X (.While e body [] pos) (sWhile n q s) :=
  PS.imp (ps_while hp hc hb) fun D σ H ⟨ρ, σv, h, r, st, hv, eq, af⟩ => by
    unfold sWhile at eq
    refine ⟨fun m σc Hc => ∃ ρc σvc hc, Ext ρ H ρc Hc ∧ StR (kx X) ρc Hc σc σvc ∧ HvR (kx X) ρc Hc hc ∧ whGo q s m σvc hc = some r, ⟨n, ρ, σv, h, .refl, st, hv, eq⟩, ?_⟩
    rintro m σc Hc ⟨ρc, σvc, hc, xc, stc, hvc, hg⟩
    cases m with
    | zero => cases hg
    | succ m =>
      unfold whGo at hg
      split at hg
      · rename_i h1 et
        cases hg
        refine b_one stc hvc et fun ρ1 H1 x1 st1 hv1 => ?_
        rw [if_neg Bool.false_ne_true]
        exact af ρ1 H1 σc (xc.trans x1) st1 hv1
      · rename_i h1 et
        refine b_one stc hvc et fun ρ1 H1 x1 st1 hv1 => ?_
        rw [if_pos rfl]
        refine ⟨fun σn Hn => ∃ ρc σvc hc, Ext ρ H ρc Hn ∧ StR (kx X) ρc Hn σn σvc ∧ HvR (kx X) ρc Hn hc ∧ whGo q s m σvc hc = some r, fun σ' H' p => ⟨m, Nat.lt_succ_self m, p⟩, ?_⟩
        have xx := xc.trans x1
        cases eb : s σvc h1 with
        | none => rw [eb] at hg; cases hg
        | some rb =>
          rw [eb] at hg
          refine ⟨ρ1, σvc, h1, rb, st1, hv1, eb, ?_⟩
          cases rb with
          | nx σ2 h2 => exact fun ρ' H'' σ' x2 st3 hv3 => ⟨ρ', σ2, h2, xx.trans x2, st3, hv3, hg⟩
          | rt v h2 =>
            cases hg
            exact af.ext xx
      · cases hg
/-! ### name = [..] on one line -/
variable {elt tg1 iter1 c1 : Expr} {scope : Scope} {own : List (Str × Nat)} {is1 own1 : List Nat} {it1 : AM} {bd1 : Bd} {b1 : Bool} {tt : BM} {el : EM} {i : Nat} {y : Str} {py : Pos}
theorem ss_lc0 {spos : Pos} (hc : X.calm = true) (hN : X.N.Nodup) (ok : BlkOk X.N X.env.scope scope own) (hi : SI X bb tg it ai) (hg : Blk X scope fun Y => SG Y bb tg is bd) (he : Blk X scope fun Y => SE Y elt el)
    (hsub : ∀ i ∈ is, i ∈ own.map (·.2) := by decide) (hy : X.N[i]? = some y := by rfl) (hyl : X.env.scope.names.lookup y = some .local := by rfl)
    (hk : X.env.scope.kind = .function := by rfl) (hl : (py.line == pos.line) = true := by rfl) (hany : (scope.names.any fun (n, k) => n == y && (k == .local || k == .cell)) = false := by rfl) (hs : ∀ x, foldedSetIterable it X.env x = pure x := by intro _; rfl) :
    SS X (.Assign [.Name y py] (.ListComp elt [⟨tg, it, [], 0⟩] scope pos) spos) (sSet i (xLC (own.map (·.2)) ai bd Ev.tYes el)) :=
  PS.imp (ps_setLc (tt := bOf (kx X) Ev.tYes) hc hN hy hyl (sw_true hk hyl hl hany) hi ok hg (fun s H C cl fp => ⟨fun pins s' σ H' Q I h => (pts_nil (X := X.blk s H scope (compEnvC scope cl C X.env) fp)).run pins s' σ H' Q I (tYes_ok h)⟩) he hs) fun D σ H h => set_ok (fun Q h => lc_ok hsub h) h
theorem ss_lc1 {spos : Pos} (hc : X.calm = true) (hN : X.N.Nodup) (ok : BlkOk X.N X.env.scope scope own) (hi : SI X bb tg it ai) (hg : Blk X scope fun Y => SG Y bb tg is bd) (ht : Blk X scope fun Y => SB Y c1 tt) (he : Blk X scope fun Y => SE Y elt el)
    (hsub : ∀ i ∈ is, i ∈ own.map (·.2) := by decide) (hy : X.N[i]? = some y := by rfl) (hyl : X.env.scope.names.lookup y = some .local := by rfl)
    (hk : X.env.scope.kind = .function := by rfl) (hl : (py.line == pos.line) = true := by rfl) (hany : (scope.names.any fun (n, k) => n == y && (k == .local || k == .cell)) = false := by rfl) (hs : ∀ x, foldedSetIterable it X.env x = pure x := by intro _; rfl) :
    SS X (.Assign [.Name y py] (.ListComp elt [⟨tg, it, [c1], 0⟩] scope pos) spos) (sSet i (xLC (own.map (·.2)) ai bd tt el)) :=
  PS.imp (ps_setLc (tt := bOf (kx X) tt) hc hN hy hyl (sw_true hk hyl hl hany) hi ok hg (fun s H C cl fp => pts_one (ht s H C cl fp)) he hs) fun D σ H h => set_ok (fun Q h => lc_ok hsub h) h
theorem ss_lc2 {spos : Pos} (hc : X.calm = true) (hN : X.N.Nodup) (ok : BlkOk X.N X.env.scope scope own) (hi : SI X bb tg it ai) (hg : Blk X scope fun Y => SG Y bb tg is bd) (hi1 : Blk X scope fun Y => SI Y b1 tg1 iter1 it1) (hg1 : Blk X scope fun Y => SG Y b1 tg1 is1 bd1) (he : Blk X scope fun Y => SE Y elt el)
    (hv : ∀ i ∈ own1, i ∈ own.map (·.2) := by decide) (hsub : ∀ i ∈ is, i ∈ own.map (·.2) := by decide) (hsub1 : ∀ i ∈ is1, i ∈ own1 := by decide) (hy : X.N[i]? = some y := by rfl) (hyl : X.env.scope.names.lookup y = some .local := by rfl)
    (hk : X.env.scope.kind = .function := by rfl) (hl : (py.line == pos.line) = true := by rfl) (hany : (scope.names.any fun (n, k) => n == y && (k == .local || k == .cell)) = false := by rfl) (hs : ∀ x, foldedSetIterable it X.env x = pure x := by intro _; rfl) (hs1 : ∀ env x, foldedSetIterable iter1 env x = pure x := by intro _ _; rfl) :
    SS X (.Assign [.Name y py] (.ListComp elt [⟨tg, it, [], 0⟩, ⟨tg1, iter1, [], 0⟩] scope pos) spos) (sSet i (xLC2 (own.map (·.2)) own1 ai bd it1 bd1 Ev.tYes el)) :=
  PS.imp (ps_setLc2 (tt := L2.tYes) (tt1 := bOf (kx X) Ev.tYes) (vs1 := own1) hc hN hy hyl (sw_true hk hyl hl hany) hi ok hv hg (fun _ _ _ _ _ => pts_nil) hi1 hg1 (fun s H C cl fp => ⟨fun pins s' σ H' Q I h => (pts_nil (X := X.blk s H scope (compEnvC scope cl C X.env) fp)).run pins s' σ H' Q I (tYes_ok h)⟩) he hs hs1) fun D σ H h => set_ok (fun Q h => lc2_ok hsub hsub1 h) h
end
end Ev
end
section
set_option Elab.async false
set_option linter.all false
set_option maxRecDepth 100000
/-! EvFn: defs, calls. -/
namespace Ev
open PySem PySem.Spec PyProof.Rows L2

/-- the promise of a def of p parameters that computes g -/
def spOf (K : Kx) (p : Nat) (g : Gm) : Sp := fun vs H Q E => ∃ ρ h us v h', us.length = p ∧ RpTs K ρ H vs us ∧ HvR K ρ H h ∧ g us h = some (v, h') ∧ ∀ ρ' H' x, Ext ρ H ρ' H' → HvR K ρ' H' h' → RpT K ρ' H' x v → Q x H'
theorem spOf_len {K : Kx} {p : Nat} {g : Gm} : ∀ vs H Q E, spOf K p g vs H Q E → vs.length = p := fun vs H Q E ⟨ρ, h, us, v, h', e, r, _⟩ => by rw [r.length]; exact e
/-! ### leaving a def -/
section
variable {K : Kx} {ρ ρ' : Rh} {H H' : Hp} {h h1 : Hv}
mutual
theorem Rp.trunc (k : ∀ a, ρ'.off a → ρ.off a) : ∀ {v : V} {x : Va}, Rp K ρ' H v x → Rp K ρ H v x
  | _, _, .non => .non
  | _, _, .bl b => .bl b
  | _, _, .int i => .int i
  | _, _, .str s => .str s
  | _, _, .tup q r => .tup q (RpL.trunc k r)
  | _, _, .lst q r => .lst (q.elim (fun z => .inl ⟨k _ z.1, z.2⟩) .inr) (RpL.trunc k r)
theorem RpL.trunc (k : ∀ a, ρ'.off a → ρ.off a) : ∀ {ys : List V} {xs : List Va}, RpL K ρ' H ys xs → RpL K ρ H ys xs
  | _, _, .nil => .nil
  | _, _, .cons h t => .cons (Rp.trunc k h) (RpL.trunc k t)
end
theorem RpK.trunc (k : ∀ a, ρ'.off a → ρ.off a) {κ : Type} : ∀ {ys : List (κ × V)} {xs : List (κ × Va)}, RpK K ρ' H ys xs → RpK K ρ H ys xs
  | _, _, .nil => .nil
  | _, _, .cons h t => .cons (h.trunc k) (RpK.trunc k t)
theorem RpY.trunc (k : ∀ a, ρ'.off a → ρ.off a) : ∀ {ys : KyT} {xs : List (List Int × Va)}, RpY K ρ' H ys xs → RpY K ρ H ys xs
  | _, _, .nil => .nil
  | _, _, .cons q h t => .cons q (h.trunc k) (RpY.trunc k t)
theorem CellOk.trunc (k : ∀ a, ρ'.off a → ρ.off a) {a : Addr} {c : Cell} (o : CellOk K ρ' H a c) : CellOk K ρ H a c := by
  cases c with
  | lst xs => obtain ⟨ys, h1, h2⟩ := o; exact ⟨ys, h1, h2.trunc k⟩
  | dI xs => obtain ⟨ys, h1, h2⟩ := o; exact ⟨ys, h1, h2.trunc k⟩
  | dT xs => obtain ⟨ys, h1, h2⟩ := o; exact ⟨ys, h1, h2.trunc k⟩
  | hid => exact o
theorem off_of (x : Ext ρ H ρ' H') : ∀ a, ρ'.off a → ρ.off a := fun a ⟨h1, h2⟩ => by
  obtain ⟨t, e⟩ := x.pre
  exact ⟨fun m => h1 (by rw [e]; exact List.mem_append_left _ m), fun m => h2 (by rw [x.hid]; exact m)⟩
/-- the cells that were made within are dropped -/
theorem Ext.trunc (x : Ext ρ H ρ' H') : Ext ρ H ρ H' :=
  ⟨⟨⟨[], by simp⟩, fun a o h1 h2 => ⟨h1, (x.keep a o h1 h2).2⟩, x.tup, x.frz⟩, rfl, x.keepD⟩
theorem HvR.trunc (hv : HvR K ρ H h) (x : Ext ρ H ρ' H') (hv' : HvR K ρ' H' h1) : HvR K ρ H' (h1.take h.length) := by
  obtain ⟨t, e⟩ := x.pre
  have hl : ρ.c.length ≤ h1.length := by rw [← hv'.len, e, List.length_append]; omega
  refine ⟨by rw [List.length_take, ← hv.len]; omega, hv.nd, fun n a c e1 e2 => ?_, fun a ha => ⟨(hv.dd a ha).1, ?_⟩⟩
  · have e1' : ρ'.c[n]? = some a := by
      rw [e, List.getElem?_append_left (List.getElem?_eq_some_iff.mp e1).1]
      exact e1
    rw [List.getElem?_take] at e2
    split at e2
    · exact (hv'.at_ n a c e1' e2).trunc (off_of x)
    · cases e2
  · exact (hv'.dd a (by rw [x.hid]; exact ha)).2
theorem leave_ok {v w : Va} {h2 : Hv} {x : V} (hv : HvR K ρ H h) (e : Ext ρ H ρ' H') (hv' : HvR K ρ' H' h1) (r : RpT K ρ' H' x v) (l : leave h.length v h1 = some (w, h2)) :
    Ext ρ H ρ H' ∧ HvR K ρ H' h2 ∧ RpT K ρ H' x w := by
  have hT := HvR.trunc hv e hv'
  have ho := off_of e
  refine ⟨e.trunc, ?_⟩
  obtain ⟨t, et⟩ := e.pre
  cases v with
  | ref k =>
    unfold leave at l
    dsimp only at l
    obtain ⟨a, rfl, ha⟩ := r.ref
    split at l
    · rename_i hk
      cases l
      rw [Nat.blt_eq] at hk
      refine ⟨hT, .inr ⟨k, a, rfl, rfl, ?_⟩⟩
      rw [et, List.getElem?_append_left (by rw [hv.len]; exact hk)] at ha
      exact ha
    · rename_i hk
      split at l
      · rename_i xs ec
        cases l
        obtain ⟨ys, h3, h4⟩ := hv'.cell ha ec
        refine ⟨hT, .inl (.lst (.inl ⟨⟨fun m => ?_, fun m => ?_⟩, .inl h3⟩) (h4.trunc ho))⟩
        · obtain ⟨j, hj, ej⟩ := List.mem_iff_getElem.mp m
          have e1 : ρ'.c[j]? = some a := by
            rw [et, List.getElem?_append_left hj, List.getElem?_eq_getElem hj, ej]
          have := nodup_addr hv'.nd e1 ha
          subst this
          rw [hv.len] at hj
          rw [(Nat.blt_eq).mpr hj] at hk
          cases hk
        · exact (hv'.dd a (by rw [e.hid]; exact m)).1 (List.mem_of_getElem? ha)
      · cases l
  | _ =>
    cases l
    exact ⟨hT, .inl ((r.pure rfl).trunc ho)⟩
end

section
variable {P : Program} {w : World} {K : PySem.W.Frag} {mg : Str → Option Value} {base : Heap} {k : Nat} {f : Addr} {fd : FuncData} {x qual : Str} {params : Arguments} {body : List Stmt} {scope : Scope} {dvs : List V} {kws : List (Str × V)} {N ps : List Str} {b : SM}
/-- a body's context -/
abbrev cxB (P : Program) (w : World) (K : PySem.W.Frag) (mg : Str → Option Value) (base : Heap) (N : List Str) (qual : Str) (scope : Scope) (f : Addr) (cdv : Value) (A : Around) (outer : List Env) (s : Shared) (H : Hp) (E : XK) : Cx := (cxOf L2.CX0 P w K mg base N qual scope f cdv A outer s H E).nox
abbrev FnR (P : Program) (w : World) (K : PySem.W.Frag) (mg : Str → Option Value) (base : Heap) (k : Nat) (f : Addr) (fd : FuncData) (ps : List Str) (g : Gm) : Prop := FnOk P w K mg base L2.CX0 k f fd ps (spOf ⟨K, P, w⟩ ps.length g)
theorem start_ok {K : Kx} {ρ : Rh} {H : Hp} {vs : List V} {us : List Va} (r : RpTs K ρ H vs us) : StR K ρ H (L2.start N vs) (entry N.length us) := by
  unfold L2.start entry
  rw [r.length]
  exact StR.start r
theorem fn_ok (F : FunD K x qual params body scope dvs kws f fd) (S : FnScope N ps scope)
    (hb : ∀ (cdv : Value) (A : Around) (outer : List Env) (s : Shared) (H : Hp) (E : XK), Room k (A.deeper (envOfC qual scope s.heap.objs.size f cdv)) → SSs (cxB P w K mg base N qual scope f cdv A outer s H E) body b) :
    FnR P w K mg base (k + 1) f fd ps (fn ps.length N.length b) := by
  refine F.ok S spOf_len fun cdv A outer s H vs Q E hr sp => ⟨_, PSs.nox (hb cdv A outer s H E hr), ?_⟩
  obtain ⟨ρ, h, us, v, h', hl, ru, hv, e, kk⟩ := sp
  unfold fn at e
  split at e
  · split at e
    · rename_i v1 h1 eb
      exact ⟨ρ, _, h, _, start_ok ru, hv, eb, fun ρ' H' x e1 hv1 r1 => by
        obtain ⟨a1, a2, a3⟩ := leave_ok hv e1 hv1 r1 e
        exact kk ρ H' x a1 a2 a3⟩
    · rename_i σ1 h1 eb
      cases e
      exact ⟨ρ, _, h, _, start_ok ru, hv, eb, fun ρ' H' σ' e1 st1 hv1 => kk ρ H' .non e1.trunc (HvR.trunc hv e1 hv1) (.inl .non)⟩
    · cases e
  · cases e
theorem fnK_ok (F : FunD K x qual params body scope dvs kws f fd) (S : FnScope N ps scope)
    (hb : ∀ (cdv : Value) (A : Around) (outer : List Env) (s : Shared) (H : Hp) (E : XK), Room k (A.deeper (envOfC qual scope s.heap.objs.size f cdv)) → SSs (cxB P w K mg base N qual scope f cdv A outer s H E) body b) :
    FnR P w K mg base (k + 1) f fd ps (fnK ps.length N.length b) := by
  refine F.ok S spOf_len fun cdv A outer s H vs Q E hr sp => ⟨_, PSs.nox (hb cdv A outer s H E hr), ?_⟩
  obtain ⟨ρ, h, us, v, h', hl, ru, hv, e, kk⟩ := sp
  unfold fnK at e
  split at e
  · split at e
    · rename_i v1 h1 eb
      cases e
      exact ⟨ρ, _, h, _, start_ok ru, hv, eb, fun ρ' H' x e1 hv1 r1 => kk ρ' H' x e1 hv1 r1⟩
    · cases e
  · cases e
/-- a def of no promise -/
theorem fn_none : FnR P w K mg base k f fd ps (fun _ _ => none) :=
  ⟨spOf_len, fun A outer s H args us vs Q E hr he hb hv ⟨_, _, _, _, _, _, _, _, e, _⟩ => by cases e⟩
end

/-! ### calls -/
/-- g wants p arguments -/
def Ar (g : Gm) (p : Nat) : Prop := ∀ us h r, g us h = some r → us.length = p
theorem ar_fn {p n : Nat} {b : SM} : Ar (fn p n b) p := fun us h r e => by
  unfold fn at e
  split at e
  · rename_i q
    exact Nat.eq_of_beq_eq_true q
  · cases e
theorem ar_fnK {p n : Nat} {b : SM} : Ar (fnK p n b) p := fun us h r e => by
  unfold fnK at e
  split at e
  · rename_i q
    exact Nat.eq_of_beq_eq_true q
  · cases e
theorem ar_none {p : Nat} : Ar (fun _ _ => none) p := fun us h r e => by cases e
/-- default values -/
inductive Dv : List V → List Va → List Value → Prop where
  | nil : Dv [] [] []
  | int (i : Int) (t : Tok) {vs : List V} {us : List Va} {ws : List Value} (h : Dv vs us ws) : Dv (.int i :: vs) (.int i :: us) (.int i t :: ws)
  | str (i : Str) (t : Tok) {vs : List V} {us : List Va} {ws : List Value} (h : Dv vs us ws) : Dv (.str i :: vs) (.str i :: us) (.str i t :: ws)
theorem Dv.rp {K : Kx} {ρ : Rh} {H : Hp} : ∀ {vs : List V} {us : List Va} {ws : List Value}, Dv vs us ws → RpTs K ρ H vs us
  | _, _, _, .nil => .nil
  | _, _, _, .int i t h => .cons (.inl (.int i)) (Dv.rp h)
  | _, _, _, .str i t h => .cons (.inl (.str i)) (Dv.rp h)
theorem Dv.vals : ∀ {vs : List V} {us : List Va} {ws : List Value}, Dv vs us ws → Vals vs ws
  | _, _, _, .nil => .nil
  | _, _, _, .int i t h => .cons ⟨t, rfl⟩ (Dv.vals h)
  | _, _, _, .str i t h => .cons ⟨t, rfl⟩ (Dv.vals h)
section
variable {X : Cx} {e : Expr} {es : List Expr} {pos p : Pos} {a : AM} {g : Gm} {k j : Nat} {f : Addr} {fd : FuncData} {ps : List Str} {dvs : List V} {dus : List Va} {ds : List Value} {fx : Str}
/-- a def that is called: what stands in the module, what it promises -/
structure Cal (P : Program) (w : World) (K : PySem.W.Frag) (mg : Str → Option Value) (base : Heap) (k : Nat) (fx : Str) (ps : List Str) (g : Gm) (dus : List Va) : Prop where
  ex : ∃ (f : Addr) (fd : FuncData) (dvs : List V) (ds : List Value), mg fx = some (.ref f) ∧ PySem.W.keepIn K (.ref f) = true ∧ Binds K fd ps ds ∧ Dv dvs dus ds ∧ FnR P w K mg base k f fd ps g
  ar : Ar g ps.length
theorem call_ok {K : Kx} {σ : L2.St} {H : Hp} {Q : VK} {p : Nat} (ar : Ar g p) (d : Dv dvs dus ds) (hq : eOf K (xCall g a dus) σ H Q) : tCall (spOf K p g) dvs L2.E0 (aOf K a) σ H Q := by
  obtain ⟨ρ, σv, h, w, h', st, hv, eq, k⟩ := hq
  unfold xCall at eq
  split at eq
  · rename_i us h1 ea
    refine a_one st hv ea fun ρ1 H1 xs x1 st1 hv1 r1 => ?_
    exact ⟨ρ1, h1, us ++ dus, w, h', ar _ _ _ eq, r1.append d.rp, hv1, eq, fun ρ2 H2 x x2 hv2 r2 => k ρ2 H2 x (x1.trans x2) hv2 r2⟩
  · cases eq
theorem se_call (C : Cal X.prog X.w X.K X.mg X.base k fx ps g dus) (hr : Room j X.A) (hk : k ≤ j) (ha : SA X (e :: es) a) (hg : Gl X fx := by rfl) (hdb : (fx == ("__debug__" : Str)) = false := by decide)
    (he : starEach (e :: es) X.env = (false, eval e X.env) :: starEach es X.env := by rfl) (hpl : (backTo pos (starEach es X.env)).any (·.1) = false := by rfl) : SE X (.Call (.Name fx p) (e :: es) [] pos) (xCall g a dus) := by
  obtain ⟨f, fd, dvs, ds, hm, hkp, hb, hd, F⟩ := C.ex
  exact PE.imp (pe_call F (hr.mono hk) hg hm hkp hb hd.vals L2.pass0 ha (hdb := hdb) (he := he) (hpl := hpl)) fun _ _ _ h => call_ok C.ar hd h
/-- the call sees its lists as they stand -/
theorem still_ok {K : Kx} {ρ : Rh} {H : Hp} {h : Hv} (hv : HvR K ρ H h) : ∀ {xs : List V} {vs us : List Va}, RpTs K ρ H xs vs → still h vs = some us → RpTs K ⟨[], []⟩ H xs us
  | _, _, _, .nil, e => by cases e; exact .nil
  | y :: _, v :: vs, us, .cons r t, e => by
    have ko : ∀ a, ρ.off a → (⟨[], []⟩ : Rh).off a := fun a _ => ⟨by simp, by simp⟩
    have pure : ∀ (hp : isP v = true) (e : (match still h vs with | some us => some (v :: us) | none => none) = some us), RpTs K ⟨[], []⟩ H (y :: _) us := fun hp e => by
      split at e
      · rename_i us' q
        cases e
        exact .cons (.inl ((r.pure hp).trunc ko)) (still_ok hv t q)
      · cases e
    cases v with
    | ref n =>
      unfold still at e
      split at e
      · rename_i zs us' ec q
        cases e
        obtain ⟨a, rfl, ha⟩ := r.ref
        obtain ⟨ys, h1, h2⟩ := hv.cell ha ec
        exact .cons (.inl (.lst (.inl ⟨⟨by simp, by simp⟩, .inl h1⟩) (h2.trunc ko))) (still_ok hv t q)
      · cases e
    | non => exact pure rfl e
    | bl _ => exact pure rfl e
    | int _ => exact pure rfl e
    | str _ => exact pure rfl e
    | tup _ => exact pure rfl e
    | lst _ => exact pure rfl e
mutual
theorem noL_rp {K : Kx} {ρ ρ' : Rh} {H : Hp} : ∀ {x : V} {v : Va}, Rp K ρ' H x v → noL v = true → Rp K ρ H x v
  | _, _, .non, _ => .non
  | _, _, .bl b, _ => .bl b
  | _, _, .int i, _ => .int i
  | _, _, .str s, _ => .str s
  | _, _, .tup q r, h => .tup q (noLs_rp r (by simpa [noL] using h))
  | _, _, .lst q r, h => by simp [noL] at h
theorem noLs_rp {K : Kx} {ρ ρ' : Rh} {H : Hp} : ∀ {x : List V} {v : List Va}, RpL K ρ' H x v → noLs v = true → RpL K ρ H x v
  | _, _, .nil, _ => .nil
  | _, x :: xs, .cons r t, h => by
    unfold noLs at h
    cases q : noL x with
    | false => rw [q] at h; cases h
    | true =>
      rw [q] at h
      exact .cons (noL_rp r q) (noLs_rp t h)
end
theorem callZ_ok {K : Kx} {σ : L2.St} {H : Hp} {Q : VK} {p : Nat} (ar : Ar g p) (d : Dv dvs dus ds) (hq : eOf K (xCallZ g a dus) σ H Q) : tCall (spOf K p g) dvs L2.E0 (aOf K a) σ H Q := by
  obtain ⟨ρ, σv, h, w, h', st, hv, eq, k⟩ := hq
  unfold xCallZ at eq
  split at eq
  · rename_i us h1 ea
    split at eq
    · rename_i ws es
      split at eq
      · rename_i v h2 eg
        split at eq
        · rename_i hn
          cases eq
          refine a_one st hv ea fun ρ1 H1 xs x1 st1 hv1 r1 => ?_
          have ru := still_ok hv1 (r1.append d.rp) es
          have hv0 : HvR K ⟨[], []⟩ H1 [] := ⟨rfl, List.nodup_nil, fun n a c e => by simp at e, fun a ha => by simp at ha⟩
          refine ⟨⟨[], []⟩, [], ws, w, h2, ar _ _ _ eg, ru, hv0, eg, fun ρ2 H2 x x2 hv2 r2 => ?_⟩
          have keep : ∀ a o, H1 a = some o → H2 a = some o := fun a o e => (x2.keep a o ⟨by simp, by simp⟩ e).2
          have x3 : Ext ρ1 H1 ρ1 H2 := ⟨⟨⟨[], by simp⟩, fun a o h1 h2 => ⟨h1, keep a o h2⟩, x2.tup, x2.frz⟩, rfl, fun a ha => by
            obtain ⟨_, xs, e⟩ := hv1.dd a ha
            rw [e]
            exact keep a _ e⟩
          have hv3 : HvR K ρ1 H2 h' := ⟨hv1.len, hv1.nd, fun n a c e1 e2 => by
            have ok := hv1.at_ n a c e1 e2
            obtain ⟨o, e, _⟩ := ok.there
            exact ok.ext x3.toMv (by rw [e]; exact keep a o e), fun a ha => ⟨(hv1.dd a ha).1, by
            obtain ⟨_, xs, e⟩ := hv1.dd a ha
            exact ⟨xs, keep a _ e⟩⟩⟩
          refine k ρ1 H2 x (x1.trans x3) hv3 (.inl (noL_rp (r2.pure ?_) hn))
          cases w with
          | ref _ => simp [noL] at hn
          | _ => rfl
        · cases eq
      · cases eq
    · cases eq
  · cases eq
theorem se_callZ (C : Cal X.prog X.w X.K X.mg X.base k fx ps g dus) (hr : Room j X.A) (hk : k ≤ j) (ha : SA X (e :: es) a) (hg : Gl X fx := by rfl) (hdb : (fx == ("__debug__" : Str)) = false := by decide)
    (he : starEach (e :: es) X.env = (false, eval e X.env) :: starEach es X.env := by rfl) (hpl : (backTo pos (starEach es X.env)).any (·.1) = false := by rfl) : SE X (.Call (.Name fx p) (e :: es) [] pos) (xCallZ g a dus) := by
  obtain ⟨f, fd, dvs, ds, hm, hkp, hb, hd, F⟩ := C.ex
  exact PE.imp (pe_call F (hr.mono hk) hg hm hkp hb hd.vals L2.pass0 ha (hdb := hdb) (he := he) (hpl := hpl)) fun _ _ _ h => callZ_ok C.ar hd h
end
end Ev
end
section
set_option Elab.async false
set_option linter.all false
set_option maxRecDepth 100000
set_option maxHeartbeats 4000000
/-! EvGen: generators: if, for within their bodies; what they hand out. -/
namespace L2
open PySem PySem.Spec PyProof.Rows GenW

section
variable {M : Model} {A : Around} {R : GenEnd} {Y : Protocol} {n : Nat} {s₀ : Shared} {c : Code} {fs : List Frame} {s : Shared} {env : Env}
  {K : Flow → Sem PySem.Fin} {J : Value → Sem PySem.Fin} {gd : Bool → Bool} {lv : List Value → List Value}
theorem seg_IfG {test : Expr} {body orelse : List Stmt} {pos : Pos}
    (h : wpAny M (A.over c fs) (isTrue test env (eval test env)) (fun b s' => match b with
      | true => Seg M A R Y n s₀ c ((execs body env).wrap K J gd lv) fs s'
      | false => Seg M A R Y n s₀ c ((execs orelse env).wrap K J gd lv) fs s') (fun x s' => Seg M A R Y n s₀ c (J x) fs s') s) :
    Seg M A R Y n s₀ c ((exec (.If test body orelse pos) env).wrap K J gd lv) fs s := by
  rw [exec_If]
  refine seg_bind_wrap (wpAny_standAt ?_)
  refine seg_bind_wrap (wpAny_mono h (fun b s' hb => ?_) fun _ _ x => x)
  cases b with
  | true => exact hb
  | false => exact hb
theorem seg_ForG {target iter : Expr} {body orelse : List Stmt} {pos : Pos} (hs : ∀ x, foldedSetIterable iter env x = pure x)
    (h : wpAny M (A.over c fs) (eval iter env) (fun x s1 => wpAny M (A.over c fs) (pyIter x) (fun it s2 => ∀ p, Seg M A R Y n s₀ (.forLoop target it body orelse env) (M.den (.forLoop target it body orelse env))
      (.ret (fun r => ((match r with | .ok f => (.pure f : Sem Flow) | .error e => .raise e).onRaise fun (x : Value) => do
        if (← field x 1) == Value.none then unsupported "frame.own-activation:exception-without-traceback"
        setFlight x env.frame).wrap K J gd lv) none (gd false) (lv []) c p [] :: fs) s2) (fun x s' => Seg M A R Y n s₀ c (J x) fs s') s1) (fun x s' => Seg M A R Y n s₀ c (J x) fs s') s) :
    Seg M A R Y n s₀ c ((exec (.For target iter body orelse pos) env).wrap K J gd lv) fs s := by
  rw [exec_For]
  refine seg_bind_wrap (wpAny_standAt ?_)
  refine seg_bind_wrap (wpAny_mono h (fun x s1 h1 => ?_) fun _ _ x => x)
  refine seg_bind_wrap (wpAny_of_eq (hs x) ?_)
  refine seg_bind_wrap (wpAny_standAt ?_)
  refine seg_bind_wrap (wpAny_holding (wpAny_mono h1 (fun it s2 h2 => ?_) fun _ _ x => x))
  exact seg_call h2
end
section
variable {prog : Program} {w : World} {A : Around} {R : GenEnd} {Y : Protocol} {n : Nat} {s₀ : Shared} {c : Code} {fs : List Frame} {s : Shared} {env : Env}
abbrev noteJ (env : Env) (e : Value) : Sem PySem.Fin := (do noteFrame e env; theTreesLotGoes e : Sem Unit).wrap (fun _ => .raise e) .raise id id
theorem seg_forLoopG {target : Expr} {it : Value} {body : List Stmt}
    (h : wpAny (model prog w) (A.over c fs) (pyNext it) (fun r s1 => match r with
        | none => Seg (model prog w) A R Y n s₀ c (.pure (.again (.block [] env))) fs s1
        | some v => wpAny (model prog w) (A.over c fs) (letOwnedTupleGo target it v) (fun _ s2 => wpAny (model prog w) (A.over c fs) (assign target env v) (fun _ s3 =>
            Seg (model prog w) A R Y n s₀ c ((execs body env).wrap (fun f => match f with
              | .next | .cont => .pure (.again (.forLoop target it body [] env))
              | .brk => .pure (.done .next)
              | .ret v => .pure (.done (.ret v))) (noteJ env) id id) fs s3) (fun x s' => Seg (model prog w) A R Y n s₀ c (noteJ env x) fs s') s2) (fun x s' => Seg (model prog w) A R Y n s₀ c (noteJ env x) fs s') s1)
      (fun x s' => Seg (model prog w) A R Y n s₀ c (noteJ env x) fs s') s) :
    Seg (model prog w) A R Y n s₀ c ((forTurn target it body [] env).onRaise (fun x => do noteFrame x env; theTreesLotGoes x)) fs s := by
  rw [Sem.onRaise_eq_wrap, Sem.wrap_congr (forTurn target it body [] env) _ _ (K' := fun f => (.pure f : Sem PySem.Fin)) (H' := noteJ env) (fun _ => rfl) (fun e => Sem.bind_eq_wrap _ _)]
  unfold forTurn
  refine seg_bind_wrap (wpAny_standAt ?_)
  refine seg_bind_wrap (wpAny_onRaise (wpAny_mono h (fun r s1 h1 => ?_) fun x s' hx => wpAny_standAt hx))
  cases r with
  | none => exact h1
  | some v =>
    refine seg_bind_wrap (wpAny_mono h1 (fun _ s2 h2 => ?_) fun _ _ x => x)
    refine seg_bind_wrap (wpAny_mono h2 (fun _ s3 h3 => ?_) fun _ _ x => x)
    rw [Sem.bind_eq_wrap', Sem.wrap_wrap]
    refine Eq.mp (congrArg (fun t => Seg (model prog w) A R Y n s₀ c t fs s3) ?_) h3
    exact (Sem.wrap_congr (execs body env) id id (fun f => by cases f <;> rfl) (fun e => rfl)).symm
theorem seg_blockEnd {k : Result → Sem PySem.Fin} {h g l c₁ p₁ kp} (hk : Seg (model prog w) A R Y n s₀ c₁ (k (.ok .next)) fs s) : Seg (model prog w) A R Y n s₀ c (.pure (.again (.block [] env))) (.ret k h g l c₁ p₁ kp :: fs) s := by
  refine seg_again rfl ?_
  exact seg_leaf (.ok .next) hk
end

section
variable {X : Cx} {tg iter : Expr} {body : List Stmt} {pos : Pos}
def tGIf (c : TT) (t u : TGn) : TGn := fun D ys σ H => c σ H fun b H1 => if b = true then t D ys σ H1 else u D ys σ H1
theorem gs_if {e : Expr} {a b : List Stmt} {tc : TT} {t u : TGn} (hc : PT X e tc) (ha : GSs X a t) (hb : GSs X b u) : GS X (.If e a b pos) (tGIf tc t u) := by
  refine ⟨fun A S ip R n ys s₀ c fs K J gd lv s σ H D g hn k hI ht => ?_⟩
  refine seg_IfG ?_
  rw [g.over]
  obtain ⟨acc, cc, r, I⟩ := hI
  refine wpAny_mono (hc.run _ s σ H _ I ht) (fun b' s' hb' => ?_) fun x s' hx => k.exc n s₀ x s' hx
  obtain ⟨H2, I2, q2⟩ := hb'
  cases b' with
  | true =>
    rw [if_pos rfl] at q2
    exact ha.run A S ip R n ys s₀ c fs K J gd lv s' σ H2 D g hn k ⟨acc, cc, r, I2⟩ q2
  | false =>
    rw [if_neg Bool.false_ne_true] at q2
    exact hb.run A S ip R n ys s₀ c fs K J gd lv s' σ H2 D g hn k ⟨acc, cc, r, I2⟩ q2
def tGFor (wi : TI) (g : TG) (tb : TGn) : TGn := fun D ys σ H => wi σ H fun J H1 => ∃ W : Nat → Nat → List V → L2.St → Hp → Prop, (∃ m, W 0 m ys σ H1) ∧ ∀ i m ys σ H, W i m ys σ H →
  (J.stop i H ∧ D.nx ys σ H) ∨ (J.go i H ∧ ∃ N : List V → L2.St → Hp → Prop, (∀ ys' σ' H', N ys' σ' H' → ∃ m', m' < m ∧ W (i + 1) m' ys' σ' H') ∧ ∀ x H', J.yld i H x H' → g x σ H' fun σ2 H2 => tb { D with nx := N, ct := N, bk := D.nx } ys σ2 H2)
theorem gs_for {wi : TI} {g : TG} {tb : TGn} (hp : PassesOwn (model X.prog X.w) X.A X.env X.xe) (hc : X.calm = true) (hi : PI X tg iter wi) (hg : PG X tg g) (hb : GSs X body tb)
    (hs : ∀ x, foldedSetIterable iter X.env x = pure x := by intro _; rfl) : GS X (.For tg iter body [] pos) (tGFor wi g tb) := by
  refine ⟨fun A S ip R n ys s₀ c fs K J gd lv s σ H D gc hn k hI ht => ?_⟩
  obtain ⟨acc, cc, r, I⟩ := hI
  refine seg_ForG hs ?_
  rw [gc.over]
  refine wpAny_mono (hi.run _ s σ H _ I ht) (fun v s1 h1 => ?_) fun x s' hx => k.exc n s₀ x s' hx
  refine wpAny_mono h1 (fun itv s2 h2 => ?_) fun x s' hx => k.exc n s₀ x s' hx
  obtain ⟨it, fp, tn, J', H2, rfl, I2, T, st2, f2, W, ⟨m0, w0⟩, turn⟩ := h2
  intro p
  have gl := fun (kk : Result → Sem PySem.Fin) => gc_loop (k := kk) (c' := .forLoop tg (.ref it) body [] X.env) (l := lv []) (kp := []) (p := p) gc rfl rfl
  have stat : ∀ {H' : Hp} (acc' : Array Value) (cc' : Nat), (∀ b ∈ fp, H' b = none) → ∀ b ∈ fp, FpOk X ((S, lstObj acc' cc') :: ip) H' b := fun {H'} acc' cc' hn b hb => by
    obtain ⟨_, q1, q2, q3, q4, q5⟩ := f2 b hb
    refine ⟨hn b hb, q1, q2, q3, q4, fun q hq => ?_⟩
    rcases List.mem_append.mp hq with z | z
    · exact q5 q (List.mem_append_left _ z)
    · rcases List.mem_cons.mp z with z | z
      · rw [z]; exact q5 (S, lstObj acc cc) (List.mem_append_right _ List.mem_cons_self)
      · exact q5 q (List.mem_append_right _ (List.mem_cons_of_mem _ z))
  have loop : ∀ (m n i : Nat) (ys : List V) (s₀ s : Shared) (σ : L2.St) (H : Hp), n + ys.length = sizeLine → W i m ys σ H → tn i s.heap → (∀ b ∈ fp, H b = none) → GI X S ip ys σ H s →
      Seg (model X.prog X.w) A R (GY X S) n s₀ (.forLoop tg (.ref it) body [] X.env) ((model X.prog X.w).den (.forLoop tg (.ref it) body [] X.env))
        (.ret (fun r => ((match r with | .ok f => (.pure f : Sem Flow) | .error e => .raise e).onRaise (cameBack X.env)).wrap K J gd lv) none (gd false) (lv []) c p [] :: fs) s := by
    intro m
    induction m using Nat.strongRecOn with
    | ind m ih =>
      intro n i ys s₀ s σ H hn w st fr hI
      have ee : ∀ (n : Nat) (s₀ : Shared) (x : Value) (s' : Shared), X.xe x s' → Seg (model X.prog X.w) A R (GY X S) n s₀ (.forLoop tg (.ref it) body [] X.env) (noteJ X.env x)
          (.ret (fun r => ((match r with | .ok f => (.pure f : Sem Flow) | .error e => .raise e).onRaise (cameBack X.env)).wrap K J gd lv) none (gd false) (lv []) c p [] :: fs) s' := fun n s₀ x s' hx => by
        refine seg_wrap ?_
        rw [(gl _).over]
        refine wpAny_bind (wpAny_mono (hp x s' hx) (fun _ s'' hcb => wpAny_theTreesLotGoes ?_) fun y s'' hcb => ?_)
        · exact seg_leaf (.error x) (seg_cameBack gc k hcb)
        · exact seg_leaf (.error y) (seg_cameBack gc k hcb)
      refine seg_forLoopG ?_
      rw [(gl _).over]
      obtain ⟨acc', cc', r', I'⟩ := hI
      rcases turn i m ys σ H w with ⟨stop, qn⟩ | ⟨go, N, hN, step⟩
      · refine wpAny_mono (T.done X rfl rfl rfl hc i _ s σ H X.xe I' (stat acc' cc' fr) st stop) (fun r s4 hr => ?_) fun x s' hx => ee n s₀ x s' hx
        obtain ⟨rfl, I4⟩ := hr
        exact seg_blockEnd (k.ok n ys s₀ s4 .next hn ⟨σ, H, ⟨acc', cc', r', I4⟩, qn⟩)
      · refine wpAny_mono (T.item X rfl rfl rfl hc i _ s σ H X.xe I' (stat acc' cc' fr) st go) (fun r s4 hr => ?_) fun x s' hx => ee n s₀ x s' hx
        obtain ⟨u, rfl, h4⟩ := hr
        refine wpAny_mono h4 (fun _ s5 h5 => ?_) fun x s' hx => ee n s₀ x s' hx
        obtain ⟨x, H5, I5, r5, y5, st5, fr5⟩ := h5
        have I5' := I5.pinned (stat acc' cc' fr5) (T.obj _ _ st5)
        refine wpAny_mono (hg.run _ s5 σ H5 x u _ I5' r5 (step x H5 y5)) (fun _ s6 h6 => ?_) fun x s' hx => ee n s₀ x s' hx
        obtain ⟨σ6, H6, I6, q6⟩ := h6
        have gq : GC X S (ip ++ pinsAt fp s5.heap) A (.forLoop tg (.ref it) body [] X.env) (.ret (fun r => ((match r with | .ok f => (.pure f : Sem Flow) | .error e => .raise e).onRaise (cameBack X.env)).wrap K J gd lv) none (gd false) (lv []) c p [] :: fs) id :=
          ⟨gc.pn, fun q hq => by
              rcases List.mem_append.mp hq with z | z
              · exact gc.ip q z
              · obtain ⟨hb, _⟩ := of_pinsAt z
                obtain ⟨_, _, _, _, _, q5⟩ := f2 q.1 hb
                exact Ne.symm (q5 (S, lstObj acc cc) (List.mem_append_right _ List.mem_cons_self)), gc.apart, (gl _).over, (gl _).split, (gl _).guard, rfl⟩
        have unp : ∀ {ys7 : List V} {σ7 : L2.St} {H7 : Hp} {s7 : Shared}, GI X S (ip ++ pinsAt fp s5.heap) ys7 σ7 H7 s7 → GI X S ip ys7 σ7 H7 s7 := fun {ys7 σ7 H7 s7} hq => by
          obtain ⟨a7, c7, r7, I7⟩ := hq
          exact ⟨a7, c7, r7, Inv.unpinned (pins := (S, lstObj a7 c7) :: ip) (pl := pinsAt fp s5.heap) I7⟩
        refine hb.run A S (ip ++ pinsAt fp s5.heap) R n ys s₀ _ _ _ _ id id s6 σ6 H6 { D with nx := N, ct := N, bk := D.nx } gq hn ⟨fun n' ys' s₀' s7 f hn' hs => ?_, fun n' s₀' x s7 hx => ee n' s₀' x s7 hx⟩ ⟨acc', cc', r', I6⟩ q6
        have again : ∀ {σ7 : L2.St} {H7 : Hp}, GI X S (ip ++ pinsAt fp s5.heap) ys' σ7 H7 s7 → N ys' σ7 H7 → Seg (model X.prog X.w) A R (GY X S) n' s₀' (.forLoop tg (.ref it) body [] X.env) (.pure (.again (.forLoop tg (.ref it) body [] X.env)))
            (.ret (fun r => ((match r with | .ok f => (.pure f : Sem Flow) | .error e => .raise e).onRaise (cameBack X.env)).wrap K J gd lv) none (gd false) (lv []) c p [] :: fs) s7 := fun {σ7 H7} G7 n7 => by
          obtain ⟨m', hm, w7⟩ := hN ys' σ7 H7 n7
          have G8 := unp G7
          obtain ⟨a7, c7, r7, I7⟩ := G7
          have hpin : ∀ (b : Addr) (o : Obj), b ∈ fp → s5.heap.get? b = some o → (b, o) ∈ X.pn ++ ((S, lstObj a7 c7) :: (ip ++ pinsAt fp s5.heap)) := fun b o hb e => List.mem_append_right _ (List.mem_cons_of_mem _ (List.mem_append_right _ (mem_pinsAt hb e)))
          refine seg_again rfl (ih m' hm n' (i + 1) ys' s₀' s7 σ7 H7 hn' w7 (T.keep _ _ _ st5 fun b hb o e => (I7.pin (b, o) (hpin b o hb e)).1) (fun b hb => ?_) G8)
          obtain ⟨o, e, d⟩ := T.obj _ _ st5 b hb
          exact (I7.pin (b, o) (hpin b o hb e)).2.1
        cases f with
        | next =>
          obtain ⟨σ7, H7, G7, n7⟩ := hs
          exact again G7 n7
        | cont =>
          obtain ⟨σ7, H7, G7, n7⟩ := hs
          exact again G7 n7
        | brk =>
          obtain ⟨σ7, H7, G7, q7⟩ := hs
          exact seg_leaf (.ok .next) (k.ok n' ys' s₀' s7 .next hn' ⟨σ7, H7, unp G7, q7⟩)
        | ret v =>
          obtain ⟨x7, σ7, H7, G7, r7, q7⟩ := hs
          exact seg_leaf (.ok (.ret v)) (k.ok n' ys' s₀' s7 (.ret v) hn' ⟨x7, σ7, H7, unp G7, r7, q7⟩)
  exact loop m0 n 0 ys s₀ s2 σ H2 hn w0 st2 (fun b hb => (f2 b hb).1) ⟨acc, cc, r, I2⟩
end
end L2

namespace Ev
open PySem PySem.Spec PyProof.Rows L2 GenW

/-- what is to hold behind a statement of a generator -/
def AftY (K : Kx) (ρ : Rh) (H : Hp) (r : Yl) (D : GEnds) : Prop := match r with
  | .nx yv' σv' h' => ∀ ρ' H' ys' σ', Ext ρ H ρ' H' → RpL K ρ' H' ys' yv' → StR K ρ' H' σ' σv' → HvR K ρ' H' h' → D.nx ys' σ' H'
  | .rt _ _ => False
theorem AftY.ext {K : Kx} {ρ ρ' : Rh} {H H' : Hp} {r : Yl} {D : GEnds} (a : AftY K ρ H r D) (x : Ext ρ H ρ' H') : AftY K ρ' H' r D := by
  cases r with
  | nx yv σv h => exact fun ρ2 H2 ys2 σ2 x2 => a ρ2 H2 ys2 σ2 (x.trans x2)
  | rt v h => exact a
def yOf (K : Kx) (m : YM) : TGn := fun D ys σ H => ∃ ρ yv σv h r, RpL K ρ H ys yv ∧ StR K ρ H σ σv ∧ HvR K ρ H h ∧ m yv σv h = some r ∧ AftY K ρ H r D
abbrev SY (X : Cx) (s : Stmt) (m : YM) : Prop := GS X s (yOf (kx X) m)
abbrev SYs (X : Cx) (s : List Stmt) (m : YM) : Prop := GSs X s (yOf (kx X) m)
theorem GS.imp {X : Cx} {s : Stmt} {t t' : TGn} (h : GS X s t) (k : ∀ D ys σ H, t' D ys σ H → t D ys σ H) : GS X s t' := ⟨fun A S ip R n ys s₀ c fs K J gd lv s σ H D g hn kk hI ht => h.run A S ip R n ys s₀ c fs K J gd lv s σ H D g hn kk hI (k D ys σ H ht)⟩
theorem GSs.imp {X : Cx} {s : List Stmt} {t t' : TGn} (h : GSs X s t) (k : ∀ D ys σ H, t' D ys σ H → t D ys σ H) : GSs X s t' := ⟨fun A S ip R n ys s₀ c fs K J gd lv s σ H D g hn kk hI ht => h.run A S ip R n ys s₀ c fs K J gd lv s σ H D g hn kk hI (k D ys σ H ht)⟩
section
variable {X : Cx} {st : Stmt} {sts : List Stmt} {e : Expr} {pos yp : Pos} {a : EM} {s t : YM} {q : BM} {ps : SM}
theorem sys_nil : SYs X [] yNil := GSs.imp gss_nil fun D ys σ H ⟨ρ, yv, σv, h, r, ry, st, hv, e, af⟩ => by
  cases e
  exact af ρ H ys σ .refl ry st hv
theorem sys_cons (h : SY X st s) (k : SYs X sts t) : SYs X (st :: sts) (ySeq s t) := GSs.imp (gss_cons h k) fun D ys σ H ⟨ρ, yv, σv, h, r, ry, st, hv, e, af⟩ => by
  unfold ySeq at e
  cases ea : s yv σv h with
  | none => rw [ea] at e; cases e
  | some r1 =>
    rw [ea] at e
    cases r1 with
    | nx ys1 σ1 h1 => exact ⟨ρ, yv, σv, h, _, ry, st, hv, ea, fun ρ' H' ys' σ' x ry' st' hv' => ⟨ρ', ys1, σ1, h1, r, ry', st', hv', e, af.ext x⟩⟩
    | rt v h1 =>
      cases e
      exact af.elim
theorem sys_one (h : SY X st s) : SYs X [st] s := GSs.imp (gss_cons h gss_nil) fun D ys σ H ⟨ρ, yv, σv, h, r, ry, st, hv, e, af⟩ => by
  refine ⟨ρ, yv, σv, h, r, ry, st, hv, e, ?_⟩
  cases r with
  | nx ys1 σ1 h1 => exact af
  | rt v h1 => exact af.elim
theorem sy_plain (h : SS X st ps) : SY X st (yPlain ps) := GS.imp (gs_ps h) fun D ys σ H ⟨ρ, yv, σv, h, r, ry, st, hv, e, af⟩ => by
  unfold yPlain at e
  split at e
  · rename_i σ1 h1 ea
    cases e
    exact ⟨ρ, σv, h, _, st, hv, ea, fun ρ' H' σ' x st' hv' => af ρ' H' ys σ' x (ry.ext x) st' hv'⟩
  · cases e
theorem sy_yield (he : SE X e a) (hco : X.env.scope.isCoroutine = false := by rfl) (hi : interactive X.env = false := by rfl) : SY X (.Expr (.Yield (some e) yp) pos) (yYield a) := GS.imp (gs_yield he hco hi) fun D ys σ H ⟨ρ, yv, σv, h, r, ry, st, hv, eq, af⟩ => by
  unfold yYield at eq
  split at eq
  · rename_i v h1 ea
    split at eq
    · rename_i hp hz
      cases eq
      refine ⟨by rw [ry.length]; have := short_lt hz; rw [sizeLine_eq]; omega, e_one st hv ea fun ρ1 H1 x x1 st1 hv1 r1 => ?_⟩
      exact af ρ1 H1 _ σ x1 ((ry.ext x1).append (.cons (r1.pure hp) .nil)) st1 hv1
    · cases eq
  · cases eq
variable {body orelse : List Stmt} {tg it : Expr} {ai : AM} {is : List Nat} {bd : Bd} {bb : Bool}
theorem sy_if (hc : SB X e q) (ha : SYs X body s) (hb : SYs X orelse t) : SY X (.If e body orelse pos) (yIf q s t) :=
  GS.imp (gs_if hc ha hb) fun D ys σ H ⟨ρ, yv, σv, h, r, ry, st, hv, eq, af⟩ => by
    unfold yIf at eq
    split at eq
    · rename_i h1 ea
      refine b_one st hv ea fun ρ1 H1 x1 st1 hv1 => ?_
      rw [if_pos rfl]
      exact ⟨ρ1, yv, σv, h1, r, ry.ext x1, st1, hv1, eq, af.ext x1⟩
    · rename_i h1 ea
      refine b_one st hv ea fun ρ1 H1 x1 st1 hv1 => ?_
      rw [if_neg Bool.false_ne_true]
      exact ⟨ρ1, yv, σv, h1, r, ry.ext x1, st1, hv1, eq, af.ext x1⟩
    · cases eq
theorem sy_for (hp : PassesOwn (model X.prog X.w) X.A X.env X.xe) (hc : X.calm = true) (hi : SI X bb tg it ai) (hg : SG X bb tg is bd) (hb : SYs X body s) (hs : ∀ x, foldedSetIterable it X.env x = pure x := by intro _; rfl) : SY X (.For tg it body [] pos) (yFor ai bd s) :=
  GS.imp (gs_for hp hc hi hg hb hs) fun D ys σ H ⟨ρ, yv, σv, h, r, ry, st, hv, eq, af⟩ => by
    unfold yFor at eq
    split at eq
    · rename_i xs h1 ei
      refine ⟨ρ, σv, h, xs, h1, st, hv, ei, fun ρ1 H1 J x1 hv1 ok => ?_⟩
      have st1 := st.ext x1
      refine ⟨fun i m ysc σc Hc => m = xs.length - i ∧ i ≤ xs.length ∧ ∃ ρc yvc σvc hc, Ext ρ1 H1 ρc Hc ∧ RpL (kx X) ρc Hc ysc yvc ∧ StR (kx X) ρc Hc σc σvc ∧ HvR (kx X) ρc Hc hc ∧ yForGo bd s (xs.drop i) yvc σvc hc = some r, ⟨xs.length, rfl, Nat.zero_le _, ρ1, yv, σv, h1, .refl, ry.ext x1, st1, hv1, eq⟩, ?_⟩
      rintro i m ysc σc Hc ⟨rfl, hle, ρc, yvc, σvc, hc, xc, ryc, stc, hvc, hg⟩
      obtain ⟨hstep, hstop⟩ := ok ρc Hc hc xc.toMv hvc
      by_cases hlt : i < xs.length
      · right
        obtain ⟨hgo1, hyld⟩ := hstep i xs[i] (List.getElem?_eq_getElem hlt)
        rw [drop_at hlt] at hg
        unfold yForGo at hg
        refine ⟨hgo1, fun ysn σn Hn => ∃ ρc yvc σvc hc, Ext ρ1 H1 ρc Hn ∧ RpL (kx X) ρc Hn ysn yvc ∧ StR (kx X) ρc Hn σn σvc ∧ HvR (kx X) ρc Hn hc ∧ yForGo bd s (xs.drop (i + 1)) yvc σvc hc = some r, fun ys' σ' H' p => ⟨xs.length - (i + 1), by omega, rfl, hlt, p⟩, fun v H' hy => ?_⟩
        obtain ⟨xy, hvy, rv⟩ := hyld v H' hy
        split at hg
        · cases hg
        · rename_i σ1 e1
          refine ⟨ρc, σvc, xs[i], σ1, stc.ext xy, rv, e1, fun vs st2 => ?_⟩
          have xx := xc.trans xy
          cases eb : s yvc σ1 hc with
          | none => rw [eb] at hg; cases hg
          | some rb =>
            rw [eb] at hg
            refine ⟨ρc, yvc, σ1, hc, rb, ryc.ext xy, st2, hvy, eb, ?_⟩
            cases rb with
            | nx ys2 σ2 h2 => exact fun ρ' H'' ys' σ' x2 ry3 st3 hv3 => ⟨ρ', ys2, σ2, h2, xx.trans x2, ry3, st3, hv3, hg⟩
            | rt v h2 =>
              cases hg
              exact af.elim
      · left
        have ei : i = xs.length := by omega
        subst ei
        rw [List.drop_length] at hg
        unfold yForGo at hg
        cases hg
        exact ⟨hstop, af ρc Hc ysc σc (x1.trans xc) ryc stc hvc⟩
    · cases eq
theorem sy_while {n : Nat} (hp : PassesOwn (model X.prog X.w) X.A X.env X.xe) (hc : SB X e q) (hb : SYs X body s) : SY X (.While e body [] pos) (yWhile n q s) :=
  GS.imp (gs_while hp hc hb) fun D ys σ H ⟨ρ, yv, σv, h, r, ry, st, hv, eq, af⟩ => by
    unfold yWhile at eq
    refine ⟨fun m ysc σc Hc => ∃ ρc yvc σvc hc, Ext ρ H ρc Hc ∧ RpL (kx X) ρc Hc ysc yvc ∧ StR (kx X) ρc Hc σc σvc ∧ HvR (kx X) ρc Hc hc ∧ yWhGo q s m yvc σvc hc = some r, ⟨n, ρ, yv, σv, h, .refl, ry, st, hv, eq⟩, ?_⟩
    rintro m ysc σc Hc ⟨ρc, yvc, σvc, hc, xc, ryc, stc, hvc, hg⟩
    cases m with
    | zero => cases hg
    | succ m =>
      unfold yWhGo at hg
      split at hg
      · rename_i h1 et
        cases hg
        refine b_one stc hvc et fun ρ1 H1 x1 st1 hv1 => ?_
        rw [if_neg Bool.false_ne_true]
        exact af ρ1 H1 ysc σc (xc.trans x1) (ryc.ext x1) st1 hv1
      · rename_i h1 et
        refine b_one stc hvc et fun ρ1 H1 x1 st1 hv1 => ?_
        rw [if_pos rfl]
        refine ⟨fun ysn σn Hn => ∃ ρc yvc σvc hc, Ext ρ H ρc Hn ∧ RpL (kx X) ρc Hn ysn yvc ∧ StR (kx X) ρc Hn σn σvc ∧ HvR (kx X) ρc Hn hc ∧ yWhGo q s m yvc σvc hc = some r, fun ys' σ' H' p => ⟨m, Nat.lt_succ_self m, p⟩, ?_⟩
        have xx := xc.trans x1
        cases eb : s yvc σvc h1 with
        | none => rw [eb] at hg; cases hg
        | some rb =>
          rw [eb] at hg
          refine ⟨ρ1, yvc, σvc, h1, rb, ryc.ext x1, st1, hv1, eb, ?_⟩
          cases rb with
          | nx ys2 σ2 h2 => exact fun ρ' H'' ys' σ' x2 ry3 st3 hv3 => ⟨ρ', ys2, σ2, h2, xx.trans x2, ry3, st3, hv3, hg⟩
          | rt v h2 =>
            cases hg
            exact af.elim
      · cases hg
end

/-! ### generator defs -/
/-- the promise of a generator def of p parameters that hands out what g says -/
def spG (K : Kx) (p : Nat) (g : Gg) : SpG := fun vs H Q E => ∃ ρ h us xs h', us.length = p ∧ RpTs K ρ H vs us ∧ HvR K ρ H h ∧ g us h = some (xs, h') ∧ ∀ ρ' H' ys, Ext ρ H ρ' H' → HvR K ρ' H' h' → RpL K ρ' H' ys xs → Q ys H'
theorem spG_len {K : Kx} {p : Nat} {g : Gg} : ∀ vs H Q E, spG K p g vs H Q E → vs.length = p := fun vs H Q E ⟨ρ, h, us, v, h', e, r, _⟩ => by rw [r.length]; exact e
section
variable {P : Program} {w : World} {K : PySem.W.Frag} {mg : Str → Option Value} {base : Heap} {k : Nat} {f : Addr} {fd : FuncData} {x qual : Str} {params : Arguments} {body : List Stmt} {scope : Scope} {dvs : List V} {kws : List (Str × V)} {N ps : List Str} {b : YM}
abbrev GnR (P : Program) (w : World) (K : PySem.W.Frag) (mg : Str → Option Value) (base : Heap) (k : Nat) (f : Addr) (fd : FuncData) (ps : List Str) (g : Gg) : Prop := GFn P w K mg base k f fd ps (spG ⟨K, P, w⟩ ps.length g)
theorem gfn_ok (F : FunD K x qual params body scope dvs kws f fd) (S : GScope N ps scope)
    (hb : ∀ (cdv : Value) (A : Around) (outer : List Env) (s : Shared) (H : Hp) (E : XK) (pn : List (Addr × Obj)), Room k (A.deeper (envOfC qual scope s.heap.objs.size f cdv)) → SYs (gcxOf P w K mg base N qual scope f cdv A outer s H E pn) body b) :
    GnR P w K mg base (k + 1) f fd ps (gen ps.length N.length b) := by
  obtain ⟨oc, od, dV, kV, doc, pm, an, cdv, ct, osl, rfl, lk, hcd, _, _⟩ := F.ex
  refine gfn_of lk hcd S spG_len fun A outer s H vs Q E pn hr sp => ⟨_, hb cdv A outer s H E pn hr, ?_⟩
  obtain ⟨ρ, h, us, v, h', hl, ru, hv, e, kk⟩ := sp
  unfold gen at e
  split at e
  · split at e
    · rename_i ys1 σ1 h1 eb
      cases e
      exact ⟨ρ, [], _, h, _, .nil, start_ok ru, hv, eb, fun ρ' H' ys' σ' e1 ry st1 hv1 => kk ρ H' ys' e1.trunc (HvR.trunc hv e1 hv1) (ry.trunc (off_of e1))⟩
    · cases e
  · cases e
/-- a generator def that is called -/
structure CalG (P : Program) (w : World) (K : PySem.W.Frag) (mg : Str → Option Value) (base : Heap) (k : Nat) (fx : Str) (ps : List Str) (g : Gg) : Prop where
  ex : ∃ (f : Addr) (fd : FuncData), mg fx = some (.ref f) ∧ PySem.W.keepIn K (.ref f) = true ∧ Binds K fd ps [] ∧ GnR P w K mg base k f fd ps g
  ar : ∀ us h r, g us h = some r → us.length = ps.length
theorem ar_gen {p n : Nat} {b : YM} : ∀ us h r, gen p n b us h = some r → us.length = p := fun us h r e => by
  unfold gen at e
  split at e
  · rename_i q
    exact Nat.eq_of_beq_eq_true q
  · cases e
theorem passG {X : Cx} : Passes (CX X.prog X.w) X L2.E0 := fun pins σ H sc e s' I c => by
  obtain ⟨a, B, H', cls, d, _, _, _, _, _, _, _, hW⟩ := c
  exact False.elim hW
end
section
variable {X : Cx} {e : Expr} {es : List Expr} {pos p pos' p' : Pos} {a : AM} {g : Gg} {k j : Nat} {ps : List Str} {fx : Str}
theorem se_listG (C : CalG X.prog X.w X.K X.mg X.base k fx ps g) (hr : Room j X.A) (hk : k + 3 ≤ j) (B : Bn X "list") (ha : SA X (e :: es) a) (hg : Gl X fx := by rfl) (hdb : (fx == ("__debug__" : Str)) = false := by decide)
    (he : starEach (e :: es) X.env = (false, eval e X.env) :: starEach es X.env := by rfl) (hpl : (backTo pos' (starEach es X.env)).any (·.1) = false := by rfl)
    (he2 : starEach [.Call (.Name fx p) (e :: es) [] pos'] X.env = (false, eval (.Call (.Name fx p) (e :: es) [] pos') X.env) :: starEach [] X.env := by rfl) :
    SE X (.Call (.Name "list" p') [.Call (.Name fx p) (e :: es) [] pos'] [] pos) (xListG g a) := by
  obtain ⟨f, fd, hm, hkp, hb, F⟩ := C.ex
  refine PE.imp (pe_listG (E := L2.E0) (pgen_call F (hr.mono (by omega)) hg hm hkp hb .nil ha hdb he hpl) passG (fun _ _ _ h => False.elim h) (hr.mono hk) B.g B.m PyProof.Rows.boot_list (by decide) (by decide) he2) fun σ H Q ⟨ρ, σv, h, w, h', st, hv, eq, kk⟩ => ?_
  unfold xListG at eq
  split at eq
  · rename_i us h1 ea
    split at eq
    · rename_i ys hh eg
      cases eq
      refine a_one st hv ea fun ρ1 H1 xs x1 st1 hv1 r1 => ?_
      refine ⟨ρ1, h1, us, ys, _, C.ar _ _ _ eg, by rw [List.append_nil]; exact r1, hv1, eg, fun ρ2 H2 out x2 hv2 r2 p hp => ?_⟩
      have x3 := Ext.upd (o := .lst out) hv2 hp
      exact kk ρ2 _ _ ((x1.trans x2).trans x3) (hv2.upd hp) (.inl (.lst (.inl ⟨hv2.out hp, .inl upd_same⟩) (r2.ext x3)))
    · cases eq
  · cases eq
end
end Ev
end
section
set_option Elab.async false
set_option linter.all false
set_option maxRecDepth 100000
set_option maxHeartbeats 4000000
/-! EvSet: sorted(set(xs)), the items ints and tuples of such, no two of one hash. -/
namespace Ev
open PySem PySem.Spec PyProof.Rows L2

/-! ### keys -/
mutual
def keyOf : Va → NestedKey
  | .int i => .num i
  | .tup xs => .tup (keysOf xs)
  | _ => .none
def keysOf : List Va → List NestedKey
  | [] => []
  | x :: xs => keyOf x :: keysOf xs
end
theorem vhashs_cons {x : Va} {xs : List Va} {hs : List Int} (e : vhashs (x :: xs) = some hs) : ∃ h r, vhash x = some h ∧ vhashs xs = some r ∧ hs = h :: r := by
  unfold vhashs at e
  split at e
  · rename_i h e1
    split at e
    · rename_i r e2
      cases e
      exact ⟨h, r, e1, e2, rfl⟩
    · cases e
  · cases e
theorem vhash_tup {xs : List Va} {h : Int} (e : vhash (.tup xs) = some h) : ∃ hs, vhashs xs = some hs ∧ h = reduceHash (Builtin.Tuple.tupleHashOf hs) := by
  unfold vhash at e
  split at e
  · rename_i hs e1
    cases e
    exact ⟨hs, e1, rfl⟩
  · cases e
mutual
theorem key_hash (w : World) : ∀ (v : Va) (h : Int), vhash v = some h → (keyOf v).hash w = h
  | .int i, h, e => by
    unfold vhash at e
    cases e
    simp [keyOf, NestedKey.hash]
  | .tup xs, h, e => by
    obtain ⟨hs, e1, rfl⟩ := vhash_tup e
    rw [keyOf, NestedKey.hash, keys_hash w xs hs e1]
  | .non, h, e => by simp [vhash] at e
  | .bl _, h, e => by simp [vhash] at e
  | .str _, h, e => by simp [vhash] at e
  | .lst _, h, e => by simp [vhash] at e
  | .ref _, h, e => by simp [vhash] at e
theorem keys_hash (w : World) : ∀ (xs : List Va) (hs : List Int), vhashs xs = some hs → NestedKey.hashes w (keysOf xs) = hs
  | [], hs, e => by
    unfold vhashs at e
    cases e
    simp [keysOf, NestedKey.hashes]
  | x :: xs, hs, e => by
    obtain ⟨h, r, e1, e2, rfl⟩ := vhashs_cons e
    rw [keysOf, NestedKey.hashes, key_hash w x h e1, keys_hash w xs r e2]
end
mutual
theorem key_depth : ∀ (v : Va) (n : Nat), dle n v = true → (keyOf v).depth ≤ n
  | .int i, n, _ => by simp [keyOf, NestedKey.depth]
  | .tup xs, n, e => by
    cases n with
    | zero => simp [dle] at e
    | succ n =>
      have := keys_depth xs n (by simpa [dle] using e)
      rw [keyOf, NestedKey.depth]
      omega
  | .non, n, _ => by simp [keyOf, NestedKey.depth]
  | .bl _, n, _ => by simp [keyOf, NestedKey.depth]
  | .str _, n, _ => by simp [keyOf, NestedKey.depth]
  | .lst _, n, _ => by simp [keyOf, NestedKey.depth]
  | .ref _, n, _ => by simp [keyOf, NestedKey.depth]
theorem keys_depth : ∀ (xs : List Va) (n : Nat), dles n xs = true → NestedKey.depthAll (keysOf xs) ≤ n
  | [], n, _ => by simp [keysOf, NestedKey.depthAll]
  | x :: xs, n, e => by
    have h1 := mem_dle e x List.mem_cons_self
    have h2 : dles n xs = true := by
      unfold dles at e
      rw [h1] at e
      exact e
    have a := key_depth x n h1
    have b := keys_depth xs n h2
    rw [keysOf, NestedKey.depthAll]
    omega
end
section
variable {X : Cx} {pins : List (Addr × Obj)} {σ : L2.St} {s : Shared} {H : Hp} {ρ : Rh}
mutual
/-- the value stands in the heap as that key -/
theorem key_is (I : Inv X pins σ H s) : ∀ {y : V} {v : Va} {u : Value} {h : Int}, Rp (kx X) ρ H y v → RelV y u → vhash v = some h → NestedIs s.heap (keyOf v) u
  | _, _, u, h, .int i, r, _ => by
    obtain ⟨t, rfl⟩ := r
    rw [keyOf]
    exact .int i t
  | _, .tup xs, u, h, .tup q rl, r, e => by
    cases r
    obtain ⟨hs, e1, _⟩ := vhash_tup e
    obtain ⟨its, rv, ⟨o, ho, hc, n, hd⟩, _⟩ := I.tuple q.seq
    rw [keyOf]
    exact .tup ho hc hd (keys_are I rl (by simpa using rv) e1)
  | _, _, _, _, .non, _, e => by simp [vhash] at e
  | _, _, _, _, .bl _, _, e => by simp [vhash] at e
  | _, _, _, _, .str _, _, e => by simp [vhash] at e
  | _, _, _, _, .lst _ _, _, e => by simp [vhash] at e
theorem keys_are (I : Inv X pins σ H s) : ∀ {ys : List V} {xs : List Va} {us : List Value} {hs : List Int}, RpL (kx X) ρ H ys xs → Vals ys us → vhashs xs = some hs → NestedAll s.heap (keysOf xs) us
  | _, _, _, _, .nil, .nil, _ => by rw [keysOf]; exact .nil
  | _, _, _, _, .cons r t, .cons q qs, e => by
    obtain ⟨h, hr, e1, e2, rfl⟩ := vhashs_cons e
    rw [keysOf]
    exact .cons (key_is I r q e1) (keys_are I t qs e2)
end
end
section
variable {P : Program} {w : World}
mutual
theorem hby : ∀ (v : Va) (u : Value) (n : Nat) (s : Shared) (h : Int), vhash v = some h → NestedIs s.heap (keyOf v) u → dle n v = true →
    ∀ (A : Around) (Q : Bool → Shared → Prop) (E : Value → Shared → Prop), Q true s → wpAny (model P w) A (hashByValue n u) Q E s
  | .int i, u, n, s, h, e, k, d => fun A Q E q => by
    rw [keyOf] at k
    cases k <;> cases n <;> exact wpAny_pure q
  | .tup xs, u, n, s, h, e, k, d => fun A Q E q => by
    rw [keyOf] at k
    obtain ⟨hs, e1, _⟩ := vhash_tup e
    cases k with
    | @tup a o vs m _ h1 h2 h3 h4 =>
      cases n with
      | zero => simp [dle] at d
      | succ n =>
        have d' : dles n xs = true := by simpa [dle] using d
        have hT : s.TypeIs (.ref a) "tuple" := ⟨o, h1, h2⟩
        unfold hashByValue
        refine wpAny_bind (wpAny_specialOf hT F.slot_tuple_hash.lookup ?_)
        show wpAny _ _ (seqItems? (.ref a) >>= _) _ _ s
        refine wpAny_bind (wpAny_seqItems h1 h3 ?_)
        refine wpAny_bind ?_
        show wpAny _ _ (forIn vs _ _) _ _ s
        rw [← Array.forIn_toList]
        refine hbys xs vs.toList n s hs e1 h4 d' A _ E ?_
        exact wpAny_pure q
  | .non, _, _, _, _, e, _, _ => by simp [vhash] at e
  | .bl _, _, _, _, _, e, _, _ => by simp [vhash] at e
  | .str _, _, _, _, _, e, _, _ => by simp [vhash] at e
  | .lst _, _, _, _, _, e, _, _ => by simp [vhash] at e
  | .ref _, _, _, _, _, e, _, _ => by simp [vhash] at e
theorem hbys : ∀ (xs : List Va) (us : List Value) (n : Nat) (s : Shared) (hs : List Int), vhashs xs = some hs → NestedAll s.heap (keysOf xs) us → dles n xs = true →
    ∀ (A : Around) (Q : Option Bool × Unit → Shared → Prop) (E : Value → Shared → Prop), Q (none, ()) s →
      wpAny (model P w) A (forIn us ((none, ()) : Option Bool × Unit) fun x _ => do
        let b ← hashByValue n x
        if (!b) = true then pure (ForInStep.done (some false, ())) else pure (ForInStep.yield (none, ()))) Q E s
  | [], us, n, s, hs, e, k, d => fun A Q E q => by
    rw [keysOf] at k
    cases k
    exact wpAny_pure q
  | x :: xs, us, n, s, hs, e, k, d => fun A Q E q => by
    rw [keysOf] at k
    obtain ⟨h, r, e1, e2, rfl⟩ := vhashs_cons e
    have h1 := mem_dle d x List.mem_cons_self
    have h2 : dles n xs = true := by
      unfold dles at d
      rw [h1] at d
      exact d
    cases k with
    | cons k1 k2 =>
      rw [List.forIn_cons]
      refine wpAny_bind (wpAny_bind (hby x _ n s h e1 k1 h1 A _ E ?_))
      refine wp_if_neg (by decide) ?_
      refine wpAny_pure ?_
      exact hbys xs _ n s r e2 k2 h2 A Q E q
end
end
/-! ### the set while it is filled -/
structure SetA (w : World) (h : Heap) (a : Addr) (es : Array (Int × Value)) (ep : Nat) (t : SetTable) : Prop where
  ob : ∃ o, h.get? a = some o ∧ o.ExactSet ∧ o.data = .set es ep t
  tab : TabOk t (es.toList.map (·.1))
  plain : t.plain = true
  led : w.params.followText "set-order" = true ∨ t.led = true
  room : es.size * 5 < t.mask * 3
  few : es.size < 64
theorem SetA.fits {w : World} {h : Heap} {a : Addr} {es : Array (Int × Value)} {ep : Nat} {t : SetTable} (R : SetA w h a es ep t) : t.fits es.size = true := by
  have h1 := R.tab.sz
  rw [List.length_map, Array.length_toList] at h1
  have h3 := R.room
  unfold SetTable.fits SetTable.fill
  rw [R.tab.dm, Bool.and_eq_true, beq_iff_eq, decide_eq_true_eq]
  exact ⟨h1, by show t.place.size + 0 ≤ t.mask; omega⟩
theorem SetA.at {w : World} {h h' : Heap} {a : Addr} {es : Array (Int × Value)} {ep : Nat} {t : SetTable} (R : SetA w h a es ep t) (k : ∀ o, h.get? a = some o → h'.get? a = some o) : SetA w h' a es ep t := by
  obtain ⟨o, ho, r⟩ := R.ob
  exact ⟨⟨o, k o ho, r⟩, R.tab, R.plain, R.led, R.room, R.few⟩
section
variable {P : Program} {w : World} {A : Around} {E : Value → Shared → Prop} {s : Shared} {a : Addr} {es : Array (Int × Value)} {ep : Nat} {t : SetTable}
/-- no entry has the hash: the search ends at the first free slot -/
theorem free_slot (R : SetA w s.heap a es ep t) {x : Value} {h : Int} (hf : h ∉ es.toList.map (·.1)) {Q : SetFound → Shared → Prop}
    (q : ∀ K, way t.mask h K ∉ t.place.toList → (∀ c, c < K → way t.mask h c ∈ t.place.toList) → Q (.free (way t.mask h K) false) s) :
    wpAny (model P w) A (setSearch a x h true) Q E s := by
  have hr := R.room
  obtain ⟨K, k1, k2, k3⟩ := R.tab.first (by rw [List.length_map, Array.length_toList]; omega) h
  obtain ⟨o, ho, hex, hd⟩ := R.ob
  have odd : ¬ t.gaveWay = true := by
    unfold SetTable.gaveWay
    rw [mask_odd R.tab.mok]
    decide
  have probe : t.probe (fun i => (es[i]?.map (·.1)).getD 0) h (t.probeStart h) = some (.empty (way t.mask h K) none) := by
    rcases go_spec t R.tab.ris R.tab.dm (fun i => (es[i]?.map (·.1)).getD 0) h (10 * SetTable.turns t.mask) K (t.probeStart h) rfl k1 k3 k2 with ⟨c, i, _, hi, hh, _⟩ | ⟨_, e⟩
    · exfalso
      have hil : i < es.size := by
        have q1 := (List.getElem?_eq_some_iff.mp hi).1
        have q2 := R.tab.sz
        rw [List.length_map, Array.length_toList] at q2
        rw [Array.length_toList] at q1
        omega
      have e1 : (es[i]?.map (·.1)).getD 0 = es[i].1 := by rw [Array.getElem?_eq_getElem hil]; rfl
      rw [e1] at hh
      exact hf (List.mem_map.mpr ⟨es[i], by simp, hh⟩)
    · exact e
  unfold setSearch
  rw [show (100000 : Nat) = 99999 + 1 from rfl, setSearchFrom_succ]
  refine wpAny_bind (wpAny_setState_of ho hd R.fits ?_)
  refine wp_if_neg odd ?_
  try refine wpAny_bind (wpAny_pure ?_)
  rw [show (none : Option SetTable.Probe).getD (t.probeStart h) = t.probeStart h from rfl, probe]
  exact wpAny_pure (q K k2 k3)
theorem sum_set {h : Heap} {o : Obj} {es' : Array (Int × Value)} {t' : SetTable} (ho : h.get? a = some o) (hex : o.ExactSet) (hd : o.data = .set es ep t) : ∃ o', (h.update a (Obj.putSet es' t')).get? a = some o' ∧ o'.ExactSet ∧ o'.data = .set es' (ep + 1) t' :=
  ⟨_, store_at ho hd, ⟨hex.1, hex.2.1, hex.2.2⟩, rfl⟩
/-- the entries in another order -/
theorem reorder (es : Array (Int × Value)) (order : Array Nat) (hp : order.toList.Perm (List.range es.size)) :
    (order.filterMap (es[·]?)).toList.Perm es.toList ∧ ((order.filterMap (es[·]?)).toList.map (·.1)) = order.toList.map fun i => (es.map (·.1)).getD i 0 := by
  have all : ∀ l : List Nat, (∀ i ∈ l, i < es.size) → (l.filterMap (fun i => es[i]?)).map (·.1) = l.map fun i => (es.map (·.1)).getD i 0 := by
    intro l
    induction l with
    | nil => exact fun _ => rfl
    | cons i l ih =>
      intro hl
      have hi := hl i List.mem_cons_self
      rw [List.filterMap_cons_some (Array.getElem?_eq_getElem hi), List.map_cons, List.map_cons, ih fun j hj => hl j (List.mem_cons_of_mem _ hj)]
      simp [Array.getD, hi]
  have rg : (List.range es.size).filterMap (fun i => es[i]?) = es.toList := by
    apply List.ext_getElem?
    intro i
    have e : (List.range es.size).filterMap (fun i => es[i]?) = (List.range es.size).pmap (fun i (h : i < es.size) => es[i]) (fun i h => List.mem_range.mp h) := by
      have g : ∀ (l : List Nat) (hl : ∀ i ∈ l, i < es.size), l.filterMap (fun i => es[i]?) = l.pmap (fun i (h : i < es.size) => es[i]) hl := by
        intro l
        induction l with
        | nil => exact fun _ => rfl
        | cons i l ih =>
          intro hl
          rw [List.filterMap_cons_some (Array.getElem?_eq_getElem (hl i List.mem_cons_self)), ih fun j hj => hl j (List.mem_cons_of_mem _ hj)]
          rfl
      exact g _ _
    rw [e, List.getElem?_pmap]
    by_cases hi : i < es.size
    · simp [hi]
    · simp [hi]
  have e1 : (order.filterMap (es[·]?)).toList = order.toList.filterMap (fun i => es[i]?) := by simp
  refine ⟨?_, ?_⟩
  · rw [e1, ← rg]
    exact hp.filterMap _
  · rw [e1]
    exact all _ fun i hi => List.mem_range.mp (hp.mem_iff.mp hi)
/-- laid anew, larger -/
theorem laid_anew {o : Obj} (ho : s.heap.get? a = some o) (hex : o.ExactSet) (hd : o.data = .set es ep t) (T : TabOk t (es.toList.map (·.1))) (pl : t.plain = true) (ld : w.params.followText "set-order" = true ∨ t.led = true) (few : es.size < 64) (fl : es.size ≤ t.mask) {wanted M : Nat}
    (hw : SetTable.sizeAbove wanted - 1 = M) (hM : MaskOk M) (hw2 : SetTable.sizeAbove wanted ≤ 128) (hn : es.size * 5 < M * 3) {Q : Unit → Shared → Prop}
    (q : ∀ h' es' ep' t', Heap.SameBut a s.heap h' → SetA w h' a es' ep' t' → es'.toList.Perm es.toList → Q () { s with heap := h' }) : wpAny (model P w) A (setRelay a wanted) Q E s := by
  have hsz := T.sz
  rw [List.length_map, Array.length_toList] at hsz
  have hfits : t.fits es.size = true := by
    unfold SetTable.fits SetTable.fill
    rw [T.dm, Bool.and_eq_true, beq_iff_eq, decide_eq_true_eq]
    exact ⟨hsz, by show t.place.size + 0 ≤ t.mask; omega⟩
  obtain ⟨t', order, e, hp, T', em, el, epl, _⟩ := relaid_ok t (hs := es.map (·.1)) (wanted := wanted) hw hM (by rw [Array.size_map]; omega)
  rw [Array.size_map] at hp
  obtain ⟨r1, r2⟩ := reorder es order hp
  rw [← r2] at T'
  have hs2 : (order.filterMap (es[·]?)).size = es.size := by
    have := r1.length_eq
    rwa [Array.length_toList, Array.length_toList] at this
  rw [setRelay_eq]
  refine wpAny_bind (wpAny_setState_of ho hd hfits ?_)
  refine wp_if_neg (by rw [sizeLine_eq]; omega) ?_
  try refine wpAny_bind (wpAny_pure ?_)
  rw [e]
  refine wpAny_bind ?_
  refine wp_if_neg (by rw [hs2]; simp) ?_
  try refine wpAny_bind (wpAny_pure ?_)
  refine wpAny_pure (wpAny_storeSet_of ho hd ?_ (by rw [hs2, sizeLine_eq]; omega))
  exact q _ _ _ t' (Heap.SameBut.update ..) ⟨sum_set ho hex hd, T', by rw [epl]; exact pl, by rw [el]; exact ld, by rw [hs2, em]; exact hn, by rw [hs2]; exact few⟩ r1
/-- one more -/
theorem one_more (R : SetA w s.heap a es ep t) {x : Value} {h : Int} (hf : h ∉ es.toList.map (·.1)) (hx : ∃ b, x = .ref b) (hby : ∀ (A : Around) (Q : Bool → Shared → Prop) (E : Value → Shared → Prop), Q true s → wpAny (model P w) A (hashByValue 8 x) Q E s) (few : es.size + 1 < 64) {Q : Bool → Shared → Prop}
    (q : ∀ b h' es' ep' t', Heap.SameBut a s.heap h' → SetA w h' a es' ep' t' → es'.toList.Perm ((h, x) :: es.toList) → Q b { s with heap := h' }) :
    wpAny (model P w) A (setAddHashed a x h) Q E s := by
  obtain ⟨b0, rfl⟩ := hx
  obtain ⟨o, ho, hex, hd⟩ := R.ob
  have hr := R.room
  unfold setAddHashed
  refine wpAny_holding ?_
  rw [show (100000 : Nat) = 99999 + 1 from rfl, setAddHashedIn_succ]
  refine wpAny_bind (wpAny_setState_of ho hd R.fits ?_)
  refine wp_if_neg (by simp [byScan, Value.scannable]) ?_
  try refine wpAny_bind (wpAny_pure ?_)
  refine wpAny_bind (free_slot R hf fun K k1 k2 => ?_)
  dsimp only
  refine wpAny_bind (wpAny_setState_of ho hd R.fits ?_)
  dsimp only
  obtain ⟨q1, q2, q3, q4, q5, q6, _, _, q9⟩ := R.tab.put k1 k2
  have pl : (t.put (way t.mask h K)).1.plain = true := by rw [q6]; exact R.plain
  generalize hpt : t.put (way t.mask h K) = pt at q1 q3 q4 q5 q9 pl ⊢
  obtain ⟨t1, p⟩ := pt
  dsimp only at q1 q3 q4 q5 q9 pl ⊢
  subst q1
  first
    | (refine wpAny_bind ?_; refine wp_if_pos pl ?_; refine hby _ _ _ ?_)
    | refine wp_if_pos pl (wpAny_bind (hby _ _ _ ?_))
  simp only [if_true]
  have hin : (SetTable.insertAt es (SetTable.below t.place (way t.mask h K)) (h, Value.ref b0)).toList = es.toList.take (SetTable.below t.place (way t.mask h K)) ++ (h, Value.ref b0) :: es.toList.drop (SetTable.below t.place (way t.mask h K)) := SetTable.toList_insertAt _ _ _
  have T1 : TabOk t1 ((SetTable.insertAt es (SetTable.below t.place (way t.mask h K)) (h, Value.ref b0)).toList.map (·.1)) := by
    rw [hin, List.map_append, List.map_cons, List.map_take, List.map_drop]
    exact q3
  have pm : (SetTable.insertAt es (SetTable.below t.place (way t.mask h K)) (h, Value.ref b0)).toList.Perm ((h, Value.ref b0) :: es.toList) := by
    rw [hin]
    exact put_perm _ _ _
  generalize SetTable.insertAt es (SetTable.below t.place (way t.mask h K)) (h, Value.ref b0) = es1 at T1 pm ⊢
  have hes : es1.size = es.size + 1 := by
    have := pm.length_eq
    rwa [List.length_cons, Array.length_toList, Array.length_toList] at this
  rw [List.length_map, Array.length_toList] at q9
  refine wpAny_bind (wpAny_storeSet_of ho hd ?_ (by rw [hes, sizeLine_eq]; omega))
  have sb : Heap.SameBut a s.heap (s.heap.update a (Obj.putSet es1 t1)) := Heap.SameBut.update ..
  have ob1 := sum_set (es' := es1) (t' := t1) ho hex hd
  generalize s.heap.update a (Obj.putSet es1 t1) = h1 at sb ob1 ⊢
  have ld1 : w.params.followText "set-order" = true ∨ t1.led = true := by rw [q5]; exact R.led
  have full_iff : t1.tooFull = decide ((es.size + 1) * 5 ≥ t1.mask * 3) := by
    unfold SetTable.tooFull
    rw [q9]
  by_cases hfl : t1.tooFull = true
  · have hfull : (es.size + 1) * 5 ≥ t1.mask * 3 := by rw [full_iff, decide_eq_true_eq] at hfl; exact hfl
    first
      | (refine wpAny_bind ?_; refine wp_if_pos (by simp [hfl]) ?_)
      | (refine wp_if_pos (by simp [hfl]) ?_; refine wpAny_bind ?_)
    have two : (t.mask = 7 ∧ es.size = 4) ∨ (t.mask = 31 ∧ es.size = 18) := by
      rcases R.tab.mok with e | e | e
      · left; rw [q4, e] at hfull; rw [e] at hr; exact ⟨e, by omega⟩
      · right; rw [q4, e] at hfull; rw [e] at hr; exact ⟨e, by omega⟩
      · exfalso; rw [q4, e] at hfull; omega
    obtain ⟨o1, ho1, hex1, hd1⟩ := ob1
    have go : ∀ M, SetTable.sizeAbove (SetTable.grown (es.size + 1)) - 1 = M → MaskOk M → SetTable.sizeAbove (SetTable.grown (es.size + 1)) ≤ 128 → (es.size + 1) * 5 < M * 3 →
        wpAny (model P w) A (setRelay a (SetTable.grown (es.size + 1))) (fun _ s' => wpAny (model P w) A (pure true) Q E s') E { s with heap := h1 } := fun M m1 m2 m3 m4 => by
      refine laid_anew (s := { s with heap := h1 }) ho1 hex1 hd1 T1 pl ld1 (by rw [hes]; exact few) (by rw [hes, q4]; rcases two with ⟨e, e2⟩ | ⟨e, e2⟩ <;> omega) m1 m2 m3 (by rw [hes]; exact m4) fun h2 es2 ep2 t2 sb2 R2 pm2 => ?_
      exact wpAny_pure (q true h2 es2 ep2 t2 (sb.trans sb2) R2 (pm2.trans pm))
    rcases two with ⟨_, e2⟩ | ⟨_, e2⟩
    · exact go 31 (by rw [e2, size_20]) (.inr (.inl rfl)) (by rw [e2, size_20]; decide) (by omega)
    · exact go 127 (by rw [e2, size_76]) (.inr (.inr rfl)) (by rw [e2, size_76]; decide) (by omega)
  · have hnot : ¬ (es.size + 1) * 5 ≥ t1.mask * 3 := by rw [full_iff, decide_eq_true_eq] at hfl; exact hfl
    first
      | refine wp_if_neg (by simp [hfl]) ?_
      | (refine wpAny_bind ?_; refine wp_if_neg (by simp [hfl]) ?_; refine wpAny_pure ?_)
    exact wpAny_pure (q true h1 es1 _ t1 sb ⟨ob1, T1, pl, ld1, by rw [hes]; omega, by rw [hes]; exact few⟩ pm)
end
/-! ### set(xs) -/
theorem dles_cons {n : Nat} {x : Va} {xs : List Va} (e : dles n (x :: xs) = true) : dle n x = true ∧ dles n xs = true := by
  have h1 := mem_dle e x List.mem_cons_self
  refine ⟨h1, ?_⟩
  unfold dles at e
  rw [h1] at e
  exact e
/-- the i-th item -/
theorem item_is {h0 : Heap} : ∀ {xs : List Va} {us : List Value} {hs : List Int} {i : Nat} {u : Value}, NestedAll h0 (keysOf xs) us → vhashs xs = some hs → dles 7 xs = true → us[i]? = some u →
    ∃ v h, hs[i]? = some h ∧ vhash v = some h ∧ NestedIs h0 (keyOf v) u ∧ dle 7 v = true
  | [], us, hs, i, u, k, e, d, q => by
    rw [keysOf] at k
    cases k
    simp at q
  | x :: xs, us, hs, i, u, k, e, d, q => by
    rw [keysOf] at k
    obtain ⟨h, r, e1, e2, rfl⟩ := vhashs_cons e
    obtain ⟨d1, d2⟩ := dles_cons d
    cases k with
    | cons k1 k2 =>
      cases i with
      | zero =>
        simp at q
        subst q
        exact ⟨x, h, by simp, e1, k1, d1⟩
      | succ i =>
        obtain ⟨v, h', a1, a2, a3, a4⟩ := item_is (i := i) k2 e2 d2 (by simpa using q)
        exact ⟨v, h', by simpa using a1, a2, a3, a4⟩
theorem vhashs_len : ∀ {xs : List Va} {hs : List Int}, vhashs xs = some hs → hs.length = xs.length
  | [], hs, e => by
    unfold vhashs at e
    cases e
    rfl
  | x :: xs, hs, e => by
    obtain ⟨h, r, e1, e2, rfl⟩ := vhashs_cons e
    rw [List.length_cons, List.length_cons, vhashs_len e2]
theorem keysOf_len : ∀ xs : List Va, (keysOf xs).length = xs.length
  | [] => by simp [keysOf]
  | x :: xs => by rw [keysOf, List.length_cons, List.length_cons, keysOf_len xs]
theorem new_hash {hs : List Int} (nd : hs.Nodup) {i : Nat} {h : Int} (e : hs[i]? = some h) : h ∉ hs.take i := by
  intro m
  obtain ⟨j, hj, e2⟩ := List.mem_iff_getElem.mp m
  rw [List.length_take] at hj
  obtain ⟨hi, e1⟩ := List.getElem?_eq_some_iff.mp e
  rw [List.getElem_take] at e2
  have := (List.getElem_inj nd).mp (e2.trans e1.symm)
  omega
mutual
theorem dle_mono : ∀ {v : Va} {n : Nat}, dle n v = true → dle (n + 1) v = true
  | .non, _, _ => by simp [dle]
  | .bl _, _, _ => by simp [dle]
  | .int _, _, _ => by simp [dle]
  | .str _, _, _ => by simp [dle]
  | .tup xs, n, e => by
    cases n with
    | zero => simp [dle] at e
    | succ n =>
      have := dles_mono (xs := xs) (n := n) (by simpa [dle] using e)
      simpa [dle] using this
  | .lst xs, n, e => by
    cases n with
    | zero => simp [dle] at e
    | succ n =>
      have := dles_mono (xs := xs) (n := n) (by simpa [dle] using e)
      simpa [dle] using this
  | .ref _, n, e => by cases n <;> simp [dle] at e
theorem dles_mono : ∀ {xs : List Va} {n : Nat}, dles n xs = true → dles (n + 1) xs = true
  | [], _, _ => by simp [dles]
  | x :: xs, n, e => by
    obtain ⟨h1, h2⟩ := dles_cons e
    unfold dles
    rw [dle_mono h1]
    exact dles_mono h2
end
section
variable {P : Program} {w : World} {A : Around} {E : Value → Shared → Prop} {s : Shared}
theorem keep_is {h h' : Heap} {k : NestedKey} {u : Value} (x : NestedIs h k u) (kk : ∀ b o, h.get? b = some o → h'.get? b = some o) : NestedIs h' k u := NestedIs.at (fun b o _ _ e _ => kk b o e) k u x
theorem fill {I : Addr} {fp wr : List Addr} {G : Array GenState → Array GenState → Prop} {n : Nat} {Pv : Nat → Value → Prop} {St : Nat → Shared → Prop} {R : Result → Shared → Prop} (W : WalksS P w A.in1 I fp wr G n Pv St) (S : Addr) (hSf : S ∉ fp)
    {xs : List Va} {us : List Value} {hs : List Int} (hn : n = us.length) (few : us.length < 63) (hval : ∀ i v, Pv i v → us[i]? = some v) (refs : ∀ u ∈ us, ∃ b, u = .ref b) (h0 : Heap) (ka : NestedAll h0 (keysOf xs) us) (eh : vhashs xs = some hs) (dl : dles 7 xs = true) (nd : hs.Nodup)
    (hS0 : h0.get? S = none) (hw0 : ∀ b ∈ wr, h0.get? b = none) (hu : A.in1.units + 8 < cLine) :
    ∀ (k i : Nat) (s : Shared), n - i = k → i ≤ n → St i s → (∀ b o, h0.get? b = some o → s.heap.get? b = some o) → (∃ es ep t, SetA w s.heap S es ep t ∧ es.toList.Perm ((hs.zip us).take i)) →
      (∀ s' es ep t, Moved (S :: wr) G s s' → SetA w s'.heap S es ep t → es.toList.Perm ((hs.zip us).take n) → (∀ b o, h0.get? b = some o → s'.heap.get? b = some o) → R (.ok (.ret .none)) s') →
      codeAny (model P w) A (.builtin "set.update.loop" ⟨[.ref S, .ref I], []⟩) R s := by
  have hSw : S ∉ wr := fun h => hSf (W.sub _ h)
  have sub : ∀ b ∈ wr, b ∈ S :: wr := fun b hb => List.mem_cons_of_mem _ hb
  have stay : ∀ {s s' : Shared}, Moved wr G s s' → (∀ b o, h0.get? b = some o → s.heap.get? b = some o) → ∀ b o, h0.get? b = some o → s'.heap.get? b = some o := fun m kp b o e =>
    m.heap b o (fun hb => by rw [hw0 b hb] at e; cases e) (kp b o e)
  have hlen : hs.length = us.length := by
    rw [vhashs_len eh, NestedAll.length _ _ ka, keysOf_len]
  intro k
  induction k with
  | zero =>
    intro i s hk hi st kp ⟨es, ep, t, hS, pm⟩ hR
    have ei : i = n := by omega
    subst ei
    refine codeAny_builtin F.entry_set_update_loop ?_
    rw [Around.under_plainId F.plain_set_update_loop _]
    show wpAny _ A.in1 (pyNext (.ref I) >>= _) _ _ s
    refine wpAny_bind (W.done s _ _ st fun s' m => ?_)
    exact wpAny_pure (hR s' es ep t (m.mono sub) (hS.at fun o e => m.heap S o hSw e) pm (stay m kp))
  | succ k ih =>
    intro i s hk hi st kp ⟨es, ep, t, hS, pm⟩ hR
    have hlt : i < n := by omega
    refine codeAny_builtin F.entry_set_update_loop ?_
    rw [Around.under_plainId F.plain_set_update_loop _]
    show wpAny _ A.in1 (pyNext (.ref I) >>= _) _ _ s
    refine wpAny_bind (W.item i s _ _ hlt st fun u s' hP st' m => ?_)
    have eu := hval i u hP
    obtain ⟨b0, eb⟩ := refs u (List.mem_of_getElem? eu)
    subst eb
    obtain ⟨v, h, a1, a2, a3, a4⟩ := item_is ka eh dl eu
    have kp' := stay m kp
    have hS' : SetA w s'.heap S es ep t := hS.at fun o e => m.heap S o hSw e
    have kis : NestedIs s'.heap (keyOf v) (.ref b0) := keep_is a3 kp'
    have dv := key_depth v 7 a4
    have fresh : h ∉ es.toList.map (·.1) := fun hm => by
      have h1 := (pm.map (·.1)).mem_iff.mp hm
      rw [List.map_take, List.map_fst_zip (Nat.le_of_eq hlen)] at h1
      exact new_hash nd a1 h1
    have esz : es.size ≤ i := by
      have := pm.length_eq
      rw [Array.length_toList, List.length_take] at this
      omega
    show wpAny _ A.in1 (holding [Value.ref b0] (setAdd S (.ref b0)) >>= _) _ _ s'
    refine wpAny_bind (wpAny_holding ?_)
    unfold setAdd
    refine wpAny_holding ?_
    refine wpAny_bind (pyHash_key _ _ _ _ _ kis (by omega) ?_)
    rw [key_hash w v h a2]
    refine one_more (s := { s' with toks := s'.toks + (keyOf v).draws }) hS' fresh ⟨b0, rfl⟩ (fun A' Q' E' q' => hby v _ 8 ({ s' with toks := s'.toks + (keyOf v).draws } : Shared) h a2 kis (dle_mono a4) A' Q' E' q') (by omega) fun b h' es' ep' t' sb hS2 pm2 => ?_
    have kp2 : ∀ b o, h0.get? b = some o → h'.get? b = some o := fun b o e => (sb.2 b (fun z => by rw [z, hS0] at e; cases e)).trans (kp' b o e)
    have pm3 : es'.toList.Perm ((hs.zip us).take (i + 1)) := by
      have ez : (hs.zip us)[i]? = some (h, Value.ref b0) := by rw [List.getElem?_zip_eq_some]; exact ⟨a1, eu⟩
      rw [List.take_add_one, ez]
      exact pm2.trans ((pm.cons _).trans (List.perm_append_singleton _ _).symm)
    refine wpAny_pure ⟨plainId_quiet F.plain_set_update_loop _, ih (i + 1) _ (by omega) hlt (W.frame _ s' _ _ st' (Nat.le_add_right _ _) fun b hb o e => ?_) kp2 ⟨es', ep', t', hS2, pm3⟩ fun s'' es2 ep2 t2 m2 hS3 pm4 kp3 => ?_⟩
    · rw [sb.2 b (fun z : b = S => hSf (z ▸ hb))]; exact e
    · refine hR s'' es2 ep2 t2 (Moved.trans W.gtrans ((m.mono sub).then_heap (Nat.le_add_right _ _) fun b o hb e => ?_) m2) hS3 pm4 kp3
      rw [sb.2 b (fun z : b = S => hb (z ▸ List.mem_cons_self))]; exact e
end
end Ev
end
section
set_option Elab.async false
set_option linter.all false
set_option maxRecDepth 100000
set_option maxHeartbeats 4000000
/-! EvSet2: set(xs), sorted(set(xs)). -/
namespace Ev
open PySem PySem.Spec PyProof.Rows L2
section
variable {P : Program} {w : World} {A : Around} {E : Value → Shared → Prop} {s : Shared}
/-- an empty set -/
theorem empty_set {h : Heap} {a : Addr} (ho : h.get? a = some { cls := .type "set", dict := none, data := .set #[] 0 (.fresh 0 0 (!w.params.followText "set-order")) }) : SetA w h a #[] 0 (.fresh 0 0 (!w.params.followText "set-order")) where
  ob := ⟨_, ho, ⟨rfl, rfl, rfl⟩, rfl⟩
  tab := ⟨List.Pairwise.nil, rfl, rfl, .inl rfl, (fun x hx => (by cases hx)), (fun i h j hi => (by cases i <;> cases hi))⟩
  plain := rfl
  led := by
    cases e : w.params.followText "set-order"
    · right; show (!false) = true; rfl
    · exact .inl rfl
  room := by show 0 * 5 < 7 * 3; decide
  few := by show 0 < 64; decide
set_option maxHeartbeats 8000000 in
theorem call_set {l : Addr} {xs : List Va} {us : List Value} {hs : List Int} {Q : Value → Shared → Prop} (hh : A.handled = none) (hl : s.heap.IsList l us.toArray) (few : us.length < 63) (refs : ∀ u ∈ us, ∃ b, u = .ref b)
    (ka : NestedAll s.heap (keysOf xs) us) (eh : vhashs xs = some hs) (dl : dles 7 xs = true) (nd : hs.Nodup) (hu : A.units + 16 < cLine)
    (q : ∀ (h' : Heap) (tk : Nat) es ep t, SetA w h' s.heap.objs.size es ep t → es.toList.Perm (hs.zip us) → (∀ b o, s.heap.get? b = some o → h'.get? b = some o) → Q (.ref s.heap.objs.size) { s with heap := h', toks := tk }) :
    wpAny (model P w) A (call (.type "set") [.ref l]) Q E s := by
  have hsz : us.toArray.size = us.length := by simp
  have hzl : (hs.zip us).length = us.length := by
    rw [List.length_zip, vhashs_len eh, NestedAll.length _ _ ka, keysOf_len, Nat.min_self]
  obtain ⟨c, tl, hmro⟩ := F.called_set.mro
  have hmade := F.called_set.made
  have hsub := F.called_set.sub
  have h1 := F.called_set.notType
  have h2 := F.called_set.canCreate
  have hct := F.typeCall_set_1 (.ref l)
  refine wpAny_call (codeAny_of_tree ?_)
  show wpAny _ _ (callAny (.type "set") _) _ _ _
  refine wpAny_pure ⟨Code.quiet_builtin _ (by decide +kernel), codeAny_builtin F.entry_type_call ?_⟩
  rw [Around.under_plain (weight_type_call_type "set" [.ref l] []) rfl]
  repeat (any_goals (first | assumption | wp_step))
  refine codeAny_mono (code_set_led1 (.ref l) (E := E) (Q₁ := fun obj s1 => obj = .ref s.heap.objs.size ∧ s1 = { s with heap := s.heap.push { cls := .type "set", dict := none, data := .set #[] 0 (.fresh 0 0 (!w.params.followText "set-order")) } }) ⟨rfl, rfl⟩) fun r s1 hr => ?_
  cases r with
  | error e => exact hr
  | ok fl =>
    cases fl with
    | next => exact hr.elim
    | brk => exact hr.elim
    | cont => exact hr.elim
    | ret obj =>
      obtain ⟨rfl, rfl⟩ := hr
      have hS : (s.heap.push { cls := .type "set", dict := none, data := .set #[] 0 (.fresh 0 0 (!w.params.followText "set-order")) }).get? s.heap.objs.size = some { cls := .type "set", dict := none, data := .set #[] 0 (.fresh 0 0 (!w.params.followText "set-order")) } := Heap.get?_push_size _ rfl
      have hT : Shared.TypeIs { s with heap := s.heap.push { cls := .type "set", dict := none, data := .set #[] 0 (.fresh 0 0 (!w.params.followText "set-order")) } } (.ref s.heap.objs.size) "set" := ⟨_, hS, rfl⟩
      have hli := F.called_set.init.lookup
      have hbi := F.called_set.init.bind (.ref s.heap.objs.size)
      repeat (any_goals (first | assumption | wp_step))
      refine codeAny_mono (codeAny_call_builtin (R := wants (fun r s2 => r = .none ∧ ∃ h' tk es ep t, s2 = { s with heap := h', toks := tk } ∧ SetA w h' s.heap.objs.size es ep t ∧ es.toList.Perm (hs.zip us) ∧ ∀ b o, s.heap.get? b = some o → h'.get? b = some o) E) F.called_set.init.plain F.entry_set_init (check_set_init_1 hT ?_)) fun r2 s2 hr2 => ?_
      · obtain ⟨⟨oc, od, dt, osl⟩, hol, hcl, nl, hdl⟩ := hl
        replace hcl : oc = .type "list" := hcl
        replace hdl : dt = .seq us.toArray nl := hdl
        subst hcl hdl
        have hol' : (s.heap.push { cls := .type "set", dict := none, data := .set #[] 0 (.fresh 0 0 (!w.params.followText "set-order")) }).get? l = some { cls := .type "list", dict := od, data := .seq us.toArray nl, slots := osl } := Heap.get?_push_of_some _ hol
        have hsls := F.sub_list_set
        have hslf := F.sub_list_frozenset
        have hne : (Value.type "list" == Value.type "dict") = false := by decide
        have hl1 : (s.heap.push { cls := .type "set", dict := none, data := .set #[] 0 (.fresh 0 0 (!w.params.followText "set-order")) }).IsList l us.toArray := ⟨_, hol', rfl, nl, rfl⟩
        unfold Builtin.«set.__init__» noKeywords Builtin.Frozenset.updateFrom
        generalize hPI : pyIter = PI
        wp_walk
        subst hPI
        refine wpAny_pyIter_list hl1 (wpAny_bind (wpAny_runValue ?_))
        have hlS : l < s.heap.objs.size := Heap.lt_size hol
        have hh3 : A.in1.in1.in1.handled = none := by simp [hh]
        have hneI : l ≠ (s.heap.push { cls := .type "set", dict := none, data := .set #[] 0 (.fresh 0 0 (!w.params.followText "set-order")) }).objs.size := by
          rw [Heap.size_push]; exact Nat.ne_of_lt (Nat.lt_succ_of_lt hlS)
        have hSf : s.heap.objs.size ∉ [(s.heap.push { cls := .type "set", dict := none, data := .set #[] 0 (.fresh 0 0 (!w.params.followText "set-order")) }).objs.size, l] := by
          rw [Heap.size_push]
          intro m
          rcases List.mem_cons.mp m with m | m
          · omega
          · rw [List.mem_singleton] at m
            exact Nat.ne_of_gt hlS m
        have old : ∀ b, s.heap.objs.size ≤ b → s.heap.get? b = none := fun b hb => by
          cases e : s.heap.get? b with
          | none => rfl
          | some o => exact absurd (Nat.lt_of_lt_of_le (Heap.lt_size e) hb) (Nat.lt_irrefl _)
        refine fill ((Walks.list hh3 _ l hneI us.toArray).toS) s.heap.objs.size hSf hsz few (fun i v hv => by simpa using hv) refs s.heap ka eh dl nd (old _ (Nat.le_refl _)) (fun b hb => old b (by
            rw [List.mem_singleton.mp hb, Heap.size_push]
            exact Nat.le_succ _)) (by simp only [Around.in1_units]; omega) (us.toArray.size - 0) 0 _ (by omega) (Nat.zero_le _)
          ⟨⟨_, Heap.get?_push_size _ rfl, rfl, rfl⟩, (hl1.push _)⟩ (fun b o e => Heap.get?_push_of_some _ (Heap.get?_push_of_some _ e)) ?_ ?_
        · refine ⟨#[], 0, _, empty_set ?_, by simp⟩
          exact Heap.get?_push_of_some _ hS
        · intro s' es ep t m hS' pm kp
          obtain ⟨h', g2, d', tk', os'⟩ := s'
          obtain rfl : g2 = s.gens := m.gens
          obtain rfl : d' = s.drawn := m.drawn
          obtain rfl : os' = s.os := m.os
          refine wpAny_pure ?_
          show wpAny _ _ (ret Value.none) _ _ _
          rw [hsz, ← hzl, List.take_length] at pm
          exact wpAny_pure ⟨rfl, h', tk', es, ep, t, rfl, hS', pm, kp⟩
      · cases r2 with
        | error e => exact hr2
        | ok fl2 =>
          cases fl2 with
          | ret r =>
            obtain ⟨rfl, h', tk, es, ep, t, rfl, hS', pm, kp⟩ := hr2
            repeat (any_goals (first | assumption | wp_step))
            exact q _ _ _ _ _ hS' pm kp
          | next => exact hr2.elim
          | brk => exact hr2.elim
          | cont => exact hr2.elim
end
end Ev
end
section
set_option Elab.async false
set_option linter.all false
set_option maxRecDepth 100000
set_option maxHeartbeats 4000000
/-! EvSet3: sorted(set(xs)) as an expression. -/
namespace Ev
open PySem PySem.Spec PyProof.Rows L2
open PySem.W in
theorem sortV_mergeP {z : Va} {xs ws : List Va} (p : ws.Perm xs) (hs : shpAll z xs = true) (ha : ascV (sortV xs) = true) : ws.mergeSort (dataLe false toD) = sortV xs := by
  have pp := ascV_pair (sortV xs) (shpAll_perm (sortV_perm xs) hs) ha
  refine (sort_unique (sortLe_total (listOrd itemOrd) false fun b => keyToks (toD b)) (pp.imp fun {a b} e => ?_) fun c => ?_).symm
  · show (!dataLt (toD b) (toD a)) = true
    cases q : dataLt (toD b) (toD a) with
    | false => rfl
    | true =>
      have := lex_trans (O := itemOrd) _ _ _ e q
      rw [lex_irrefl] at this
      cases this
  · exact small_perm (((sortV_perm xs).trans p.symm).filter _) (rank_one pp)
theorem each_perm {α β : Type} {R : α → β → Prop} : ∀ {us vs : List α} {bs : List β}, us.Perm vs → PySem.W.EachIs R us bs → ∃ cs, bs.Perm cs ∧ PySem.W.EachIs R vs cs := by
  intro us vs bs p
  induction p generalizing bs with
  | nil => exact fun e => ⟨bs, .refl _, e⟩
  | cons x p ih =>
    intro e
    cases e with
    | cons r t =>
      obtain ⟨cs, q, t'⟩ := ih t
      exact ⟨_ :: cs, q.cons _, .cons r t'⟩
  | swap x y l =>
    intro e
    cases e with
    | cons r t => cases t with
      | cons r' t => exact ⟨_, .swap _ _ _, .cons r' (.cons r t)⟩
  | trans p1 p2 i1 i2 =>
    intro e
    obtain ⟨cs, q, t⟩ := i1 e
    obtain ⟨ds, q', t'⟩ := i2 t
    exact ⟨ds, q.trans q', t'⟩
theorem hfresh_ok {h : Int} : ∀ {ks : List Int}, hfresh h ks = true → h ∉ ks
  | [], _ => by simp
  | k :: ks, e => by
    unfold hfresh at e
    split at e
    · cases e
    · rename_i q
      rw [ieq_eq, decide_eq_false_iff_not] at q
      intro m
      rcases List.mem_cons.mp m with m | m
      · exact q m.symm
      · exact hfresh_ok e m
theorem hdist_ok : ∀ {ks : List Int}, hdist ks = true → ks.Nodup
  | [], _ => List.nodup_nil
  | k :: ks, e => by
    unfold hdist at e
    split at e
    · rename_i q
      exact List.nodup_cons.mpr ⟨hfresh_ok q, hdist_ok e⟩
    · cases e
theorem short_len {α : Type} : ∀ {n : Nat} {xs : List α}, short n xs = true → xs.length < n
  | 0, _, e => by simp [short] at e
  | n + 1, [], _ => Nat.succ_pos _
  | n + 1, _ :: xs, e => Nat.succ_lt_succ (short_len (n := n) (by simpa [short] using e))
section
variable {X : Cx} {pins : List (Addr × Obj)} {σ : L2.St} {s : Shared} {H : Hp} {ρ : Rh}
mutual
/-- read as data, no list in it -/
theorem rd_is (I : Inv X pins σ H s) : ∀ {y : V} {v : Va} {u : Value} {h : Int}, Rp (kx X) ρ H y v → RelV y u → vhash v = some h → Reads s.heap u (toD v) []
  | _, _, u, h, .int i, r, _ => by
    obtain ⟨t, rfl⟩ := r
    rw [toD]
    exact .int i t
  | _, .tup xs, u, h, .tup q rl, r, e => by
    cases r
    obtain ⟨hs, e1, _⟩ := vhash_tup e
    obtain ⟨its, rv, ⟨o, ho, hc, n, hd⟩, _⟩ := I.tuple q.seq
    rw [toD]
    exact .tuple ho hc hd (rds_are I rl (by simpa using rv) e1)
  | _, _, _, _, .non, _, e => by simp [vhash] at e
  | _, _, _, _, .bl _, _, e => by simp [vhash] at e
  | _, _, _, _, .str _, _, e => by simp [vhash] at e
  | _, _, _, _, .lst _ _, _, e => by simp [vhash] at e
theorem rds_are (I : Inv X pins σ H s) : ∀ {ys : List V} {xs : List Va} {us : List Value} {hs : List Int}, RpL (kx X) ρ H ys xs → Vals ys us → vhashs xs = some hs → ReadsAll s.heap us (toDs xs) []
  | _, _, _, _, .nil, .nil, _ => by rw [toDs]; exact .nil
  | _, _, _, _, .cons r t, .cons q qs, e => by
    obtain ⟨h, hr, e1, e2, rfl⟩ := vhashs_cons e
    rw [toDs]
    exact .cons (as := []) (bs := []) (rd_is I r q e1) (rds_are I t qs e2)
end
end
theorem each_rd {X : Cx} {pins : List (Addr × Obj)} {σ : L2.St} {s : Shared} {H : Hp} {ρ : Rh} (I : Inv X pins σ H s) : ∀ {ys : List V} {ws : List Va} {us : List Value} {hs : List Int}, RpL (kx X) ρ H ys ws → Vals ys us → vhashs ws = some hs →
    PySem.W.EachIs (fun (v : Value) (b : V × Va) => RelV b.1 v ∧ Rp (kx X) ρ H b.1 b.2 ∧ Reads s.heap v (toD b.2) []) us (ys.zip ws)
  | _, _, _, _, .nil, .nil, _ => .nil
  | _, _, _, _, .cons r t, .cons q qs, e => by
    obtain ⟨h, hr, e1, e2, rfl⟩ := vhashs_cons e
    exact .cons ⟨q, r, rd_is I r q e1⟩ (each_rd I t qs e2)
/-- what stands of the set -/
def SetX (w : World) (a : Addr) (rows : List (Int × Value)) : Heap → Prop := fun h => ∃ es ep t, SetA w h a es ep t ∧ es.toList.Perm rows
theorem setX_new {P : Program} {w : World} {H : Hp} {h : Heap} {a : Addr} {rows : List (Int × Value)} (R : SetX w a rows h) : ObjOk P w H h a (.ext (SetX w a rows)) := by
  refine ⟨R, ?_, fun h1 h2 p k => ?_⟩
  · obtain ⟨es, ep, t, r, _⟩ := R
    obtain ⟨o, ho, _⟩ := r.ob
    exact ⟨o, ho⟩
  · obtain ⟨es, ep, t, r, pm⟩ := (show SetX w a rows h1 from p)
    exact ⟨es, ep, t, r.at k, pm⟩
section
variable {X : Cx}
def rSet (K : Kx) : List V → Hp → VK → Prop := fun vs H Q => ∃ (ρ : Rh) (l : Addr) (ys : List V) (xs : List Va) (hs : List Int), vs = [V.ref l] ∧ SqL K.k H l ys ∧ RpL K ρ H ys xs ∧ vhashs xs = some hs ∧ hs.Nodup ∧ xs.length < 63 ∧ dles 7 xs = true ∧ (∀ y ∈ ys, ∃ b, y = .ref b) ∧
  ∀ a us, H a = none → Vals ys us → Q (.ref a) (upd H a (.ext (SetX K.w a (hs.zip us))))
theorem cr_set (hc : X.calm = true) (hu : X.A.units + 64 < cLine) : CallR X (.type "set") (rSet (kx X)) := by
  intro pins s σ H vs us Q I r h
  obtain ⟨ρ, l, ys, xs, hs, rfl, hq, rl, eh, nd, few, dl, refs, q⟩ := h
  rw [Vals.ref1 r]
  obtain ⟨its, rv, hl, hz⟩ := I.list hq
  have hlen : its.length = xs.length := by rw [← rv.length, rl.length]
  refine call_set (P := X.prog) (w := X.w) (us := its) (I.ok.hd hc) hl.isList (by omega) (fun u hu' => ?_) (keys_are I rl rv eh) eh dl nd (by omega) fun h' tk es ep t R pm k => ?_
  · obtain ⟨i, hi, e⟩ := List.mem_iff_getElem.mp hu'
    have hi' : i < ys.length := by rw [rv.length]; exact hi
    obtain ⟨u', e1, e2⟩ := rv.get (List.getElem?_eq_getElem hi')
    obtain ⟨b, eb⟩ := refs ys[i] (List.getElem_mem hi')
    rw [eb] at e2
    rw [List.getElem?_eq_getElem hi, e] at e1
    cases e1
    exact ⟨b, e2⟩
  · exact ⟨.ref s.heap.objs.size, upd H s.heap.objs.size (.ext (SetX X.w s.heap.objs.size (hs.zip its))), I.laid (t' := tk) k (Nat.le_refl _) (setX_new ⟨es, ep, t, R, pm⟩), rfl, q _ its (I.hok.fresh (Nat.le_refl _)) rv⟩
def rSortSet (K : Kx) : List V → Hp → VK → Prop := fun vs H Q => ∃ (ρ : Rh) (a : Addr) (ys : List V) (z : Va) (zs xs : List Va) (hs : List Int) (us : List Value), vs = [V.ref a] ∧ H a = some (.ext (SetX K.w a (hs.zip us))) ∧ Vals ys us ∧ RpL K ρ H ys (.tup (z :: zs) :: xs) ∧
  vhashs (.tup (z :: zs) :: xs) = some hs ∧ shpAll (.tup (z :: zs)) (.tup (z :: zs) :: xs) = true ∧ dles 7 (.tup (z :: zs) :: xs) = true ∧ ascV (sortV (.tup (z :: zs) :: xs)) = true ∧
  ∀ ys', RpL K ρ H ys' (sortV (.tup (z :: zs) :: xs)) → ∀ p, H p = none → Q (.ref p) (upd H p (.lst ys'))
theorem cr_sortSet (hc : X.calm = true) (hu : X.A.units + 64 < cLine) : CallR X (.builtin "sorted") (rSortSet (kx X)) := by
  intro pins s σ H vs us0 Q I r h
  obtain ⟨ρ, a, ys, z, zs, xs, hs, us, rfl, ha, rv, rl, eh, hsh, hd, hasc, q⟩ := h
  rw [Vals.ref1 r]
  obtain ⟨es, ep, t, R, pm⟩ := (show SetX X.w a (hs.zip us) s.heap from (I.hok a _ ha).1)
  obtain ⟨o, ho, hex, hdt⟩ := R.ob
  have hlen := rl.length
  have hul : us.length = (Va.tup (z :: zs) :: xs).length := by rw [← rv.length, hlen]
  have hzl : (hs.zip us).map (·.2) = us := List.map_snd_zip (by rw [hul, vhashs_len eh]; exact Nat.le_refl _)
  have esz : es.size = us.length := by
    have := pm.length_eq
    rw [Array.length_toList, List.length_zip, vhashs_len eh, ← hul, Nat.min_self] at this
    exact this
  have few := R.few
  refine Calls.call_function_entry kind_sorted plain_sorted entry_sorted (args_sorted1 _) ?_
  unfold Builtin.«sorted»
  refine wpAny_bind (m := checkCount "sorted" 1 1 _) (wpAny_pure ?_)
  refine wpAny_bind (collect_set (A := X.A.in1) (I.ok.hd hc) ⟨o, ho, hex.1, hdt⟩ R.fits (by unfold scanBound; omega) R.tab.ris R.led fun s1 out k1 hz g1 o1 pm1 => ?_)
  have pmo : us.Perm out := by
    have h1 := pm.map (·.2)
    rw [hzl] at h1
    exact (pm1.trans h1).symm
  have hol : out.length = us.length := pmo.length_eq.symm
  refine wpAny_bind (wpAny_newList ?_ (by rw [sizeLine_eq]; omega))
  have hsnd : (ys.zip (.tup (z :: zs) :: xs)).map (·.2) = .tup (z :: zs) :: xs := List.map_snd_zip (Nat.le_of_eq hlen.symm)
  -- each value: its V and Va, its reading
  have e0 := each_rd I rl rv eh
  obtain ⟨bs, pb, eb⟩ := each_perm pmo e0
  have pws : (bs.map (·.2)).Perm (.tup (z :: zs) :: xs) := by
    have := (pb.map (·.2)).symm
    rwa [hsnd] at this
  have hsh' : shpAll (.tup (z :: zs)) (bs.map (·.2)) = true := shpAll_perm pws hsh
  have hmap : bs.map (fun b : V × Va => toD b.2) = toDs (bs.map (·.2)) := by
    rw [toDs_map, List.map_map]
    rfl
  have hpush : ∀ b u, s.heap.get? b = some u → (s1.heap.push { cls := .type "list", data := .seq out.toArray }).get? b = some u := fun b u e => Heap.get?_push_of_some _ (k1 b u e)
  have hoL : (s1.heap.push { cls := .type "list", data := .seq out.toArray }).get? s1.heap.objs.size = some (seqObj "list" out.toArray 0) := Heap.get?_push_size _ rfl
  refine wpAny_bind (wpAny_holding (PySem.W.list_sort_data (s := { s1 with heap := s1.heap.push { cls := .type "list", data := .seq out.toArray } }) (β := V × Va) (enc := fun b => toD b.2) (R := fun v b => RelV b.1 v ∧ Rp (kx X) ρ H b.1 b.2) hoL
    (eb.mono fun v b hb => ⟨hb.1, hb.2.1⟩) (eb.mono fun v b hb => ⟨[], PyProof.Rows.Reads.keeps hpush hb.2.2, List.not_mem_nil⟩) ?_ ?_ (by rw [← eb.length, hol, sizeLine_eq]; omega) (fun b hb => ?_) fun out2 hout he => ?_))
  · rw [hmap]
    exact (alikeAll_of hsh').1
  · rw [hmap, toDs_map]
    refine .inl fun d hd' => ?_
    obtain ⟨x, hx, rfl⟩ := List.mem_map.mp hd'
    have h1 := shpAll_mem hsh' x hx
    cases x with
    | tup ws => cases ws with
      | nil => simp [shp, shps] at h1
      | cons w ws => exact ⟨toD w, toDs ws, by simp [toD, toDs]⟩
    | _ => simp [shp] at h1
  · have hm : b.2 ∈ (Va.tup (z :: zs) :: xs) := pws.mem_iff.mp (List.mem_map_of_mem hb)
    have h1 := (plain_toD 7 b.2 (mem_dle hd _ hm)).2
    show X.A.units + 1 + 1 + (toD b.2).depth < cLine
    omega
  · have hm : (bs.mergeSort (PySem.W.dataLe false fun b : V × Va => toD b.2)).map (·.2) = sortV (.tup (z :: zs) :: xs) := by
      refine (PySem.W.sort_maps (r := PySem.W.dataLe false fun b : V × Va => toD b.2) (s := PySem.W.dataLe false toD) (fun b : V × Va => b.2) (fun _ _ _ _ => rfl)).trans ?_
      exact sortV_mergeP pws hsh hasc
    obtain ⟨h1, h2⟩ := unzip_each he
    rw [hm] at h2
    obtain ⟨c, hcc⟩ := sortedHeap_at (vs := out) (out := List.toArray out2) hoL
    have hlt : ∀ b u, s.heap.get? b = some u → b < s1.heap.objs.size := fun b u e => Heap.lt_size (k1 b u e)
    have kk : ∀ b u, s.heap.get? b = some u → (sortedHeap (s1.heap.push { cls := .type "list", data := .seq out.toArray }) s1.heap.objs.size out (List.toArray out2)).get? b = some u := fun b u e => by
      have hb := hlt b u e
      rw [sortedHeap_old (Nat.ne_of_lt hb) (by rw [size_push']; exact Nat.lt_succ_of_lt hb)]
      exact hpush b u e
    have hn : H s1.heap.objs.size = none := I.hok.fresh hz
    have hvl : ((bs.mergeSort (PySem.W.dataLe false fun b : V × Va => toD b.2)).map (·.1)).length ≤ sizeLine := by
      rw [h1.length, hout, ← eb.length, hol, sizeLine_eq]
      omega
    have J : Inv X pins σ (upd H s1.heap.objs.size (.lst ((bs.mergeSort (PySem.W.dataLe false fun b : V × Va => toD b.2)).map (·.1)))) { s with heap := sortedHeap (s1.heap.push { cls := .type "list", data := .seq out.toArray }) s1.heap.objs.size out (List.toArray out2), gens := s1.gens, drawn := s1.drawn, toks := s1.toks } :=
      I.call (ch := []) (Un.laid kk hz hn) (I.hok.laid kk hz ⟨hvl, out2, c, h1, hcc⟩) (by rw [g1]; exact I.bare) (fun _ m => nomatch m)
    have es1 : ({ s1 with heap := sortedHeap (s1.heap.push { cls := .type "list", data := .seq out.toArray }) s1.heap.objs.size out (List.toArray out2) } : Shared) = { s with heap := sortedHeap (s1.heap.push { cls := .type "list", data := .seq out.toArray }) s1.heap.objs.size out (List.toArray out2), gens := s1.gens, drawn := s1.drawn, toks := s1.toks } := by
      cases s1
      cases s
      cases o1
      rfl
    refine wpAny_pure ⟨_, rfl, ?_⟩
    rw [es1]
    exact ⟨.ref s1.heap.objs.size, _, J, rfl, q _ h2 _ hn⟩
section
variable {e : Expr} {pos p p2 pos2 : Pos} {a : EM}
theorem se_sortedSet (hc : X.calm = true) (hu : X.A.units + 64 < cLine) (B : Bn X "sorted") (B2 : Bn X "set") (ha : SE X e a) (he : starEach [e] X.env = (false, eval e X.env) :: starEach [] X.env := by rfl)
    (he2 : starEach [.Call (.Name "set" p2) [e] [] pos2] X.env = (false, eval (.Call (.Name "set" p2) [e] [] pos2) X.env) :: starEach [] X.env := by rfl) : SE X (.Call (.Name "sorted" p) [.Call (.Name "set" p2) [e] [] pos2] [] pos) (xU a gSortSet) := by
  refine PE.imp (pe_callB (cr_sortSet hc hu) B.g B.m PyProof.Rows.boot_sorted (pa_cons (pe_callTy (cr_set hc hu) B2.g B2.m PyProof.Rows.boot_set (pa_cons ha pa_nil he) (he := he)) pa_nil he2) (he := he2)) fun σ H Q ⟨ρ, σv, h, w, h', st, hv, eq, kk⟩ => ?_
  unfold xU at eq
  split at eq
  · rename_i v h1 ea
    split at eq
    · rename_i w' eg
      cases eq
      refine e_one st hv ea fun ρ1 H1 x x1 st1 hv1 r1 => ?_
      unfold gSortSet at eg
      split at eg
      · rename_i ws e1
        split at eg
        · rename_i hs e2
          split at eg
          · rename_i e3 e4
            unfold gSorted at eg
            rw [e1] at eg
            skip
            split at eg
            · rename_i z zs xs q0
              cases q0
              split at eg
              · rename_i e5 e6 e7
                split at eg
                · rename_i e8
                  cases eg
                  obtain ⟨a, ys, rfl, q1, q2⟩ := list_ok hv1 r1 e1
                  have refs : ∀ y ∈ ys, ∃ b, y = V.ref b := fun y hy => by
                    obtain ⟨i, hi, ei⟩ := List.mem_iff_getElem.mp hy
                    obtain ⟨v, ev, rv⟩ := q2.get' (List.getElem?_eq_getElem hi)
                    rw [ei] at rv
                    have h1 := shpAll_mem e5 v (List.mem_of_getElem? ev)
                    cases rv with
                    | tup q r => exact ⟨_, rfl⟩
                    | _ => simp [shp] at h1
                  refine ⟨ρ1, a, ys, _, hs, rfl, q1, q2, e2, hdist_ok e3, short_len e4, e6, refs, fun b us hb rv => ?_⟩
                  have xu := Ext.upd (o := .ext (SetX X.w b (hs.zip us))) hv1 hb
                  refine ⟨ρ1, b, ys, z, zs, xs, hs, us, rfl, upd_same, rv, q2.ext xu, e2, e5, e6, e8, fun ys' r' p hp => ?_⟩
                  have hv2 := hv1.upd (o := .ext (SetX X.w b (hs.zip us))) hb
                  have xp := Ext.upd (o := .lst ys') hv2 hp
                  exact kk ρ1 _ _ ((x1.trans xu).trans xp) (hv2.upd hp) (.inl (.lst (.inl ⟨hv2.out hp, .inl upd_same⟩) (r'.ext xp)))
                · cases eg
              · cases eg
            · cases eg
          · cases eg
        · cases eg
      · cases eg
    · cases eq
  · cases eq
end
end
end Ev
end
section
set_option Elab.async false
set_option linter.all false
set_option maxRecDepth 100000
set_option maxHeartbeats 0
/-! EvZed: what stands in the module. Printed by gen_zed.py. -/
namespace Ev
open PySem PySem.Spec PyProof.Rows L2
theorem se_gs {X : Cx} {x y z : Str} {pos : Pos} (hm : ∃ t, X.mg x = some (.str z t)) (e : z = y := by decide) (hg : Gl X x := by rfl) (hd : (x == ("__debug__" : Str)) = false := by decide) : SE X (.Name x pos) (xC (.str y)) := by
  obtain ⟨t, hm⟩ := hm
  subst e
  exact se_gstr hm ⟨t, rfl⟩ hg hd
theorem dv_nil {ds : List Value} (h : Vals [] ds) : Dv [] [] ds := by cases h; exact .nil
theorem dv_int {i : Int} {ds : List Value} (h : Vals [V.int i] ds) : Dv [V.int i] [.int i] ds := by
  obtain ⟨u, rfl, t, rfl⟩ := L2.vals1 h
  exact .int i t .nil
theorem dv_str {i : Str} {ds : List Value} (h : Vals [V.str i] ds) : Dv [V.str i] [.str i] ds := by
  obtain ⟨u, rfl, t, rfl⟩ := L2.vals1 h
  exact .str i t .nil
theorem Cal.mono {P : Program} {w : World} {K : PySem.W.Frag} {mg : Str → Option Value} {base : Heap} {j k : Nat} {fx : Str} {ps : List Str} {g : Gm} {dus : List Va} (C : Cal P w K mg base j fx ps g dus) (h : j ≤ k) : Cal P w K mg base k fx ps g dus := by
  obtain ⟨⟨f, fd, dvs, ds, a, b, c, d, F⟩, ar⟩ := C
  exact ⟨⟨f, fd, dvs, ds, a, b, c, d, F.mono h⟩, ar⟩
theorem Cal.le {P : Program} {w : World} {K : PySem.W.Frag} {mg : Str → Option Value} {base : Heap} {k : Nat} {fx : Str} {ps : List Str} {g f : Gm} {dus : List Va} (C : Cal P w K mg base k fx ps f dus) (l : Le g f) : Cal P w K mg base k fx ps g dus := by
  obtain ⟨⟨a, fd, dvs, ds, h1, h2, h3, h4, F⟩, ar⟩ := C
  refine ⟨⟨a, fd, dvs, ds, h1, h2, h3, h4, ⟨spOf_len, fun A outer s H args us vs Q E hr he hb hv sp => F.2 A outer s H args us vs Q E hr he hb hv ?_⟩⟩, fun us h r e => ar us h r (l us h r e)⟩
  obtain ⟨ρ, h, us, v, h', a1, a2, a3, a4, a5⟩ := sp
  exact ⟨ρ, h, us, v, h', a1, a2, a3, l _ _ _ a4, a5⟩
end Ev
namespace K93
open PySem PySem.Spec PyProof.Rows L2 Ev
abbrev PG0 : Program := (PySem.Challenge.rw_throwshelves_k93_whole_counts_and_the_or).prog
structure Zed (w : World) (K : PySem.W.Frag) (mg : Str → Option Value) (base : Heap) : Prop where
  ns : ∃ h : Heap, K.In h ∧ h.Ns mainGlobals mg
  says : He.SaysD fa fn K
  ex : exP K = true
section
variable {w : World} {K : PySem.W.Frag} {mg : Str → Option Value} {base : Heap}
theorem gl_ok (Z : Zed w K mg base) {i : Nat} {x : Str} (h : fa[i]? = some (.glo x)) : mg x = some (.ref (He.ga K x)) := by
  obtain ⟨hp, X, G⟩ := Z.ns
  exact He.glo_ok X G (Z.says.fact i (f := .glo x) h)
theorem n_all (Z : Zed w K mg base) : mg "all" = none := by
  obtain ⟨hp, X, G⟩ := Z.ns
  exact He.free_ok X G (Z.says.fact 97 (f := .free "all") rfl)
theorem n_bool (Z : Zed w K mg base) : mg "bool" = none := by
  obtain ⟨hp, X, G⟩ := Z.ns
  exact He.free_ok X G (Z.says.fact 98 (f := .free "bool") rfl)
theorem n_enumerate (Z : Zed w K mg base) : mg "enumerate" = none := by
  obtain ⟨hp, X, G⟩ := Z.ns
  exact He.free_ok X G (Z.says.fact 99 (f := .free "enumerate") rfl)
theorem n_int (Z : Zed w K mg base) : mg "int" = none := by
  obtain ⟨hp, X, G⟩ := Z.ns
  exact He.free_ok X G (Z.says.fact 100 (f := .free "int") rfl)
theorem n_isinstance (Z : Zed w K mg base) : mg "isinstance" = none := by
  obtain ⟨hp, X, G⟩ := Z.ns
  exact He.free_ok X G (Z.says.fact 101 (f := .free "isinstance") rfl)
theorem n_len (Z : Zed w K mg base) : mg "len" = none := by
  obtain ⟨hp, X, G⟩ := Z.ns
  exact He.free_ok X G (Z.says.fact 102 (f := .free "len") rfl)
theorem n_list (Z : Zed w K mg base) : mg "list" = none := by
  obtain ⟨hp, X, G⟩ := Z.ns
  exact He.free_ok X G (Z.says.fact 103 (f := .free "list") rfl)
theorem n_max (Z : Zed w K mg base) : mg "max" = none := by
  obtain ⟨hp, X, G⟩ := Z.ns
  exact He.free_ok X G (Z.says.fact 104 (f := .free "max") rfl)
theorem n_min (Z : Zed w K mg base) : mg "min" = none := by
  obtain ⟨hp, X, G⟩ := Z.ns
  exact He.free_ok X G (Z.says.fact 105 (f := .free "min") rfl)
theorem n_range (Z : Zed w K mg base) : mg "range" = none := by
  obtain ⟨hp, X, G⟩ := Z.ns
  exact He.free_ok X G (Z.says.fact 106 (f := .free "range") rfl)
theorem n_set (Z : Zed w K mg base) : mg "set" = none := by
  obtain ⟨hp, X, G⟩ := Z.ns
  exact He.free_ok X G (Z.says.fact 107 (f := .free "set") rfl)
theorem n_sorted (Z : Zed w K mg base) : mg "sorted" = none := by
  obtain ⟨hp, X, G⟩ := Z.ns
  exact He.free_ok X G (Z.says.fact 108 (f := .free "sorted") rfl)
theorem n_str (Z : Zed w K mg base) : mg "str" = none := by
  obtain ⟨hp, X, G⟩ := Z.ns
  exact He.free_ok X G (Z.says.fact 109 (f := .free "str") rfl)
theorem n_sum (Z : Zed w K mg base) : mg "sum" = none := by
  obtain ⟨hp, X, G⟩ := Z.ns
  exact He.free_ok X G (Z.says.fact 110 (f := .free "sum") rfl)
theorem n_tuple (Z : Zed w K mg base) : mg "tuple" = none := by
  obtain ⟨hp, X, G⟩ := Z.ns
  exact He.free_ok X G (Z.says.fact 111 (f := .free "tuple") rfl)
theorem n_zip (Z : Zed w K mg base) : mg "zip" = none := by
  obtain ⟨hp, X, G⟩ := Z.ns
  exact He.free_ok X G (Z.says.fact 112 (f := .free "zip") rfl)
theorem n_REST (Z : Zed w K mg base) : ∃ t, mg "REST" = some (.str "rest" t) := by
  obtain ⟨hp, X, G⟩ := Z.ns
  exact He.str_ok X G (Z.says.fact 113 (f := .str "REST" "rest") rfl)
theorem n_FULL (Z : Zed w K mg base) : ∃ t, mg "FULL" = some (.str "full" t) := by
  obtain ⟨hp, X, G⟩ := Z.ns
  exact He.str_ok X G (Z.says.fact 114 (f := .str "FULL" "full") rfl)
theorem n_ONE (Z : Zed w K mg base) : ∃ t, mg "ONE" = some (.str "one" t) := by
  obtain ⟨hp, X, G⟩ := Z.ns
  exact He.str_ok X G (Z.says.fact 115 (f := .str "ONE" "one") rfl)
theorem n_BOTH (Z : Zed w K mg base) : ∃ t, mg "BOTH" = some (.str "both" t) := by
  obtain ⟨hp, X, G⟩ := Z.ns
  exact He.str_ok X G (Z.says.fact 116 (f := .str "BOTH" "both") rfl)
theorem n_CHANGED (Z : Zed w K mg base) : ∃ t, mg "CHANGED" = some (.str "turned" t) := by
  obtain ⟨hp, X, G⟩ := Z.ns
  exact He.str_ok X G (Z.says.fact 117 (f := .str "CHANGED" "turned") rfl)
theorem n_SWAPS (Z : Zed w K mg base) : ∃ t, mg "SWAPS" = some (.str "swaps" t) := by
  obtain ⟨hp, X, G⟩ := Z.ns
  exact He.str_ok X G (Z.says.fact 118 (f := .str "SWAPS" "swaps") rfl)
theorem n_STRETCH (Z : Zed w K mg base) : ∃ t, mg "STRETCH" = some (.str "stretch" t) := by
  obtain ⟨hp, X, G⟩ := Z.ns
  exact He.str_ok X G (Z.says.fact 119 (f := .str "STRETCH" "stretch") rfl)
theorem n_PRIMES (Z : Zed w K mg base) : mg "PRIMES" = some (.ref (He.ga K "PRIMES")) ∧ ∀ H, SqN K H (He.ga K "PRIMES") ([2, 3, 5, 7, 11, 13].map V.int) := by
  refine ⟨gl_ok Z (i := 120) rfl, fun H => ?_⟩
  have h := Z.ex
  unfold exP at h
  rw [Bool.and_eq_true] at h
  obtain ⟨h1, h2⟩ := h
  have q := He.tupB_ok h1 H
  cases e : K.lookup (He.ga K "PRIMES") with
  | none => rw [e] at h2; cases h2
  | some o =>
    rw [e] at h2
    obtain ⟨oc, od, dt, sl⟩ := o
    cases od with
    | some _ => cases h2
    | none =>
      have h3 := h1
      unfold He.tupB at h3
      rw [e] at h3
      cases oc with
      | type c =>
        cases dt with
        | seq its n =>
          have h4 : (decide (c = "tuple") && (decide (its.size ≤ sizeLine) && He.relAll ([(.int 2 : He.Dv), .int 3, .int 5, .int 7, .int 11, .int 13].map (He.Dv.v K)) its.toList)) = true := h3
          rw [Bool.and_eq_true, Bool.and_eq_true, decide_eq_true_iff, decide_eq_true_iff] at h4
          obtain ⟨a1, a2, a3⟩ := h4
          refine .inr ⟨_, its, n, e, by rw [a1], rfl, rfl, a2, ?_⟩
          exact He.relAll_ok a3
        | _ => cases h3
      | _ => cases h3
end
end K93
end
section
set_option Elab.async false
set_option linter.all false
set_option maxRecDepth 100000
set_option maxHeartbeats 4000000
/-! EvDeriv: each def's contract. Printed by gen_deriv.py. -/
namespace K93
open PySem PySem.Spec PyProof.Rows L2 Ev
section
variable {w : World} {K : PySem.W.Frag} {mg : Str → Option Value} {base : Heap}
def NN_2 : List Str := ["thing"]
def PP_2 : List Str := ["thing"]
theorem S_2 : FnScope NN_2 PP_2 (defScope (top 2)) := ⟨rfl, rfl, rfl, by decide +kernel, rfl, by decide +kernel, by decide +kernel⟩
theorem c_is_integer (Z : Zed w K mg base) : Cal PG0 w K mg base 1 "is_integer" PP_2 f_is_integer [] := by
  obtain ⟨fd, F⟩ := Z.says.def_ 0 (d := dd_2) rfl
  exact ⟨⟨_, fd, [], [], gl_ok Z (i := 0) rfl, F.kp, F.bindsN fun _ _ _ _ _ _ us hl => match us, hl with | [_], _ => rfl, .nil, fn_ok (k := 0) (N := NN_2) (b := b_is_integer) F S_2 fun cdv A outer s H E hr => (sss_one (ss_ret (se_and (se_isi ⟨rfl, n_isinstance Z⟩ ⟨rfl, n_int Z⟩ PyProof.Rows.boot_int se_var) (se_one (se_not (se_isi ⟨rfl, n_isinstance Z⟩ ⟨rfl, n_bool Z⟩ PyProof.Rows.boot_bool se_var))))))⟩, ar_fn⟩
def NN_3 : List Str := ["thing"]
def PP_3 : List Str := ["thing"]
theorem S_3 : FnScope NN_3 PP_3 (defScope (top 3)) := ⟨rfl, rfl, rfl, by decide +kernel, rfl, by decide +kernel, by decide +kernel⟩
theorem c_is_number (Z : Zed w K mg base) : Cal PG0 w K mg base 2 "is_number" PP_3 f_is_number [] := by
  obtain ⟨fd, F⟩ := Z.says.def_ 1 (d := dd_3) rfl
  exact ⟨⟨_, fd, [], [], gl_ok Z (i := 1) rfl, F.kp, F.bindsN fun _ _ _ _ _ _ us hl => match us, hl with | [_], _ => rfl, .nil, fn_ok (k := 1) (N := NN_3) (b := b_is_number) F S_3 fun cdv A outer s H E hr => (sss_one (ss_ret (se_and (se_call (c_is_integer Z) hr (by decide) (sa_cons se_var sa_nil)) (se_one (se_ge se_var se_int)))))⟩, ar_fn⟩
def NN_4 : List Str := ["thing", "many"]
def PP_4 : List Str := ["thing", "many"]
theorem S_4 : FnScope NN_4 PP_4 (defScope (top 4)) := ⟨rfl, rfl, rfl, by decide +kernel, rfl, by decide +kernel, by decide +kernel⟩
theorem c_is_index (Z : Zed w K mg base) : Cal PG0 w K mg base 3 "is_index" PP_4 f_is_index [] := by
  obtain ⟨fd, F⟩ := Z.says.def_ 2 (d := dd_4) rfl
  exact ⟨⟨_, fd, [], [], gl_ok Z (i := 2) rfl, F.kp, F.bindsN fun _ _ _ _ _ _ us hl => match us, hl with | [_, _], _ => rfl, .nil, fn_ok (k := 2) (N := NN_4) (b := b_is_index) F S_4 fun cdv A outer s H E hr => (sss_one (ss_ret (se_and (se_call (c_is_number Z) hr (by decide) (sa_cons se_var sa_nil)) (se_one (se_lt se_var se_var)))))⟩, ar_fn⟩
def NN_5 : List Str := ["thing"]
def PP_5 : List Str := ["thing"]
theorem S_5 : FnScope NN_5 PP_5 (defScope (top 5)) := ⟨rfl, rfl, rfl, by decide +kernel, rfl, by decide +kernel, by decide +kernel⟩
theorem c_is_size (Z : Zed w K mg base) : Cal PG0 w K mg base 2 "is_size" PP_5 f_is_size [] := by
  obtain ⟨fd, F⟩ := Z.says.def_ 3 (d := dd_5) rfl
  exact ⟨⟨_, fd, [], [], gl_ok Z (i := 3) rfl, F.kp, F.bindsN fun _ _ _ _ _ _ us hl => match us, hl with | [_], _ => rfl, .nil, fn_ok (k := 1) (N := NN_5) (b := b_is_size) F S_5 fun cdv A outer s H E hr => (sss_one (ss_ret (se_and (se_call (c_is_integer Z) hr (by decide) (sa_cons se_var sa_nil)) (se_one (se_ge se_var se_int)))))⟩, ar_fn⟩
def NN_6 : List Str := ["thing", "many"]
def PP_6 : List Str := ["thing", "many"]
theorem S_6 : FnScope NN_6 PP_6 (defScope (top 6)) := ⟨rfl, rfl, rfl, by decide +kernel, rfl, by decide +kernel, by decide +kernel⟩
theorem c_is_tuple_of (Z : Zed w K mg base) : Cal PG0 w K mg base 1 "is_tuple_of" PP_6 f_is_tuple_of [] := by
  obtain ⟨fd, F⟩ := Z.says.def_ 4 (d := dd_6) rfl
  exact ⟨⟨_, fd, [], [], gl_ok Z (i := 4) rfl, F.kp, F.bindsN fun _ _ _ _ _ _ us hl => match us, hl with | [_, _], _ => rfl, .nil, fn_ok (k := 0) (N := NN_6) (b := b_is_tuple_of) F S_6 fun cdv A outer s H E hr => (sss_one (ss_ret (se_and (se_isi ⟨rfl, n_isinstance Z⟩ ⟨rfl, n_tuple Z⟩ PyProof.Rows.boot_tuple se_var) (se_one (se_eq hr.units (se_len ⟨rfl, n_len Z⟩ se_var) se_var)))))⟩, ar_fn⟩
def NN_7 : List Str := ["thing"]
def PP_7 : List Str := ["thing"]
theorem S_7 : FnScope NN_7 PP_7 (defScope (top 7)) := ⟨rfl, rfl, rfl, by decide +kernel, rfl, by decide +kernel, by decide +kernel⟩
theorem c_is_prime (Z : Zed w K mg base) : Cal PG0 w K mg base 2 "is_prime" PP_7 f_is_prime [] := by
  obtain ⟨fd, F⟩ := Z.says.def_ 5 (d := dd_7) rfl
  exact ⟨⟨_, fd, [], [], gl_ok Z (i := 5) rfl, F.kp, F.bindsN fun _ _ _ _ _ _ us hl => match us, hl with | [_], _ => rfl, .nil, fn_ok (k := 1) (N := NN_7) (b := b_is_prime) F S_7 fun cdv A outer s H E hr => (sss_one (ss_ret (se_and (se_call (c_is_integer Z) hr (by decide) (sa_cons se_var sa_nil)) (se_one (se_in hr.units se_var (se_gtup (ns := [2, 3, 5, 7, 11, 13]) (n_PRIMES Z).1 (n_PRIMES Z).2))))))⟩, ar_fn⟩
def NN_8 : List Str := ["size", "thing"]
def PP_8 : List Str := ["size", "thing"]
theorem S_8 : FnScope NN_8 PP_8 (defScope (top 8)) := ⟨rfl, rfl, rfl, by decide +kernel, rfl, by decide +kernel, by decide +kernel⟩
theorem c_is_stretch (Z : Zed w K mg base) : Cal PG0 w K mg base 4 "is_stretch" PP_8 f_is_stretch [] := by
  obtain ⟨fd, F⟩ := Z.says.def_ 6 (d := dd_8) rfl
  exact ⟨⟨_, fd, [], [], gl_ok Z (i := 6) rfl, F.kp, F.bindsN fun _ _ _ _ _ _ us hl => match us, hl with | [_, _], _ => rfl, .nil, fn_ok (k := 3) (N := NN_8) (b := b_is_stretch) F S_8 fun cdv A outer s H E hr => (sss_cons (ss_if (sb_w (sw_or (sb_not (sb_val (se_call (c_is_size Z) hr (by decide) (sa_cons se_var sa_nil)))) (sw_or1 (sb_not (sb_val (se_call (c_is_tuple_of Z) hr (by decide) (sa_cons se_var (sa_cons se_int sa_nil)))))))) (sss_one (ss_ret se_bl)) sss_nil) (sss_one (ss_ret (se_and (se_call (c_is_index Z) hr (by decide) (sa_cons (se_ix se_var se_int) (sa_cons se_var sa_nil))) (se_and (se_call (c_is_number Z) hr (by decide) (sa_cons (se_ix se_var se_int) sa_nil)) (se_one (se_le (se_ix se_var se_int) se_var)))))))⟩, ar_fn⟩
def NN_10 : List Str := ["throws", "start", "length", "size", "k"]
def PP_10 : List Str := ["throws", "start", "length"]
theorem S_10 : FnScope NN_10 PP_10 (defScope (top 10)) := ⟨rfl, rfl, rfl, by decide +kernel, rfl, by decide +kernel, by decide +kernel⟩
theorem c_rank_in_0 (Z : Zed w K mg base) : Cal PG0 w K mg base 1 "rank_in" PP_10 f_rank_in [] := by
  obtain ⟨fd, F⟩ := Z.says.def_ 7 (d := dd_10) rfl
  exact ⟨⟨_, fd, [], [], gl_ok Z (i := 7) rfl, F.kp, F.bindsN fun _ _ _ _ _ _ us hl => match us, hl with | [_, _, _], _ => rfl, .nil, fn_ok (k := 0) (N := NN_10) (b := b_rank_in) F S_10 fun cdv A outer s H E hr => (sss_cons (ss_set (se_len ⟨rfl, n_len Z⟩ se_var) S_10.nd) (sss_one (ss_ret (se_sub se_var (se_len ⟨rfl, n_len Z⟩ (se_lc1 rfl S_10.nd (own := [("k", 4)]) (by exact blkOk_by (N := NN_10) (sc := defScope (top 10)) (by decide +kernel)) (si_r1 ⟨rfl, n_range Z⟩ se_var) (fun s H C cl fp => (sg_name S_10.nd)) (fun s H C cl fp => (sb_lt (se_add se_var (se_ix se_var (se_mod (se_add se_var se_var) se_var))) se_var)) (fun s H C cl fp => se_var)))))))⟩, ar_fn⟩
theorem c_rank_in (Z : Zed w K mg base) : Cal PG0 w K mg base 1 "rank_in" PP_10 g_rank_in [] := (c_rank_in_0 Z).le le_rank
def NN_18 : List Str := ["holds", "word", "at"]
def PP_18 : List Str := ["holds", "word", "at"]
theorem S_18 : FnScope NN_18 PP_18 (defScope (top 18)) := ⟨rfl, rfl, rfl, by decide +kernel, rfl, by decide +kernel, by decide +kernel⟩
theorem c_want (Z : Zed w K mg base) : Cal PG0 w K mg base 1 "want" PP_18 f_want [.int (-1)] := by
  obtain ⟨fd, F⟩ := Z.says.def_ 8 (d := dd_18) rfl
  obtain ⟨ds, hd, hb⟩ := F.binds1 (ps := PP_18) 2 0 (by intro z; cases z) rfl fun T kV doc pm an cdv ct us its h1 h2 => match us, h1, its, h2 with | [_, _], _, [_], _ => ⟨_, rfl, rfl⟩
  exact ⟨⟨_, fd, _, ds, gl_ok Z (i := 8) rfl, F.kp, hb, dv_int hd, fn_ok (k := 0) (N := NN_18) (b := b_want) F S_18 fun cdv A outer s H E hr => (sss_one (ss_if (sb_not (sb_val se_var)) (sss_one (ss_never)) sss_nil))⟩, ar_fn⟩
def NN_19 : List Str := ["thing"]
def PP_19 : List Str := ["thing"]
theorem S_19 : FnScope NN_19 PP_19 (defScope (top 19)) := ⟨rfl, rfl, rfl, by decide +kernel, rfl, by decide +kernel, by decide +kernel⟩
theorem c_want_prime (Z : Zed w K mg base) : Cal PG0 w K mg base 3 "want_prime" PP_19 f_want_prime [] := by
  obtain ⟨fd, F⟩ := Z.says.def_ 9 (d := dd_19) rfl
  exact ⟨⟨_, fd, [], [], gl_ok Z (i := 9) rfl, F.kp, F.bindsN fun _ _ _ _ _ _ us hl => match us, hl with | [_], _ => rfl, .nil, fn_ok (k := 2) (N := NN_19) (b := b_want_prime) F S_19 fun cdv A outer s H E hr => (sss_one (ss_expr (se_call (c_want Z) hr (by decide) (sa_cons (se_call (c_is_prime Z) hr (by decide) (sa_cons se_var sa_nil)) (sa_cons se_str sa_nil)))))⟩, ar_fn⟩
def NN_20 : List Str := ["thing"]
def PP_20 : List Str := ["thing"]
theorem S_20 : FnScope NN_20 PP_20 (defScope (top 20)) := ⟨rfl, rfl, rfl, by decide +kernel, rfl, by decide +kernel, by decide +kernel⟩
theorem c_want_size (Z : Zed w K mg base) : Cal PG0 w K mg base 3 "want_size" PP_20 f_want_size [] := by
  obtain ⟨fd, F⟩ := Z.says.def_ 10 (d := dd_20) rfl
  exact ⟨⟨_, fd, [], [], gl_ok Z (i := 10) rfl, F.kp, F.bindsN fun _ _ _ _ _ _ us hl => match us, hl with | [_], _ => rfl, .nil, fn_ok (k := 2) (N := NN_20) (b := b_want_size) F S_20 fun cdv A outer s H E hr => (sss_one (ss_expr (se_call (c_want Z) hr (by decide) (sa_cons (se_call (c_is_size Z) hr (by decide) (sa_cons se_var sa_nil)) (sa_cons se_str sa_nil)))))⟩, ar_fn⟩
def NN_22 : List Str := ["thing", "k", "number", "known", "here"]
def PP_22 : List Str := ["thing"]
theorem S_22 : FnScope NN_22 PP_22 (defScope (top 22)) := ⟨rfl, rfl, rfl, by decide +kernel, rfl, by decide +kernel, by decide +kernel⟩
theorem c_form_fault (Z : Zed w K mg base) : Cal PG0 w K mg base 3 "form_fault" PP_22 f_form_fault [] := by
  obtain ⟨fd, F⟩ := Z.says.def_ 11 (d := dd_22) rfl
  exact ⟨⟨_, fd, [], [], gl_ok Z (i := 11) rfl, F.kp, F.bindsN fun _ _ _ _ _ _ us hl => match us, hl with | [_], _ => rfl, .nil, fn_ok (k := 2) (N := NN_22) (b := b_form_fault) F S_22 fun cdv A outer s H E hr => (sss_cons (ss_if (sb_w (sw_or (sb_not (sb_val (se_isi ⟨rfl, n_isinstance Z⟩ ⟨rfl, n_tuple Z⟩ PyProof.Rows.boot_tuple se_var))) (sw_or1 (sb_eq hr.units (se_len ⟨rfl, n_len Z⟩ se_var) se_int)))) (sss_one (ss_ret (se_tup (sa_cons se_str (sa_cons (se_neg se_int) sa_nil))))) sss_nil) (sss_cons (ss_for PassesOwn.never rfl (si_enum ⟨rfl, n_enumerate Z⟩ se_var) (sg_tup rfl (sgs_cons (sgs_cons sgs_nil S_22.nd) S_22.nd)) (sss_one (ss_if (sb_w (sw_or (sb_not (sb_val (se_call (c_is_number Z) hr (by decide) (sa_cons se_var sa_nil)))) (sw_or1 (sb_gt se_var (se_len ⟨rfl, n_len Z⟩ se_var))))) (sss_one (ss_ret (se_tup (sa_cons se_str (sa_cons se_var sa_nil))))) sss_nil))) (sss_cons (ss_set se_newDI S_22.nd) (sss_cons (ss_for PassesOwn.never rfl (si_enum ⟨rfl, n_enumerate Z⟩ se_var) (sg_tup rfl (sgs_cons (sgs_cons sgs_nil S_22.nd) S_22.nd)) (sss_cons (ss_set (se_mod (se_add se_var se_var) (se_len ⟨rfl, n_len Z⟩ se_var)) S_22.nd) (sss_cons (ss_if (sb_din hr.units se_var se_var) (sss_one (ss_ret (se_tup (sa_cons se_str (sa_cons (se_tup (sa_cons (se_dget hr.units se_var se_var) (sa_cons se_var sa_nil))) sa_nil))))) sss_nil) (sss_one (ss_dput hr.units se_var se_var se_var))))) (sss_one (ss_ret se_non))))))⟩, ar_fn⟩
def NN_23 : List Str := ["thing"]
def PP_23 : List Str := ["thing"]
theorem S_23 : FnScope NN_23 PP_23 (defScope (top 23)) := ⟨rfl, rfl, rfl, by decide +kernel, rfl, by decide +kernel, by decide +kernel⟩
theorem c_is_pattern_by (Z : Zed w K mg base) : Cal PG0 w K mg base 4 "is_pattern_by" PP_23 f_is_pattern_by [] := by
  obtain ⟨fd, F⟩ := Z.says.def_ 12 (d := dd_23) rfl
  exact ⟨⟨_, fd, [], [], gl_ok Z (i := 12) rfl, F.kp, F.bindsN fun _ _ _ _ _ _ us hl => match us, hl with | [_], _ => rfl, .nil, fn_ok (k := 3) (N := NN_23) (b := b_is_pattern_by) F S_23 fun cdv A outer s H E hr => (sss_one (ss_ret (se_isN (se_call (c_form_fault Z) hr (by decide) (sa_cons se_var sa_nil)) se_non)))⟩, ar_fn⟩
def NN_24 : List Str := ["pattern", "i"]
def PP_24 : List Str := ["pattern", "i"]
theorem S_24 : FnScope NN_24 PP_24 (defScope (top 24)) := ⟨rfl, rfl, rfl, by decide +kernel, rfl, by decide +kernel, by decide +kernel⟩
theorem c_lands_by_0 (Z : Zed w K mg base) : Cal PG0 w K mg base 1 "lands_by" PP_24 f_lands_by [] := by
  obtain ⟨fd, F⟩ := Z.says.def_ 13 (d := dd_24) rfl
  exact ⟨⟨_, fd, [], [], gl_ok Z (i := 13) rfl, F.kp, F.bindsN fun _ _ _ _ _ _ us hl => match us, hl with | [_, _], _ => rfl, .nil, fn_ok (k := 0) (N := NN_24) (b := b_lands_by) F S_24 fun cdv A outer s H E hr => (sss_one (ss_ret (se_add se_var (se_ix se_var (se_mod se_var (se_len ⟨rfl, n_len Z⟩ se_var))))))⟩, ar_fn⟩
theorem c_lands_by (Z : Zed w K mg base) : Cal PG0 w K mg base 1 "lands_by" PP_24 g_lands_by [] := (c_lands_by_0 Z).le le_lands
def NN_25 : List Str := ["pattern"]
def PP_25 : List Str := ["pattern"]
theorem S_25 : FnScope NN_25 PP_25 (defScope (top 25)) := ⟨rfl, rfl, rfl, by decide +kernel, rfl, by decide +kernel, by decide +kernel⟩
theorem c_balls_by (Z : Zed w K mg base) : Cal PG0 w K mg base 1 "balls_by" PP_25 f_balls_by [] := by
  obtain ⟨fd, F⟩ := Z.says.def_ 14 (d := dd_25) rfl
  exact ⟨⟨_, fd, [], [], gl_ok Z (i := 14) rfl, F.kp, F.bindsN fun _ _ _ _ _ _ us hl => match us, hl with | [_], _ => rfl, .nil, fn_ok (k := 0) (N := NN_25) (b := b_balls_by) F S_25 fun cdv A outer s H E hr => (sss_one (ss_ret (se_div (se_sum rfl ⟨rfl, n_sum Z⟩ se_var) (se_len ⟨rfl, n_len Z⟩ se_var))))⟩, ar_fn⟩
def NN_26 : List Str := ["pattern", "i", "j", "size", "near", "far", "throws"]
def PP_26 : List Str := ["pattern", "i", "j"]
theorem S_26 : FnScope NN_26 PP_26 (defScope (top 26)) := ⟨rfl, rfl, rfl, by decide +kernel, rfl, by decide +kernel, by decide +kernel⟩
theorem c_swapped_by_0 (Z : Zed w K mg base) : Cal PG0 w K mg base 2 "swapped_by" PP_26 f_swapped_by [] := by
  obtain ⟨fd, F⟩ := Z.says.def_ 15 (d := dd_26) rfl
  exact ⟨⟨_, fd, [], [], gl_ok Z (i := 15) rfl, F.kp, F.bindsN fun _ _ _ _ _ _ us hl => match us, hl with | [_, _, _], _ => rfl, .nil, fn_ok (k := 1) (N := NN_26) (b := b_swapped_by) F S_26 fun cdv A outer s H E hr => (sss_cons (ss_set (se_len ⟨rfl, n_len Z⟩ se_var) S_26.nd) (sss_cons (ss_par rfl (se_sub (se_call (c_lands_by Z) hr (by decide) (sa_cons se_var (sa_cons se_var sa_nil))) se_var) (se_sub (se_call (c_lands_by Z) hr (by decide) (sa_cons se_var (sa_cons se_var sa_nil))) se_var) S_26.nd) (sss_cons (ss_if (sb_w (sw_or (sb_gt se_var se_var) (sw_or1 (sb_lt se_var se_int)))) (sss_one (ss_ret se_non)) sss_nil) (sss_cons (ss_set (se_cellOf ⟨rfl, n_list Z⟩ se_var) S_26.nd) (sss_cons (ss_ix2 rfl se_var se_var se_var (se_mod se_var se_var) se_var se_var) (sss_one (ss_ret (se_tupOf ⟨rfl, n_tuple Z⟩ se_var))))))))⟩, ar_fn⟩
theorem c_swapped_by (Z : Zed w K mg base) : Cal PG0 w K mg base 2 "swapped_by" PP_26 g_swapped_by [] := (c_swapped_by_0 Z).le le_swapped
def NN_27 : List Str := ["pattern", "size", "pairs", "i", "j", "pair"]
def PP_27 : List Str := ["pattern"]
theorem S_27 : FnScope NN_27 PP_27 (defScope (top 27)) := ⟨rfl, rfl, rfl, by decide +kernel, rfl, by decide +kernel, by decide +kernel⟩
theorem c_pairs_by (Z : Zed w K mg base) : Cal PG0 w K mg base 3 "pairs_by" PP_27 f_pairs_by [] := by
  obtain ⟨fd, F⟩ := Z.says.def_ 16 (d := dd_27) rfl
  exact ⟨⟨_, fd, [], [], gl_ok Z (i := 16) rfl, F.kp, F.bindsN fun _ _ _ _ _ _ us hl => match us, hl with | [_], _ => rfl, .nil, fn_ok (k := 2) (N := NN_27) (b := b_pairs_by) F S_27 fun cdv A outer s H E hr => (sss_cons (ss_set (se_len ⟨rfl, n_len Z⟩ se_var) S_27.nd) (sss_cons (ss_lc2 rfl S_27.nd (own := [("i", 3), ("j", 4)]) (by exact blkOk_by (N := NN_27) (sc := defScope (top 27)) (by decide +kernel)) (si_r1 ⟨rfl, n_range Z⟩ se_var) (fun s H C cl fp => (sg_name S_27.nd)) (fun s H C cl fp => (si_r2 ⟨rfl, n_range Z⟩ (se_add se_var se_int) (se_add se_var se_var))) (fun s H C cl fp => (sg_name S_27.nd)) (fun s H C cl fp => (se_tup (sa_cons se_var (sa_cons se_var sa_nil))))) (sss_one (ss_ret (se_lc1 rfl S_27.nd (own := [("pair", 5)]) (by exact blkOk_by (N := NN_27) (sc := defScope (top 27)) (by decide +kernel)) (si_val se_var) (fun s H C cl fp => (sg_name S_27.nd)) (fun s H C cl fp => (sb_notN (se_call (c_swapped_by Z) hr (by decide) (sa_cons se_var (sa_cons (se_ix se_var se_int) (sa_cons (se_ix se_var se_int) sa_nil)))) se_non)) (fun s H C cl fp => se_var))))))⟩, ar_fn⟩
def NN_28 : List Str := ["pattern", "pair"]
def PP_28 : List Str := ["pattern", "pair"]
theorem S_28 : FnScope NN_28 PP_28 (defScope (top 28)) := ⟨rfl, rfl, rfl, by decide +kernel, rfl, by decide +kernel, by decide +kernel⟩
theorem c_is_rise (Z : Zed w K mg base) : Cal PG0 w K mg base 2 "is_rise" PP_28 f_is_rise [] := by
  obtain ⟨fd, F⟩ := Z.says.def_ 17 (d := dd_28) rfl
  exact ⟨⟨_, fd, [], [], gl_ok Z (i := 17) rfl, F.kp, F.bindsN fun _ _ _ _ _ _ us hl => match us, hl with | [_, _], _ => rfl, .nil, fn_ok (k := 1) (N := NN_28) (b := b_is_rise) F S_28 fun cdv A outer s H E hr => (sss_one (ss_ret (se_lt (se_call (c_lands_by Z) hr (by decide) (sa_cons se_var (sa_cons (se_ix se_var se_int) sa_nil))) (se_call (c_lands_by Z) hr (by decide) (sa_cons se_var (sa_cons (se_ix se_var se_int) sa_nil))))))⟩, ar_fn⟩
def NN_29 : List Str := ["pattern", "size", "pairs", "i", "j", "pair"]
def PP_29 : List Str := ["pattern"]
theorem S_29 : FnScope NN_29 PP_29 (defScope (top 29)) := ⟨rfl, rfl, rfl, by decide +kernel, rfl, by decide +kernel, by decide +kernel⟩
theorem c_depth_by (Z : Zed w K mg base) : Cal PG0 w K mg base 3 "depth_by" PP_29 f_depth_by [] := by
  obtain ⟨fd, F⟩ := Z.says.def_ 18 (d := dd_29) rfl
  exact ⟨⟨_, fd, [], [], gl_ok Z (i := 18) rfl, F.kp, F.bindsN fun _ _ _ _ _ _ us hl => match us, hl with | [_], _ => rfl, .nil, fn_ok (k := 2) (N := NN_29) (b := b_depth_by) F S_29 fun cdv A outer s H E hr => (sss_cons (ss_set (se_len ⟨rfl, n_len Z⟩ se_var) S_29.nd) (sss_cons (ss_lc2 rfl S_29.nd (own := [("i", 3), ("j", 4)]) (by exact blkOk_by (N := NN_29) (sc := defScope (top 29)) (by decide +kernel)) (si_r1 ⟨rfl, n_range Z⟩ se_var) (fun s H C cl fp => (sg_name S_29.nd)) (fun s H C cl fp => (si_r2 ⟨rfl, n_range Z⟩ (se_add se_var se_int) (se_add se_var se_var))) (fun s H C cl fp => (sg_name S_29.nd)) (fun s H C cl fp => (se_tup (sa_cons se_var (sa_cons se_var sa_nil))))) (sss_one (ss_ret (se_len ⟨rfl, n_len Z⟩ (se_lc1 rfl S_29.nd (own := [("pair", 5)]) (by exact blkOk_by (N := NN_29) (sc := defScope (top 29)) (by decide +kernel)) (si_val se_var) (fun s H C cl fp => (sg_name S_29.nd)) (fun s H C cl fp => (sb_not (sb_val (se_call (c_is_rise Z) hr (by decide) (sa_cons se_var (sa_cons se_var sa_nil)))))) (fun s H C cl fp => se_var)))))))⟩, ar_fn⟩
def NN_31 : List Str := ["one", "thing"]
def PP_31 : List Str := ["one", "thing"]
theorem S_31 : FnScope NN_31 PP_31 (defScope (top 31)) := ⟨rfl, rfl, rfl, by decide +kernel, rfl, by decide +kernel, by decide +kernel⟩
theorem c_is_peer (Z : Zed w K mg base) : Cal PG0 w K mg base 5 "is_peer" PP_31 f_is_peer [] := by
  obtain ⟨fd, F⟩ := Z.says.def_ 19 (d := dd_31) rfl
  exact ⟨⟨_, fd, [], [], gl_ok Z (i := 19) rfl, F.kp, F.bindsN fun _ _ _ _ _ _ us hl => match us, hl with | [_, _], _ => rfl, .nil, fn_ok (k := 4) (N := NN_31) (b := b_is_peer) F S_31 fun cdv A outer s H E hr => (sss_one (ss_ret (se_and (se_callZ (c_is_pattern_by Z) hr (by decide) (sa_cons se_var sa_nil)) (se_and (se_eq hr.units (se_len ⟨rfl, n_len Z⟩ se_var) (se_len ⟨rfl, n_len Z⟩ se_var)) (se_one (se_eq hr.units (se_callZ (c_balls_by Z) hr (by decide) (sa_cons se_var sa_nil)) (se_callZ (c_balls_by Z) hr (by decide) (sa_cons se_var sa_nil))))))))⟩, ar_fn⟩
def NN_32 : List Str := ["one", "thing", "name"]
def PP_32 : List Str := ["one", "thing", "name"]
theorem S_32 : FnScope NN_32 PP_32 (defScope (top 32)) := ⟨rfl, rfl, rfl, by decide +kernel, rfl, by decide +kernel, by decide +kernel⟩
theorem c_want_peer (Z : Zed w K mg base) : Cal PG0 w K mg base 6 "want_peer" PP_32 f_want_peer [.str ⟨#[111, 116, 104, 101, 114]⟩] := by
  obtain ⟨fd, F⟩ := Z.says.def_ 20 (d := dd_32) rfl
  obtain ⟨ds, hd, hb⟩ := F.binds1 (ps := PP_32) 2 0 (by intro z; cases z) rfl fun T kV doc pm an cdv ct us its h1 h2 => match us, h1, its, h2 with | [_, _], _, [_], _ => ⟨_, rfl, rfl⟩
  exact ⟨⟨_, fd, _, ds, gl_ok Z (i := 20) rfl, F.kp, hb, dv_str hd, fn_ok (k := 5) (N := NN_32) (b := b_want_peer) F S_32 fun cdv A outer s H E hr => (sss_one (ss_expr (se_callZ (c_want Z) hr (by decide) (sa_cons (se_callZ (c_is_peer Z) hr (by decide) (sa_cons se_var (sa_cons se_var sa_nil))) (sa_cons se_var sa_nil)))))⟩, ar_fn⟩
def NN_33 : List Str := ["one", "other", "size", "length", "start"]
def PP_33 : List Str := ["one", "other"]
theorem S_33 : FnScope NN_33 PP_33 (defScope (top 33)) := ⟨rfl, rfl, rfl, by decide +kernel, rfl, by decide +kernel, by decide +kernel⟩
theorem c_bar_by (Z : Zed w K mg base) : Cal PG0 w K mg base 2 "bar_by" PP_33 f_bar_by [] := by
  obtain ⟨fd, F⟩ := Z.says.def_ 21 (d := dd_33) rfl
  exact ⟨⟨_, fd, [], [], gl_ok Z (i := 21) rfl, F.kp, F.bindsN fun _ _ _ _ _ _ us hl => match us, hl with | [_, _], _ => rfl, .nil, fn_ok (k := 1) (N := NN_33) (b := b_bar_by) F S_33 fun cdv A outer s H E hr => (sss_cons (ss_set (se_len ⟨rfl, n_len Z⟩ se_var) S_33.nd) (sss_cons (ss_for PassesOwn.never rfl (si_r1 ⟨rfl, n_range Z⟩ (se_add se_var se_int)) (sg_name S_33.nd) (sss_one (ss_for PassesOwn.never rfl (si_r1 ⟨rfl, n_range Z⟩ se_var) (sg_name S_33.nd) (sss_one (ss_if (sb_gt (se_callZ (c_rank_in Z) hr (by decide) (sa_cons se_var (sa_cons se_var (sa_cons se_var sa_nil)))) (se_callZ (c_rank_in Z) hr (by decide) (sa_cons se_var (sa_cons se_var (sa_cons se_var sa_nil))))) (sss_one (ss_ret (se_tup (sa_cons se_var (sa_cons se_var sa_nil))))) sss_nil))))) (sss_one (ss_ret se_non))))⟩, ar_fn⟩
def NN_34 : List Str := ["one", "other"]
def PP_34 : List Str := ["one", "other"]
theorem S_34 : FnScope NN_34 PP_34 (defScope (top 34)) := ⟨rfl, rfl, rfl, by decide +kernel, rfl, by decide +kernel, by decide +kernel⟩
theorem c_is_below_by (Z : Zed w K mg base) : Cal PG0 w K mg base 3 "is_below_by" PP_34 f_is_below_by [] := by
  obtain ⟨fd, F⟩ := Z.says.def_ 22 (d := dd_34) rfl
  exact ⟨⟨_, fd, [], [], gl_ok Z (i := 22) rfl, F.kp, F.bindsN fun _ _ _ _ _ _ us hl => match us, hl with | [_, _], _ => rfl, .nil, fn_ok (k := 2) (N := NN_34) (b := b_is_below_by) F S_34 fun cdv A outer s H E hr => (sss_one (ss_ret (se_isN (se_callZ (c_bar_by Z) hr (by decide) (sa_cons se_var (sa_cons se_var sa_nil))) se_non)))⟩, ar_fn⟩
def NN_35 : List Str := ["low", "here", "size", "some", "spot", "floor", "top", "near", "i", "c"]
def PP_35 : List Str := ["low", "here"]
theorem S_35 : FnScope NN_35 PP_35 (defScope (top 35)) := ⟨rfl, rfl, rfl, by decide +kernel, rfl, by decide +kernel, by decide +kernel⟩
theorem c_next_pair (Z : Zed w K mg base) : Cal PG0 w K mg base 2 "next_pair" PP_35 f_next_pair [] := by
  obtain ⟨fd, F⟩ := Z.says.def_ 23 (d := dd_35) rfl
  exact ⟨⟨_, fd, [], [], gl_ok Z (i := 23) rfl, F.kp, F.bindsN fun _ _ _ _ _ _ us hl => match us, hl with | [_, _], _ => rfl, .nil, fn_ok (k := 1) (N := NN_35) (b := b_next_pair) F S_35 fun cdv A outer s H E hr => (sss_cons (ss_set (se_len ⟨rfl, n_len Z⟩ se_var) S_35.nd) (sss_cons (ss_lc1 rfl S_35.nd (own := [("i", 8)]) (by exact blkOk_by (N := NN_35) (sc := defScope (top 35)) (by decide +kernel)) (si_r1 ⟨rfl, n_range Z⟩ se_var) (fun s H C cl fp => (sg_name S_35.nd)) (fun s H C cl fp => (sb_ne hr.units (se_ix se_var se_var) (se_ix se_var se_var))) (fun s H C cl fp => (se_tup (sa_cons (se_min2 rfl ⟨rfl, n_min Z⟩ (se_ix se_var se_var) (se_ix se_var se_var)) (sa_cons se_var sa_nil))))) (sss_cons (ss_set (se_ix (se_min rfl hr.units ⟨rfl, n_min Z⟩ se_var) se_int) S_35.nd) (sss_cons (ss_parT rfl (se_callZ (c_lands_by Z) hr (by decide) (sa_cons se_var (sa_cons se_var sa_nil))) (se_callZ (c_lands_by Z) hr (by decide) (sa_cons se_var (sa_cons se_var sa_nil))) S_35.nd) (sss_cons (ss_set (se_max rfl hr.units ⟨rfl, n_max Z⟩ (se_lc1 rfl S_35.nd (own := [("c", 9)]) (by exact blkOk_by (N := NN_35) (sc := defScope (top 35)) (by decide +kernel)) (si_r2 ⟨rfl, n_range Z⟩ (se_add (se_sub se_var se_var) se_int) se_var) (fun s H C cl fp => (sg_name S_35.nd)) (fun s H C cl fp => (sb_chain .le .lt se_var (se_callZ (c_lands_by Z) hr (by decide) (sa_cons se_var (sa_cons se_var sa_nil))) se_var)) (fun s H C cl fp => se_var))) S_35.nd) (sss_one (ss_ret (se_tup (sa_cons (se_mod se_var se_var) (sa_cons (se_sub (se_add se_var (se_mod se_var se_var)) se_var) sa_nil))))))))))⟩, ar_fn⟩
def NN_36 : List Str := ["one", "other", "here", "pairs", "pair"]
def PP_36 : List Str := ["one", "other"]
theorem S_36 : FnScope NN_36 PP_36 (defScope (top 36)) := ⟨rfl, rfl, rfl, by decide +kernel, rfl, by decide +kernel, by decide +kernel⟩
theorem c_chain_by (Z : Zed w K mg base) : Cal PG0 w K mg base 3 "chain_by" PP_36 f_chain_by [] := by
  obtain ⟨fd, F⟩ := Z.says.def_ 24 (d := dd_36) rfl
  exact ⟨⟨_, fd, [], [], gl_ok Z (i := 24) rfl, F.kp, F.bindsN fun _ _ _ _ _ _ us hl => match us, hl with | [_, _], _ => rfl, .nil, fn_ok (k := 2) (N := NN_36) (b := b_chain_by) F S_36 fun cdv A outer s H E hr => (sss_cons (ss_par rfl se_var (se_newL sa_nil) S_36.nd) (sss_cons (ss_while PassesOwn.never (sb_ne hr.units se_var se_var) (sss_cons (ss_set (se_callZ (c_next_pair Z) hr (by decide) (sa_cons se_var (sa_cons se_var sa_nil))) S_36.nd) (sss_cons (ss_app se_var se_var) (sss_one (ss_set (se_callZ (c_swapped_by Z) hr (by decide) (sa_cons se_var (sa_cons (se_ix se_var se_int) (sa_cons (se_ix se_var se_int) sa_nil)))) S_36.nd))))) (sss_one (ss_ret (se_tupOf ⟨rfl, n_tuple Z⟩ se_var)))))⟩, ar_fn⟩
def NN_38 : List Str := ["one", "other"]
def PP_38 : List Str := ["one", "other"]
theorem S_38 : FnScope NN_38 PP_38 (defScope (top 38)) := ⟨rfl, rfl, rfl, by decide +kernel, rfl, by decide +kernel, by decide +kernel⟩
theorem c_lies_below (Z : Zed w K mg base) : Cal PG0 w K mg base 7 "lies_below" PP_38 f_lies_below [] := by
  obtain ⟨fd, F⟩ := Z.says.def_ 25 (d := dd_38) rfl
  exact ⟨⟨_, fd, [], [], gl_ok Z (i := 25) rfl, F.kp, F.bindsN fun _ _ _ _ _ _ us hl => match us, hl with | [_, _], _ => rfl, .nil, fn_ok (k := 6) (N := NN_38) (b := b_lies_below) F S_38 fun cdv A outer s H E hr => (sss_cons (ss_expr (se_callZ (c_want_peer Z) hr (by decide) (sa_cons se_var (sa_cons se_var sa_nil)))) (sss_one (ss_ret (se_callZ (c_is_below_by Z) hr (by decide) (sa_cons se_var (sa_cons se_var sa_nil))))))⟩, ar_fn⟩
def NN_39 : List Str := ["one", "other"]
def PP_39 : List Str := ["one", "other"]
theorem S_39 : FnScope NN_39 PP_39 (defScope (top 39)) := ⟨rfl, rfl, rfl, by decide +kernel, rfl, by decide +kernel, by decide +kernel⟩
theorem c_barring_stretch (Z : Zed w K mg base) : Cal PG0 w K mg base 7 "barring_stretch" PP_39 f_barring_stretch [] := by
  obtain ⟨fd, F⟩ := Z.says.def_ 26 (d := dd_39) rfl
  exact ⟨⟨_, fd, [], [], gl_ok Z (i := 26) rfl, F.kp, F.bindsN fun _ _ _ _ _ _ us hl => match us, hl with | [_, _], _ => rfl, .nil, fn_ok (k := 6) (N := NN_39) (b := b_barring_stretch) F S_39 fun cdv A outer s H E hr => (sss_cons (ss_expr (se_callZ (c_want_peer Z) hr (by decide) (sa_cons se_var (sa_cons se_var sa_nil)))) (sss_one (ss_ret (se_callZ (c_bar_by Z) hr (by decide) (sa_cons se_var (sa_cons se_var sa_nil))))))⟩, ar_fn⟩
def NN_40 : List Str := ["one", "other"]
def PP_40 : List Str := ["one", "other"]
theorem S_40 : FnScope NN_40 PP_40 (defScope (top 40)) := ⟨rfl, rfl, rfl, by decide +kernel, rfl, by decide +kernel, by decide +kernel⟩
theorem c_chain_to (Z : Zed w K mg base) : Cal PG0 w K mg base 7 "chain_to" PP_40 f_chain_to [] := by
  obtain ⟨fd, F⟩ := Z.says.def_ 27 (d := dd_40) rfl
  exact ⟨⟨_, fd, [], [], gl_ok Z (i := 27) rfl, F.kp, F.bindsN fun _ _ _ _ _ _ us hl => match us, hl with | [_, _], _ => rfl, .nil, fn_ok (k := 6) (N := NN_40) (b := b_chain_to) F S_40 fun cdv A outer s H E hr => (sss_cons (ss_expr (se_callZ (c_want_peer Z) hr (by decide) (sa_cons se_var (sa_cons se_var sa_nil)))) (sss_one (ss_ret (se_if (sb_val (se_callZ (c_is_below_by Z) hr (by decide) (sa_cons se_var (sa_cons se_var sa_nil)))) (se_callZ (c_chain_by Z) hr (by decide) (sa_cons se_var (sa_cons se_var sa_nil))) se_non))))⟩, ar_fn⟩
def NN_42 : List Str := ["prime", "digit", "one"]
def PP_42 : List Str := ["prime", "digit"]
theorem S_42 : FnScope NN_42 PP_42 (defScope (top 42)) := ⟨rfl, rfl, rfl, by decide +kernel, rfl, by decide +kernel, by decide +kernel⟩
theorem c_inverse_in (Z : Zed w K mg base) : Cal PG0 w K mg base 1 "inverse_in" PP_42 f_inverse_in [] := by
  obtain ⟨fd, F⟩ := Z.says.def_ 28 (d := dd_42) rfl
  exact ⟨⟨_, fd, [], [], gl_ok Z (i := 28) rfl, F.kp, F.bindsN fun _ _ _ _ _ _ us hl => match us, hl with | [_, _], _ => rfl, .nil, fn_ok (k := 0) (N := NN_42) (b := b_inverse_in) F S_42 fun cdv A outer s H E hr => (sss_one (ss_ret (se_ix (se_lc1 rfl S_42.nd (own := [("one", 2)]) (by exact blkOk_by (N := NN_42) (sc := defScope (top 42)) (by decide +kernel)) (si_r2 ⟨rfl, n_range Z⟩ se_int se_var) (fun s H C cl fp => (sg_name S_42.nd)) (fun s H C cl fp => (sb_eq hr.units (se_mod (se_mul se_var se_var) se_var) se_int)) (fun s H C cl fp => se_var)) se_int)))⟩, ar_fn⟩
def NN_43 : List Str := ["prime", "digit", "word", "one"]
def PP_43 : List Str := ["prime", "digit", "word"]
theorem S_43 : FnScope NN_43 PP_43 (defScope (top 43)) := ⟨rfl, rfl, rfl, by decide +kernel, rfl, by decide +kernel, by decide +kernel⟩
theorem c_times_by (Z : Zed w K mg base) : Cal PG0 w K mg base 1 "times_by" PP_43 f_times_by [] := by
  obtain ⟨fd, F⟩ := Z.says.def_ 29 (d := dd_43) rfl
  exact ⟨⟨_, fd, [], [], gl_ok Z (i := 29) rfl, F.kp, F.bindsN fun _ _ _ _ _ _ us hl => match us, hl with | [_, _, _], _ => rfl, .nil, fn_ok (k := 0) (N := NN_43) (b := b_times_by) F S_43 fun cdv A outer s H E hr => (sss_one (ss_ret (se_tupOf ⟨rfl, n_tuple Z⟩ (se_lc0 rfl S_43.nd (own := [("one", 3)]) (by exact blkOk_by (N := NN_43) (sc := defScope (top 43)) (by decide +kernel)) (si_val se_var) (fun s H C cl fp => (sg_name S_43.nd)) (fun s H C cl fp => (se_mod (se_mul se_var se_var) se_var))))))⟩, ar_fn⟩
def NN_44 : List Str := ["prime", "word", "digit", "row", "one", "other"]
def PP_44 : List Str := ["prime", "word", "digit", "row"]
theorem S_44 : FnScope NN_44 PP_44 (defScope (top 44)) := ⟨rfl, rfl, rfl, by decide +kernel, rfl, by decide +kernel, by decide +kernel⟩
theorem c_less_times (Z : Zed w K mg base) : Cal PG0 w K mg base 1 "less_times" PP_44 f_less_times [] := by
  obtain ⟨fd, F⟩ := Z.says.def_ 30 (d := dd_44) rfl
  exact ⟨⟨_, fd, [], [], gl_ok Z (i := 30) rfl, F.kp, F.bindsN fun _ _ _ _ _ _ us hl => match us, hl with | [_, _, _, _], _ => rfl, .nil, fn_ok (k := 0) (N := NN_44) (b := b_less_times) F S_44 fun cdv A outer s H E hr => (sss_one (ss_ret (se_tupOf ⟨rfl, n_tuple Z⟩ (se_lc0 rfl S_44.nd (own := [("one", 4), ("other", 5)]) (by exact blkOk_by (N := NN_44) (sc := defScope (top 44)) (by decide +kernel)) (si_zip ⟨rfl, n_zip Z⟩ se_var se_var) (fun s H C cl fp => (sg_tup rfl (sgs_cons (sgs_cons sgs_nil S_44.nd) S_44.nd))) (fun s H C cl fp => (se_mod (se_sub se_var (se_mul se_var se_var)) se_var))))))⟩, ar_fn⟩
def NN_46 : List Str := ["prime", "words", "spot", "heads", "head", "k", "one"]
def PP_46 : List Str := ["prime", "words", "spot"]
theorem S_46 : FnScope NN_46 PP_46 (defScope (top 46)) := ⟨rfl, rfl, rfl, by decide +kernel, rfl, by decide +kernel, by decide +kernel⟩
theorem c_cleared (Z : Zed w K mg base) : Cal PG0 w K mg base 2 "cleared" PP_46 f_cleared [] := by
  obtain ⟨fd, F⟩ := Z.says.def_ 31 (d := dd_46) rfl
  exact ⟨⟨_, fd, [], [], gl_ok Z (i := 31) rfl, F.kp, F.bindsN fun _ _ _ _ _ _ us hl => match us, hl with | [_, _, _], _ => rfl, .nil, fn_ok (k := 1) (N := NN_46) (b := b_cleared) F S_46 fun cdv A outer s H E hr => (sss_cons (ss_set (se_lc1 rfl S_46.nd (own := [("k", 5), ("one", 6)]) (by exact blkOk_by (N := NN_46) (sc := defScope (top 46)) (by decide +kernel)) (si_enum ⟨rfl, n_enumerate Z⟩ se_var) (fun s H C cl fp => (sg_tup rfl (sgs_cons (sgs_cons sgs_nil S_46.nd) S_46.nd))) (fun s H C cl fp => (sb_ne hr.units (se_ix se_var se_var) se_int)) (fun s H C cl fp => se_var)) S_46.nd) (sss_cons (ss_if (sb_eq hr.units (se_len ⟨rfl, n_len Z⟩ se_var) se_int) (sss_one (ss_ret se_var)) sss_nil) (sss_cons (ss_set (se_call (c_times_by Z) hr (by decide) (sa_cons se_var (sa_cons (se_call (c_inverse_in Z) hr (by decide) (sa_cons se_var (sa_cons (se_ix (se_ix se_var (se_ix se_var se_int)) se_var) sa_nil))) (sa_cons (se_ix se_var (se_ix se_var se_int)) sa_nil)))) S_46.nd) (sss_one (ss_ret (se_lc1 rfl S_46.nd (own := [("k", 5), ("one", 6)]) (by exact blkOk_by (N := NN_46) (sc := defScope (top 46)) (by decide +kernel)) (si_enum ⟨rfl, n_enumerate Z⟩ se_var) (fun s H C cl fp => (sg_tup rfl (sgs_cons (sgs_cons sgs_nil S_46.nd) S_46.nd))) (fun s H C cl fp => (sb_ne hr.units se_var (se_ix se_var se_int))) (fun s H C cl fp => (se_call (c_less_times Z) hr (by decide) (sa_cons se_var (sa_cons se_var (sa_cons (se_ix se_var se_var) (sa_cons se_var sa_nil))))))))))))⟩, ar_fn⟩
def NN_47 : List Str := ["book", "spot", "way", "prime", "size", "words", "some", "many", "one"]
def PP_47 : List Str := ["book", "spot", "way"]
theorem S_47 : FnScope NN_47 PP_47 (defScope (top 47)) := ⟨rfl, rfl, rfl, by decide +kernel, rfl, by decide +kernel, by decide +kernel⟩
theorem c_throw_in (Z : Zed w K mg base) : Cal PG0 w K mg base 3 "throw_in" PP_47 f_throw_in [] := by
  obtain ⟨fd, F⟩ := Z.says.def_ 32 (d := dd_47) rfl
  exact ⟨⟨_, fd, [], [], gl_ok Z (i := 32) rfl, F.kp, F.bindsN fun _ _ _ _ _ _ us hl => match us, hl with | [_, _, _], _ => rfl, .nil, fn_ok (k := 2) (N := NN_47) (b := b_throw_in) F S_47 fun cdv A outer s H E hr => (sss_cons (ss_unp rfl se_var (sgs_cons (sgs_cons (sgs_cons sgs_nil S_47.nd) S_47.nd) S_47.nd)) (sss_cons (ss_set (se_lstOf ⟨rfl, n_list Z⟩ se_var) S_47.nd) (sss_cons (ss_for PassesOwn.never rfl (si_r1 ⟨rfl, n_range Z⟩ se_var) (sg_name S_47.nd) (sss_cons (ss_if (sb_val (se_all rfl ⟨rfl, n_all Z⟩ (se_lc0 rfl S_47.nd (own := [("one", 8)]) (by exact blkOk_by (N := NN_47) (sc := defScope (top 47)) (by decide +kernel)) (si_val se_var) (fun s H C cl fp => (sg_name S_47.nd)) (fun s H C cl fp => (se_eq hr.units (se_ix se_var se_var) se_int))))) (sss_one (ss_ret se_var)) sss_nil) (sss_one (ss_set (se_call (c_cleared Z) hr (by decide) (sa_cons se_var (sa_cons se_var (sa_cons (se_mod (se_add se_var (se_mul se_var (se_add se_var se_int))) se_var) sa_nil)))) S_47.nd)))) (sss_one (ss_ret se_var)))))⟩, ar_fn⟩
def NN_48 : List Str := ["book", "spot"]
def PP_48 : List Str := ["book"]
theorem S_48 : FnScope NN_48 PP_48 (defScope (top 48)) := ⟨rfl, rfl, rfl, by decide +kernel, rfl, by decide +kernel, by decide +kernel⟩
theorem c_throws_in (Z : Zed w K mg base) : Cal PG0 w K mg base 4 "throws_in" PP_48 f_throws_in [] := by
  obtain ⟨fd, F⟩ := Z.says.def_ 33 (d := dd_48) rfl
  exact ⟨⟨_, fd, [], [], gl_ok Z (i := 33) rfl, F.kp, F.bindsN fun _ _ _ _ _ _ us hl => match us, hl with | [_], _ => rfl, .nil, fn_ok (k := 3) (N := NN_48) (b := b_throws_in) F S_48 fun cdv A outer s H E hr => (sss_one (ss_ret (se_tupOf ⟨rfl, n_tuple Z⟩ (se_lc0 rfl S_48.nd (own := [("spot", 1)]) (by exact blkOk_by (N := NN_48) (sc := defScope (top 48)) (by decide +kernel)) (si_r1 ⟨rfl, n_range Z⟩ (se_ix se_var se_int)) (fun s H C cl fp => (sg_name S_48.nd)) (fun s H C cl fp => (se_call (c_throw_in Z) hr (by decide) (sa_cons se_var (sa_cons se_var (sa_cons se_int sa_nil)))))))))⟩, ar_fn⟩
def NN_50 : List Str := ["book"]
def PP_50 : List Str := ["book"]
theorem S_50 : FnScope NN_50 PP_50 (defScope (top 50)) := ⟨rfl, rfl, rfl, by decide +kernel, rfl, by decide +kernel, by decide +kernel⟩
theorem c_pattern_of (Z : Zed w K mg base) : Cal PG0 w K mg base 5 "pattern_of" PP_50 f_pattern_of [] := by
  obtain ⟨fd, F⟩ := Z.says.def_ 34 (d := dd_50) rfl
  exact ⟨⟨_, fd, [], [], gl_ok Z (i := 34) rfl, F.kp, F.bindsN fun _ _ _ _ _ _ us hl => match us, hl with | [_], _ => rfl, .nil, fn_ok (k := 4) (N := NN_50) (b := b_pattern_of) F S_50 fun cdv A outer s H E hr => (sss_one (ss_ret (se_callZ (c_throws_in Z) hr (by decide) (sa_cons se_var sa_nil))))⟩, ar_fn⟩
def NN_54 : List Str := ["size", "place", "spot"]
def PP_54 : List Str := ["size", "place", "spot"]
theorem S_54 : FnScope NN_54 PP_54 (defScope (top 54)) := ⟨rfl, rfl, rfl, by decide +kernel, rfl, by decide +kernel, by decide +kernel⟩
theorem c_spot_without (Z : Zed w K mg base) : Cal PG0 w K mg base 1 "spot_without" PP_54 f_spot_without [] := by
  obtain ⟨fd, F⟩ := Z.says.def_ 35 (d := dd_54) rfl
  exact ⟨⟨_, fd, [], [], gl_ok Z (i := 35) rfl, F.kp, F.bindsN fun _ _ _ _ _ _ us hl => match us, hl with | [_, _, _], _ => rfl, .nil, fn_ok (k := 0) (N := NN_54) (b := b_spot_without) F S_54 fun cdv A outer s H E hr => (sss_one (ss_ret (se_sub (se_sub se_var (se_div (se_sub (se_sub se_var se_var) se_int) se_var)) se_int)))⟩, ar_fn⟩
def NN_55 : List Str := ["throws", "place", "size", "ends", "one", "here", "end"]
def PP_55 : List Str := ["throws", "place"]
theorem S_55 : FnScope NN_55 PP_55 (defScope (top 55)) := ⟨rfl, rfl, rfl, by decide +kernel, rfl, by decide +kernel, by decide +kernel⟩
theorem c_without_shelf (Z : Zed w K mg base) : Cal PG0 w K mg base 2 "without_shelf" PP_55 f_without_shelf [] := by
  obtain ⟨fd, F⟩ := Z.says.def_ 36 (d := dd_55) rfl
  exact ⟨⟨_, fd, [], [], gl_ok Z (i := 36) rfl, F.kp, F.bindsN fun _ _ _ _ _ _ us hl => match us, hl with | [_, _], _ => rfl, .nil, fn_ok (k := 1) (N := NN_55) (b := b_without_shelf) F S_55 fun cdv A outer s H E hr => (sss_cons (ss_set (se_len ⟨rfl, n_len Z⟩ se_var) S_55.nd) (sss_cons (ss_lc1 rfl S_55.nd (own := [("one", 4), ("here", 5)]) (by exact blkOk_by (N := NN_55) (sc := defScope (top 55)) (by decide +kernel)) (si_enum ⟨rfl, n_enumerate Z⟩ se_var) (fun s H C cl fp => (sg_tup rfl (sgs_cons (sgs_cons sgs_nil S_55.nd) S_55.nd))) (fun s H C cl fp => (sb_ne hr.units se_var se_var)) (fun s H C cl fp => (se_tup (sa_cons se_var (sa_cons (se_call (c_spot_without Z) hr (by decide) (sa_cons se_var (sa_cons se_var (sa_cons (se_add se_var se_var) sa_nil)))) sa_nil))))) (sss_one (ss_ret (se_tupOf ⟨rfl, n_tuple Z⟩ (se_lc0 rfl S_55.nd (own := [("one", 4), ("end", 6)]) (by exact blkOk_by (N := NN_55) (sc := defScope (top 55)) (by decide +kernel)) (si_val se_var) (fun s H C cl fp => (sg_tup rfl (sgs_cons (sgs_cons sgs_nil S_55.nd) S_55.nd))) (fun s H C cl fp => (se_sub se_var (se_call (c_spot_without Z) hr (by decide) (sa_cons se_var (sa_cons se_var (sa_cons se_var sa_nil))))))))))))⟩, ar_fn⟩
def NN_56 : List Str := ["throws", "place"]
def PP_56 : List Str := ["throws", "place"]
theorem S_56 : FnScope NN_56 PP_56 (defScope (top 56)) := ⟨rfl, rfl, rfl, by decide +kernel, rfl, by decide +kernel, by decide +kernel⟩
theorem c_are_nested_at (Z : Zed w K mg base) : Cal PG0 w K mg base 2 "are_nested_at" PP_56 f_are_nested_at [] := by
  obtain ⟨fd, F⟩ := Z.says.def_ 37 (d := dd_56) rfl
  exact ⟨⟨_, fd, [], [], gl_ok Z (i := 37) rfl, F.kp, F.bindsN fun _ _ _ _ _ _ us hl => match us, hl with | [_, _], _ => rfl, .nil, fn_ok (k := 1) (N := NN_56) (b := b_are_nested_at) F S_56 fun cdv A outer s H E hr => (sss_one (ss_ret (se_gt (se_call (c_lands_by Z) hr (by decide) (sa_cons se_var (sa_cons se_var sa_nil))) (se_call (c_lands_by Z) hr (by decide) (sa_cons se_var (sa_cons (se_add se_var se_int) sa_nil))))))⟩, ar_fn⟩
def NN_57 : List Str := ["throws", "place", "size", "goal", "near", "far", "late", "one", "here"]
def PP_57 : List Str := ["throws", "place"]
theorem S_57 : FnScope NN_57 PP_57 (defScope (top 57)) := ⟨rfl, rfl, rfl, by decide +kernel, rfl, by decide +kernel, by decide +kernel⟩
theorem c_next_swapped (Z : Zed w K mg base) : Cal PG0 w K mg base 2 "next_swapped" PP_57 f_next_swapped [] := by
  obtain ⟨fd, F⟩ := Z.says.def_ 38 (d := dd_57) rfl
  exact ⟨⟨_, fd, [], [], gl_ok Z (i := 38) rfl, F.kp, F.bindsN fun _ _ _ _ _ _ us hl => match us, hl with | [_, _], _ => rfl, .nil, fn_ok (k := 1) (N := NN_57) (b := b_next_swapped) F S_57 fun cdv A outer s H E hr => (sss_cons (ss_parT rfl (se_len ⟨rfl, n_len Z⟩ se_var) (se_mod (se_add se_var se_int) (se_len ⟨rfl, n_len Z⟩ se_var)) S_57.nd) (sss_cons (ss_parT rfl (se_sub (se_call (c_lands_by Z) hr (by decide) (sa_cons se_var (sa_cons (se_add se_var se_int) sa_nil))) se_var) (se_sub (se_sub (se_call (c_lands_by Z) hr (by decide) (sa_cons se_var (sa_cons se_var sa_nil))) se_var) se_int) S_57.nd) (sss_cons (ss_if (sb_w (sw_or (sb_gt se_var se_var) (sw_or1 (sb_lt se_var se_int)))) (sss_one (ss_ret se_non)) sss_nil) (sss_cons (ss_lc0 rfl S_57.nd (own := [("one", 7), ("here", 8)]) (by exact blkOk_by (N := NN_57) (sc := defScope (top 57)) (by decide +kernel)) (si_enum ⟨rfl, n_enumerate Z⟩ se_var) (fun s H C cl fp => (sg_tup rfl (sgs_cons (sgs_cons sgs_nil S_57.nd) S_57.nd))) (fun s H C cl fp => (se_if (sb_eq hr.units se_var se_var) se_var se_var))) (sss_one (ss_ret (se_tupOf ⟨rfl, n_tuple Z⟩ (se_lc0 rfl S_57.nd (own := [("one", 7), ("here", 8)]) (by exact blkOk_by (N := NN_57) (sc := defScope (top 57)) (by decide +kernel)) (si_enum ⟨rfl, n_enumerate Z⟩ se_var) (fun s H C cl fp => (sg_tup rfl (sgs_cons (sgs_cons sgs_nil S_57.nd) S_57.nd))) (fun s H C cl fp => (se_if (sb_eq hr.units se_var se_var) se_var se_var))))))))))⟩, ar_fn⟩
def NN_62 : List Str := ["numbers", "size"]
def PP_62 : List Str := ["numbers"]
theorem S_62 : FnScope NN_62 PP_62 (defScope (top 62)) := ⟨rfl, rfl, rfl, by decide +kernel, rfl, by decide +kernel, by decide +kernel⟩
theorem c_ended_by (Z : Zed w K mg base) : Cal PG0 w K mg base 1 "ended_by" PP_62 f_ended_by [] := by
  obtain ⟨fd, F⟩ := Z.says.def_ 39 (d := dd_62) rfl
  exact ⟨⟨_, fd, [], [], gl_ok Z (i := 39) rfl, F.kp, F.bindsN fun _ _ _ _ _ _ us hl => match us, hl with | [_], _ => rfl, .nil, fn_ok (k := 0) (N := NN_62) (b := b_ended_by) F S_62 fun cdv A outer s H E hr => (sss_cons (ss_set (se_len ⟨rfl, n_len Z⟩ se_var) S_62.nd) (sss_cons (ss_while PassesOwn.never (sb_w (sw_and (sb_gt se_var se_int) (sw_and1 (sb_eq hr.units (se_ix se_var (se_sub se_var se_int)) se_int)))) (sss_one (ss_set (se_sub se_var se_int) S_62.nd))) (sss_one (ss_ret (se_tupOf ⟨rfl, n_tuple Z⟩ (se_sl se_var so_none (so_some se_var)))))))⟩, ar_fn⟩
def NN_63 : List Str := ["numbers", "k"]
def PP_63 : List Str := ["numbers", "k"]
theorem S_63 : FnScope NN_63 PP_63 (defScope (top 63)) := ⟨rfl, rfl, rfl, by decide +kernel, rfl, by decide +kernel, by decide +kernel⟩
theorem c_factor_at (Z : Zed w K mg base) : Cal PG0 w K mg base 1 "factor_at" PP_63 f_factor_at [] := by
  obtain ⟨fd, F⟩ := Z.says.def_ 40 (d := dd_63) rfl
  exact ⟨⟨_, fd, [], [], gl_ok Z (i := 40) rfl, F.kp, F.bindsN fun _ _ _ _ _ _ us hl => match us, hl with | [_, _], _ => rfl, .nil, fn_ok (k := 0) (N := NN_63) (b := b_factor_at) F S_63 fun cdv A outer s H E hr => (sss_one (ss_ret (se_if (sb_chain .le .lt se_int se_var (se_len ⟨rfl, n_len Z⟩ se_var)) (se_ix se_var se_var) se_int)))⟩, ar_fn⟩
def NN_64 : List Str := ["first", "second", "many", "found", "k"]
def PP_64 : List Str := ["first", "second"]
theorem S_64 : FnScope NN_64 PP_64 (defScope (top 64)) := ⟨rfl, rfl, rfl, by decide +kernel, rfl, by decide +kernel, by decide +kernel⟩
theorem c_both_sum (Z : Zed w K mg base) : Cal PG0 w K mg base 2 "both_sum" PP_64 f_both_sum [] := by
  obtain ⟨fd, F⟩ := Z.says.def_ 41 (d := dd_64) rfl
  exact ⟨⟨_, fd, [], [], gl_ok Z (i := 41) rfl, F.kp, F.bindsN fun _ _ _ _ _ _ us hl => match us, hl with | [_, _], _ => rfl, .nil, fn_ok (k := 1) (N := NN_64) (b := b_both_sum) F S_64 fun cdv A outer s H E hr => (sss_cons (ss_set (se_add (se_max rfl hr.units ⟨rfl, n_max Z⟩ (se_lst (sa_cons (se_len ⟨rfl, n_len Z⟩ se_var) (sa_cons (se_len ⟨rfl, n_len Z⟩ se_var) sa_nil)))) se_int) S_64.nd) (sss_cons (ss_lc0 rfl S_64.nd (own := [("k", 4)]) (by exact blkOk_by (N := NN_64) (sc := defScope (top 64)) (by decide +kernel)) (si_r1 ⟨rfl, n_range Z⟩ se_var) (fun s H C cl fp => (sg_name S_64.nd)) (fun s H C cl fp => (se_add (se_sub (se_call (c_factor_at Z) hr (by decide) (sa_cons se_var (sa_cons (se_sub se_var se_int) sa_nil))) (se_call (c_factor_at Z) hr (by decide) (sa_cons se_var (sa_cons se_var sa_nil)))) (se_call (c_factor_at Z) hr (by decide) (sa_cons se_var (sa_cons (se_sub se_var se_int) sa_nil)))))) (sss_one (ss_ret (se_call (c_ended_by Z) hr (by decide) (sa_cons se_var sa_nil))))))⟩, ar_fn⟩
def NN_65 : List Str := ["size", "place", "spot"]
def PP_65 : List Str := ["size", "place", "spot"]
theorem S_65 : FnScope NN_65 PP_65 (defScope (top 65)) := ⟨rfl, rfl, rfl, by decide +kernel, rfl, by decide +kernel, by decide +kernel⟩
theorem c_changed_spot (Z : Zed w K mg base) : Cal PG0 w K mg base 1 "changed_spot" PP_65 f_changed_spot [] := by
  obtain ⟨fd, F⟩ := Z.says.def_ 42 (d := dd_65) rfl
  exact ⟨⟨_, fd, [], [], gl_ok Z (i := 42) rfl, F.kp, F.bindsN fun _ _ _ _ _ _ us hl => match us, hl with | [_, _, _], _ => rfl, .nil, fn_ok (k := 0) (N := NN_65) (b := b_changed_spot) F S_65 fun cdv A outer s H E hr => (sss_cons (ss_if (sb_eq hr.units (se_mod (se_sub se_var se_var) se_var) se_int) (sss_one (ss_ret (se_add se_var se_int))) sss_nil) (sss_one (ss_ret (se_if (sb_eq hr.units (se_mod (se_sub (se_sub se_var se_var) se_int) se_var) se_int) (se_sub se_var se_int) se_var))))⟩, ar_fn⟩
def NN_66 : List Str := ["throws", "place", "size", "ends", "late", "one", "end", "throw"]
def PP_66 : List Str := ["throws", "place"]
theorem S_66 : FnScope NN_66 PP_66 (defScope (top 66)) := ⟨rfl, rfl, rfl, by decide +kernel, rfl, by decide +kernel, by decide +kernel⟩
theorem c_places_changed (Z : Zed w K mg base) : Cal PG0 w K mg base 2 "places_changed" PP_66 f_places_changed [] := by
  obtain ⟨fd, F⟩ := Z.says.def_ 43 (d := dd_66) rfl
  exact ⟨⟨_, fd, [], [], gl_ok Z (i := 43) rfl, F.kp, F.bindsN fun _ _ _ _ _ _ us hl => match us, hl with | [_, _], _ => rfl, .nil, fn_ok (k := 1) (N := NN_66) (b := b_places_changed) F S_66 fun cdv A outer s H E hr => (sss_cons (ss_set (se_len ⟨rfl, n_len Z⟩ se_var) S_66.nd) (sss_cons (ss_lc0 rfl S_66.nd (own := [("one", 5)]) (by exact blkOk_by (N := NN_66) (sc := defScope (top 66)) (by decide +kernel)) (si_r1 ⟨rfl, n_range Z⟩ se_var) (fun s H C cl fp => (sg_name S_66.nd)) (fun s H C cl fp => (se_call (c_lands_by Z) hr (by decide) (sa_cons se_var (sa_cons (se_call (c_changed_spot Z) hr (by decide) (sa_cons se_var (sa_cons se_var (sa_cons se_var sa_nil)))) sa_nil))))) (sss_cons (ss_set (se_tupOf ⟨rfl, n_tuple Z⟩ (se_lc0 rfl S_66.nd (own := [("one", 5), ("end", 6)]) (by exact blkOk_by (N := NN_66) (sc := defScope (top 66)) (by decide +kernel)) (si_enum ⟨rfl, n_enumerate Z⟩ se_var) (fun s H C cl fp => (sg_tup rfl (sgs_cons (sgs_cons sgs_nil S_66.nd) S_66.nd))) (fun s H C cl fp => (se_sub (se_call (c_changed_spot Z) hr (by decide) (sa_cons se_var (sa_cons se_var (sa_cons se_var sa_nil)))) se_var)))) S_66.nd) (sss_one (ss_ret (se_if (sb_val (se_all rfl ⟨rfl, n_all Z⟩ (se_lc0 rfl S_66.nd (own := [("throw", 7)]) (by exact blkOk_by (N := NN_66) (sc := defScope (top 66)) (by decide +kernel)) (si_val se_var) (fun s H C cl fp => (sg_name S_66.nd)) (fun s H C cl fp => (se_chain .le .le se_int se_var se_var))))) se_var se_non))))))⟩, ar_fn⟩
def NN_67 : List Str := ["throws", "size", "kind", "throw", "place", "some", "least"]
def PP_67 : List Str := ["throws"]
theorem S_67 : FnScope NN_67 PP_67 (defScope (top 67)) := ⟨rfl, rfl, rfl, by decide +kernel, rfl, by decide +kernel, by decide +kernel⟩
theorem c_step_at (Z : Zed w K mg base) : Cal PG0 w K mg base 3 "step_at" PP_67 f_step_at [] := by
  obtain ⟨fd, F⟩ := Z.says.def_ 44 (d := dd_67) rfl
  exact ⟨⟨_, fd, [], [], gl_ok Z (i := 44) rfl, F.kp, F.bindsN fun _ _ _ _ _ _ us hl => match us, hl with | [_], _ => rfl, .nil, fn_ok (k := 2) (N := NN_67) (b := b_step_at) F S_67 fun cdv A outer s H E hr => (sss_cons (ss_set (se_len ⟨rfl, n_len Z⟩ se_var) S_67.nd) (sss_cons (ss_if (sb_eq hr.units se_var se_int) (sss_one (ss_ret (se_tup (sa_cons (se_gs (n_ONE Z)) (sa_cons se_int sa_nil))))) sss_nil) (sss_cons (ss_for PassesOwn.never rfl (si_val (se_tup (sa_cons (se_tup (sa_cons (se_gs (n_REST Z)) (sa_cons se_int sa_nil))) (sa_cons (se_tup (sa_cons (se_gs (n_FULL Z)) (sa_cons se_var sa_nil))) sa_nil)))) (sg_tup rfl (sgs_cons (sgs_cons sgs_nil S_67.nd) S_67.nd)) (sss_cons (ss_lc1 rfl S_67.nd (own := [("place", 4)]) (by exact blkOk_by (N := NN_67) (sc := defScope (top 67)) (by decide +kernel)) (si_r1 ⟨rfl, n_range Z⟩ se_var) (fun s H C cl fp => (sg_name S_67.nd)) (fun s H C cl fp => (sb_eq hr.units (se_ix se_var se_var) se_var)) (fun s H C cl fp => se_var)) (sss_one (ss_if (sb_gt (se_len ⟨rfl, n_len Z⟩ se_var) se_int) (sss_one (ss_ret (se_tup (sa_cons se_var (sa_cons (se_ix se_var se_int) sa_nil))))) sss_nil)))) (sss_cons (ss_set (se_min rfl hr.units ⟨rfl, n_min Z⟩ se_var) S_67.nd) (sss_cons (ss_set (se_mod (se_sub (se_add (se_idx se_var se_var) se_var) se_int) se_var) S_67.nd) (sss_one (ss_ret (se_tup (sa_cons (se_if (sb_val (se_call (c_are_nested_at Z) hr (by decide) (sa_cons se_var (sa_cons se_var sa_nil)))) (se_gs (n_CHANGED Z)) (se_gs (n_BOTH Z))) (sa_cons se_var sa_nil))))))))))⟩, ar_fn⟩
def NN_68 : List Str := ["throws", "k"]
def PP_68 : List Str := ["throws"]
theorem S_68 : FnScope NN_68 PP_68 (defScope (top 68)) := ⟨rfl, rfl, rfl, by decide +kernel, rfl, by decide +kernel, by decide +kernel⟩
theorem c_least_turn (Z : Zed w K mg base) : Cal PG0 w K mg base 1 "least_turn" PP_68 f_least_turn [] := by
  obtain ⟨fd, F⟩ := Z.says.def_ 45 (d := dd_68) rfl
  exact ⟨⟨_, fd, [], [], gl_ok Z (i := 45) rfl, F.kp, F.bindsN fun _ _ _ _ _ _ us hl => match us, hl with | [_], _ => rfl, .nil, fn_ok (k := 0) (N := NN_68) (b := b_least_turn) F S_68 fun cdv A outer s H E hr => (sss_one (ss_ret (se_min rfl hr.units ⟨rfl, n_min Z⟩ (se_lc0 rfl S_68.nd (own := [("k", 1)]) (by exact blkOk_by (N := NN_68) (sc := defScope (top 68)) (by decide +kernel)) (si_r1 ⟨rfl, n_range Z⟩ (se_len ⟨rfl, n_len Z⟩ se_var)) (fun s H C cl fp => (sg_name S_68.nd)) (fun s H C cl fp => (se_catT (se_sl se_var (so_some se_var) so_none) (se_sl se_var so_none (so_some se_var))))))))⟩, ar_fn⟩
def NN_69 : List Str := ["throws", "known", "key"]
def PP_69 : List Str := ["throws", "known"]
theorem S_69 : FnScope NN_69 PP_69 (defScope (top 69)) := ⟨rfl, rfl, rfl, by decide +kernel, rfl, by decide +kernel, by decide +kernel⟩
theorem b_ok_count_in (Z : Zed w K mg base) {k : Nat} (hk : 3 ≤ k) {g : Gm} (C_step_count : Cal PG0 w K mg base k "step_count" PP_70 g []) {f : Addr} {cdv : Value} {A : Around} {outer : List Env} {s : Shared} {H : Hp} {E : XK}
    (hr : Room k (A.deeper (envOfC "count_in" (defScope (top 69)) s.heap.objs.size f cdv))) : SSs (cxB PG0 w K mg base NN_69 "count_in" (defScope (top 69)) f cdv A outer s H E) (defBody (top 69)) (b_count_in g) :=
  (sss_cons (ss_set (se_call (c_least_turn Z) hr (Nat.le_trans (by decide) hk) (sa_cons se_var sa_nil)) S_69.nd) (sss_cons (ss_if (sb_dnin hr.units se_var se_var) (sss_one (ss_dput hr.units se_var se_var (se_call C_step_count hr (Nat.le_refl _) (sa_cons se_var (sa_cons se_var sa_nil))))) sss_nil) (sss_one (ss_ret (se_dget hr.units se_var se_var)))))
def NN_70 : List Str := ["throws", "known", "kind", "place", "late", "first"]
def PP_70 : List Str := ["throws", "known"]
theorem S_70 : FnScope NN_70 PP_70 (defScope (top 70)) := ⟨rfl, rfl, rfl, by decide +kernel, rfl, by decide +kernel, by decide +kernel⟩
theorem b_ok_step_count (Z : Zed w K mg base) {k : Nat} (hk : 3 ≤ k) {g : Gm} (C_count_in : Cal PG0 w K mg base k "count_in" PP_69 g []) {f : Addr} {cdv : Value} {A : Around} {outer : List Env} {s : Shared} {H : Hp} {E : XK}
    (hr : Room k (A.deeper (envOfC "step_count" (defScope (top 70)) s.heap.objs.size f cdv))) : SSs (cxB PG0 w K mg base NN_70 "step_count" (defScope (top 70)) f cdv A outer s H E) (defBody (top 70)) (b_step_count g) :=
  (sss_cons (ss_unp rfl (se_call (c_step_at Z) hr (Nat.le_trans (by decide) hk) (sa_cons se_var sa_nil)) (sgs_cons (sgs_cons sgs_nil S_70.nd) S_70.nd)) (sss_cons (ss_if (sb_eq hr.units se_var (se_gs (n_ONE Z))) (sss_one (ss_ret (se_tup (sa_cons se_int sa_nil)))) sss_nil) (sss_cons (ss_if (sb_in hr.units se_var (se_tup (sa_cons (se_gs (n_REST Z)) (sa_cons (se_gs (n_FULL Z)) sa_nil)))) (sss_one (ss_ret (se_call C_count_in hr (Nat.le_refl _) (sa_cons (se_call (c_without_shelf Z) hr (Nat.le_trans (by decide) hk) (sa_cons se_var (sa_cons se_var sa_nil))) (sa_cons se_var sa_nil))))) sss_nil) (sss_cons (ss_set (se_call (c_places_changed Z) hr (Nat.le_trans (by decide) hk) (sa_cons se_var (sa_cons se_var sa_nil))) S_70.nd) (sss_cons (ss_if (sb_eq hr.units se_var (se_gs (n_CHANGED Z))) (sss_one (ss_ret (se_call C_count_in hr (Nat.le_refl _) (sa_cons se_var (sa_cons se_var sa_nil))))) sss_nil) (sss_cons (ss_set (se_call C_count_in hr (Nat.le_refl _) (sa_cons (se_call (c_next_swapped Z) hr (Nat.le_trans (by decide) hk) (sa_cons se_var (sa_cons se_var sa_nil))) (sa_cons se_var sa_nil))) S_70.nd) (sss_one (ss_ret (se_call (c_both_sum Z) hr (Nat.le_trans (by decide) hk) (sa_cons se_var (sa_cons (se_if (sb_isN se_var se_non) (se_tup sa_nil) (se_call C_count_in hr (Nat.le_refl _) (sa_cons se_var (sa_cons se_var sa_nil)))) sa_nil)))))))))))
theorem cnt_ok (Z : Zed w K mg base) : ∀ d : Nat, Cal PG0 w K mg base (3 + 2 * d) "count_in" PP_69 (Ev.cnt d).1 [] ∧ Cal PG0 w K mg base (3 + 2 * d) "step_count" PP_70 (Ev.cnt d).2 []
  | 0 => by
    obtain ⟨fd, F⟩ := Z.says.def_ 46 (d := dd_69) rfl
    obtain ⟨fd2, F2⟩ := Z.says.def_ 47 (d := dd_70) rfl
    exact ⟨⟨⟨_, fd, [], [], gl_ok Z (i := 46) rfl, F.kp, F.bindsN fun _ _ _ _ _ _ us hl => match us, hl with | [_, _], _ => rfl, .nil, fn_none⟩, ar_none⟩,
      ⟨_, fd2, [], [], gl_ok Z (i := 47) rfl, F2.kp, F2.bindsN fun _ _ _ _ _ _ us hl => match us, hl with | [_, _], _ => rfl, .nil, fn_none⟩, ar_none⟩
  | d + 1 => by
    obtain ⟨c1, c2⟩ := cnt_ok Z d
    obtain ⟨fd, F⟩ := Z.says.def_ 46 (d := dd_69) rfl
    obtain ⟨fd2, F2⟩ := Z.says.def_ 47 (d := dd_70) rfl
    have h1 : FnR PG0 w K mg base (3 + 2 * d + 1) (He.fAd K ("count_in", none)) fd PP_69 (Ev.cnt (d + 1)).1 := fn_ok (k := 3 + 2 * d) (N := NN_69) (b := b_count_in (Ev.cnt d).2) F S_69 fun cdv A outer s H E hr => b_ok_count_in Z (Nat.le_add_right _ _) c2 hr
    have h2 : FnR PG0 w K mg base (3 + 2 * d + 1) (He.fAd K ("step_count", none)) fd2 PP_70 (Ev.cnt (d + 1)).2 := fn_ok (k := 3 + 2 * d) (N := NN_70) (b := b_step_count (Ev.cnt d).1) F2 S_70 fun cdv A outer s H E hr => b_ok_step_count Z (Nat.le_add_right _ _) c1 hr
    exact ⟨⟨⟨_, fd, [], [], gl_ok Z (i := 46) rfl, F.kp, F.bindsN fun _ _ _ _ _ _ us hl => match us, hl with | [_, _], _ => rfl, .nil, h1.mono (Nat.le_succ _)⟩, ar_fn⟩,
      ⟨_, fd2, [], [], gl_ok Z (i := 47) rfl, F2.kp, F2.bindsN fun _ _ _ _ _ _ us hl => match us, hl with | [_, _], _ => rfl, .nil, h2.mono (Nat.le_succ _)⟩, ar_fn⟩
theorem c_count_in (Z : Zed w K mg base) : Cal PG0 w K mg base 125 "count_in" PP_69 f_count_in [] := (cnt_ok Z 60).1.mono (by decide)
def NN_71 : List Str := ["numbers", "prime", "value", "number"]
def PP_71 : List Str := ["numbers", "prime"]
theorem S_71 : FnScope NN_71 PP_71 (defScope (top 71)) := ⟨rfl, rfl, rfl, by decide +kernel, rfl, by decide +kernel, by decide +kernel⟩
theorem c_value_of (Z : Zed w K mg base) : Cal PG0 w K mg base 1 "value_of" PP_71 f_value_of [] := by
  obtain ⟨fd, F⟩ := Z.says.def_ 48 (d := dd_71) rfl
  exact ⟨⟨_, fd, [], [], gl_ok Z (i := 48) rfl, F.kp, F.bindsN fun _ _ _ _ _ _ us hl => match us, hl with | [_, _], _ => rfl, .nil, fn_ok (k := 0) (N := NN_71) (b := b_value_of) F S_71 fun cdv A outer s H E hr => (sss_cons (ss_set se_int S_71.nd) (sss_cons (ss_for PassesOwn.never rfl (si_val (se_rev se_var)) (sg_name S_71.nd) (sss_one (ss_set (se_add (se_mul se_var se_var) se_var) S_71.nd))) (sss_one (ss_ret se_var))))⟩, ar_fn⟩
def NN_72 : List Str := ["base", "many", "value", "lap"]
def PP_72 : List Str := ["base", "many"]
theorem S_72 : FnScope NN_72 PP_72 (defScope (top 72)) := ⟨rfl, rfl, rfl, by decide +kernel, rfl, by decide +kernel, by decide +kernel⟩
theorem c_times_over (Z : Zed w K mg base) : Cal PG0 w K mg base 1 "times_over" PP_72 f_times_over [] := by
  obtain ⟨fd, F⟩ := Z.says.def_ 49 (d := dd_72) rfl
  exact ⟨⟨_, fd, [], [], gl_ok Z (i := 49) rfl, F.kp, F.bindsN fun _ _ _ _ _ _ us hl => match us, hl with | [_, _], _ => rfl, .nil, fn_ok (k := 0) (N := NN_72) (b := b_times_over) F S_72 fun cdv A outer s H E hr => (sss_cons (ss_set se_int S_72.nd) (sss_cons (ss_for PassesOwn.never rfl (si_r1 ⟨rfl, n_range Z⟩ se_var) (sg_name S_72.nd) (sss_one (ss_set (se_mul se_var se_var) S_72.nd))) (sss_one (ss_ret se_var))))⟩, ar_fn⟩
def NN_74 : List Str := ["pattern"]
def PP_74 : List Str := ["pattern"]
theorem S_74 : FnScope NN_74 PP_74 (defScope (top 74)) := ⟨rfl, rfl, rfl, by decide +kernel, rfl, by decide +kernel, by decide +kernel⟩
theorem c_count_polynomial (Z : Zed w K mg base) : Cal PG0 w K mg base 126 "count_polynomial" PP_74 f_count_polynomial [] := by
  obtain ⟨fd, F⟩ := Z.says.def_ 50 (d := dd_74) rfl
  exact ⟨⟨_, fd, [], [], gl_ok Z (i := 50) rfl, F.kp, F.bindsN fun _ _ _ _ _ _ us hl => match us, hl with | [_], _ => rfl, .nil, fn_ok (k := 125) (N := NN_74) (b := b_count_polynomial) F S_74 fun cdv A outer s H E hr => (sss_one (ss_ret (se_call (c_count_in Z) hr (by decide) (sa_cons se_var (sa_cons se_newDT sa_nil)))))⟩, ar_fn⟩
def NN_75 : List Str := ["pattern", "prime"]
def PP_75 : List Str := ["pattern", "prime"]
theorem S_75 : FnScope NN_75 PP_75 (defScope (top 75)) := ⟨rfl, rfl, rfl, by decide +kernel, rfl, by decide +kernel, by decide +kernel⟩
theorem c_book_count (Z : Zed w K mg base) : Cal PG0 w K mg base 126 "book_count" PP_75 f_book_count [] := by
  obtain ⟨fd, F⟩ := Z.says.def_ 51 (d := dd_75) rfl
  exact ⟨⟨_, fd, [], [], gl_ok Z (i := 51) rfl, F.kp, F.bindsN fun _ _ _ _ _ _ us hl => match us, hl with | [_, _], _ => rfl, .nil, fn_ok (k := 125) (N := NN_75) (b := b_book_count) F S_75 fun cdv A outer s H E hr => (sss_cons (ss_expr (se_call (c_want_prime Z) hr (by decide) (sa_cons se_var sa_nil))) (sss_one (ss_ret (se_call (c_value_of Z) hr (by decide) (sa_cons (se_call (c_count_in Z) hr (by decide) (sa_cons se_var (sa_cons se_newDT sa_nil))) (sa_cons se_var sa_nil))))))⟩, ar_fn⟩
def NN_76 : List Str := ["size", "rank", "prime", "above", "below", "k"]
def PP_76 : List Str := ["size", "rank", "prime"]
theorem S_76 : FnScope NN_76 PP_76 (defScope (top 76)) := ⟨rfl, rfl, rfl, by decide +kernel, rfl, by decide +kernel, by decide +kernel⟩
theorem c_total_by (Z : Zed w K mg base) : Cal PG0 w K mg base 2 "total_by" PP_76 f_total_by [] := by
  obtain ⟨fd, F⟩ := Z.says.def_ 52 (d := dd_76) rfl
  exact ⟨⟨_, fd, [], [], gl_ok Z (i := 52) rfl, F.kp, F.bindsN fun _ _ _ _ _ _ us hl => match us, hl with | [_, _, _], _ => rfl, .nil, fn_ok (k := 1) (N := NN_76) (b := b_total_by) F S_76 fun cdv A outer s H E hr => (sss_cons (ss_parT rfl se_int se_int S_76.nd) (sss_cons (ss_for PassesOwn.never rfl (si_r1 ⟨rfl, n_range Z⟩ se_var) (sg_name S_76.nd) (sss_cons (ss_set (se_mul se_var (se_sub (se_call (c_times_over Z) hr (by decide) (sa_cons se_var (sa_cons (se_sub se_var se_var) sa_nil))) se_int)) S_76.nd) (sss_one (ss_set (se_mul se_var (se_sub (se_call (c_times_over Z) hr (by decide) (sa_cons se_var (sa_cons (se_add se_var se_int) sa_nil))) se_int)) S_76.nd)))) (sss_one (ss_ret (se_div se_var se_var)))))⟩, ar_fn⟩
def NN_77 : List Str := ["size", "rank", "prime"]
def PP_77 : List Str := ["size", "rank", "prime"]
theorem S_77 : FnScope NN_77 PP_77 (defScope (top 77)) := ⟨rfl, rfl, rfl, by decide +kernel, rfl, by decide +kernel, by decide +kernel⟩
theorem c_total_count (Z : Zed w K mg base) : Cal PG0 w K mg base 4 "total_count" PP_77 f_total_count [] := by
  obtain ⟨fd, F⟩ := Z.says.def_ 53 (d := dd_77) rfl
  exact ⟨⟨_, fd, [], [], gl_ok Z (i := 53) rfl, F.kp, F.bindsN fun _ _ _ _ _ _ us hl => match us, hl with | [_, _, _], _ => rfl, .nil, fn_ok (k := 3) (N := NN_77) (b := b_total_count) F S_77 fun cdv A outer s H E hr => (sss_cons (ss_expr (se_call (c_want_size Z) hr (by decide) (sa_cons se_var sa_nil))) (sss_cons (ss_expr (se_call (c_want Z) hr (by decide) (sa_cons (se_call (c_is_index Z) hr (by decide) (sa_cons se_var (sa_cons (se_add se_var se_int) sa_nil))) (sa_cons se_str sa_nil)))) (sss_cons (ss_expr (se_call (c_want_prime Z) hr (by decide) (sa_cons se_var sa_nil))) (sss_one (ss_ret (se_call (c_total_by Z) hr (by decide) (sa_cons se_var (sa_cons se_var (sa_cons se_var sa_nil)))))))))⟩, ar_fn⟩
def NN_79 : List Str := ["many", "row", "lap", "one", "other"]
def PP_79 : List Str := ["many"]
theorem S_79 : FnScope NN_79 PP_79 (defScope (top 79)) := ⟨rfl, rfl, rfl, by decide +kernel, rfl, by decide +kernel, by decide +kernel⟩
theorem c_choices (Z : Zed w K mg base) : Cal PG0 w K mg base 1 "choices" PP_79 f_choices [] := by
  obtain ⟨fd, F⟩ := Z.says.def_ 54 (d := dd_79) rfl
  exact ⟨⟨_, fd, [], [], gl_ok Z (i := 54) rfl, F.kp, F.bindsN fun _ _ _ _ _ _ us hl => match us, hl with | [_], _ => rfl, .nil, fn_ok (k := 0) (N := NN_79) (b := b_choices) F S_79 fun cdv A outer s H E hr => (sss_cons (ss_set (se_lst (sa_cons se_int sa_nil)) S_79.nd) (sss_cons (ss_for PassesOwn.never rfl (si_r1 ⟨rfl, n_range Z⟩ se_var) (sg_name S_79.nd) (sss_one (ss_lc0 rfl S_79.nd (own := [("one", 3), ("other", 4)]) (by exact blkOk_by (N := NN_79) (sc := defScope (top 79)) (by decide +kernel)) (si_zip ⟨rfl, n_zip Z⟩ (se_lst (sa_cons se_int (sa_star se_var sa_nil))) (se_lst (sa_star se_var (sa_cons se_int sa_nil)))) (fun s H C cl fp => (sg_tup rfl (sgs_cons (sgs_cons sgs_nil S_79.nd) S_79.nd))) (fun s H C cl fp => (se_add se_var se_var))))) (sss_one (ss_ret se_var))))⟩, ar_fn⟩
def NN_80 : List Str := ["size", "row", "many", "ahead", "here", "k"]
def PP_80 : List Str := ["size"]
theorem S_80 : FnScope NN_80 PP_80 (defScope (top 80)) := ⟨rfl, rfl, rfl, by decide +kernel, rfl, by decide +kernel, by decide +kernel⟩
theorem c_falls_by (Z : Zed w K mg base) : Cal PG0 w K mg base 1 "falls_by" PP_80 f_falls_by [] := by
  obtain ⟨fd, F⟩ := Z.says.def_ 55 (d := dd_80) rfl
  exact ⟨⟨_, fd, [], [], gl_ok Z (i := 55) rfl, F.kp, F.bindsN fun _ _ _ _ _ _ us hl => match us, hl with | [_], _ => rfl, .nil, fn_ok (k := 0) (N := NN_80) (b := b_falls_by) F S_80 fun cdv A outer s H E hr => (sss_cons (ss_set (se_lst (sa_cons se_int sa_nil)) S_80.nd) (sss_cons (ss_for PassesOwn.never rfl (si_r2 ⟨rfl, n_range Z⟩ se_int (se_add se_var se_int)) (sg_name S_80.nd) (sss_cons (ss_parT rfl (se_lst (sa_cons se_int (sa_star se_var sa_nil))) (se_lst (sa_star se_var (sa_cons se_int sa_nil))) S_80.nd) (sss_one (ss_lc0 rfl S_80.nd (own := [("k", 5)]) (by exact blkOk_by (N := NN_80) (sc := defScope (top 80)) (by decide +kernel)) (si_r1 ⟨rfl, n_range Z⟩ se_var) (fun s H C cl fp => (sg_name S_80.nd)) (fun s H C cl fp => (se_add (se_mul (se_add se_var se_int) (se_ix se_var se_var)) (se_mul (se_sub se_var se_var) (se_ix se_var se_var)))))))) (sss_one (ss_ret se_var))))⟩, ar_fn⟩
def NN_81 : List Str := ["size", "balls", "total", "ways", "full", "row"]
def PP_81 : List Str := ["size", "balls"]
theorem S_81 : FnScope NN_81 PP_81 (defScope (top 81)) := ⟨rfl, rfl, rfl, by decide +kernel, rfl, by decide +kernel, by decide +kernel⟩
theorem c_count_by (Z : Zed w K mg base) : Cal PG0 w K mg base 2 "count_by" PP_81 f_count_by [] := by
  obtain ⟨fd, F⟩ := Z.says.def_ 56 (d := dd_81) rfl
  exact ⟨⟨_, fd, [], [], gl_ok Z (i := 56) rfl, F.kp, F.bindsN fun _ _ _ _ _ _ us hl => match us, hl with | [_, _], _ => rfl, .nil, fn_ok (k := 1) (N := NN_81) (b := b_count_by) F S_81 fun cdv A outer s H E hr => (sss_cons (ss_par rfl se_int (se_call (c_choices Z) hr (by decide) (sa_cons se_var sa_nil)) S_81.nd) (sss_cons (ss_for PassesOwn.never rfl (si_r1 ⟨rfl, n_range Z⟩ (se_add se_var se_int)) (sg_name S_81.nd) (sss_cons (ss_set (se_call (c_falls_by Z) hr (by decide) (sa_cons (se_sub se_var se_var) sa_nil)) S_81.nd) (sss_one (ss_set (se_add se_var (se_if (sb_lt (se_sub se_var se_var) (se_len ⟨rfl, n_len Z⟩ se_var)) (se_mul (se_ix se_var se_var) (se_ix se_var (se_sub se_var se_var))) se_int)) S_81.nd)))) (sss_one (ss_ret se_var))))⟩, ar_fn⟩
def NN_82 : List Str := ["size", "balls"]
def PP_82 : List Str := ["size", "balls"]
theorem S_82 : FnScope NN_82 PP_82 (defScope (top 82)) := ⟨rfl, rfl, rfl, by decide +kernel, rfl, by decide +kernel, by decide +kernel⟩
theorem c_pattern_count (Z : Zed w K mg base) : Cal PG0 w K mg base 4 "pattern_count" PP_82 f_pattern_count [] := by
  obtain ⟨fd, F⟩ := Z.says.def_ 57 (d := dd_82) rfl
  exact ⟨⟨_, fd, [], [], gl_ok Z (i := 57) rfl, F.kp, F.bindsN fun _ _ _ _ _ _ us hl => match us, hl with | [_, _], _ => rfl, .nil, fn_ok (k := 3) (N := NN_82) (b := b_pattern_count) F S_82 fun cdv A outer s H E hr => (sss_cons (ss_expr (se_call (c_want_size Z) hr (by decide) (sa_cons se_var sa_nil))) (sss_cons (ss_expr (se_call (c_want Z) hr (by decide) (sa_cons (se_call (c_is_number Z) hr (by decide) (sa_cons se_var sa_nil)) (sa_cons se_str sa_nil)))) (sss_one (ss_ret (se_if (sb_le se_var se_var) (se_call (c_count_by Z) hr (by decide) (sa_cons se_var (sa_cons se_var sa_nil))) se_int)))))⟩, ar_fn⟩
def NN_83 : List Str := ["size", "begun", "rest", "landed", "some", "to_come", "i", "number"]
def PP_83 : List Str := ["size", "begun", "rest"]
theorem S_83 : FnScope NN_83 PP_83 (defScope (top 83)) := ⟨rfl, rfl, rfl, by decide +kernel, rfl, by decide +kernel, by decide +kernel⟩
theorem c_next_throws (Z : Zed w K mg base) : Cal PG0 w K mg base 1 "next_throws" PP_83 f_next_throws [] := by
  obtain ⟨fd, F⟩ := Z.says.def_ 58 (d := dd_83) rfl
  exact ⟨⟨_, fd, [], [], gl_ok Z (i := 58) rfl, F.kp, F.bindsN fun _ _ _ _ _ _ us hl => match us, hl with | [_, _, _], _ => rfl, .nil, fn_ok (k := 0) (N := NN_83) (b := b_next_throws) F S_83 fun cdv A outer s H E hr => (sss_cons (ss_set (se_lc0 rfl S_83.nd (own := [("i", 6), ("number", 7)]) (by exact blkOk_by (N := NN_83) (sc := defScope (top 83)) (by decide +kernel)) (si_enum ⟨rfl, n_enumerate Z⟩ se_var) (fun s H C cl fp => (sg_tup rfl (sgs_cons (sgs_cons sgs_nil S_83.nd) S_83.nd))) (fun s H C cl fp => (se_mod (se_add se_var se_var) se_var))) S_83.nd) (sss_cons (ss_lc1 rfl S_83.nd (own := [("number", 7)]) (by exact blkOk_by (N := NN_83) (sc := defScope (top 83)) (by decide +kernel)) (si_r1 ⟨rfl, n_range Z⟩ (se_add (se_min rfl hr.units ⟨rfl, n_min Z⟩ (se_lst (sa_cons se_var (sa_cons se_var sa_nil)))) se_int)) (fun s H C cl fp => (sg_name S_83.nd)) (fun s H C cl fp => (sb_nin hr.units (se_mod (se_add (se_len ⟨rfl, n_len Z⟩ se_var) se_var) se_var) se_var)) (fun s H C cl fp => se_var)) (sss_cons (ss_set (se_sub (se_sub se_var (se_len ⟨rfl, n_len Z⟩ se_var)) se_int) S_83.nd) (sss_one (ss_ret (se_lc1 rfl S_83.nd (own := [("number", 7)]) (by exact blkOk_by (N := NN_83) (sc := defScope (top 83)) (by decide +kernel)) (si_val se_var) (fun s H C cl fp => (sg_name S_83.nd)) (fun s H C cl fp => (sb_le (se_sub se_var se_var) (se_mul se_var se_var))) (fun s H C cl fp => se_var)))))))⟩, ar_fn⟩
def NN_84 : List Str := ["size", "balls", "stack", "begun", "rest", "number"]
def PP_84 : List Str := ["size", "balls"]
theorem S_84 : GScope NN_84 PP_84 (defScope (top 84)) := ⟨rfl, rfl, rfl, by decide +kernel, rfl, by decide +kernel, by decide +kernel⟩
-- generator patterns_of
theorem c_patterns_of (Z : Zed w K mg base) : CalG PG0 w K mg base 4 "patterns_of" PP_84 f_patterns_of := by
  obtain ⟨fd, F⟩ := Z.says.def_ 59 (d := dd_84) rfl
  exact ⟨⟨_, fd, gl_ok Z (i := 59) rfl, F.kp, F.bindsN fun _ _ _ _ _ _ us hl => match us, hl with | [_, _], _ => rfl, gfn_ok (k := 3) (N := NN_84) (b := b_patterns_of) F S_84 fun cdv A outer s H E pn hr => (sys_cons (sy_plain (ss_expr (se_call (c_want_size Z) hr (by decide) (sa_cons se_var sa_nil)))) (sys_cons (sy_plain (ss_expr (se_call (c_want Z) hr (by decide) (sa_cons (se_call (c_is_number Z) hr (by decide) (sa_cons se_var sa_nil)) (sa_cons se_str sa_nil))))) (sys_cons (sy_plain (ss_set (se_newL (sa_cons (se_tup sa_nil) sa_nil)) S_84.nd)) (sys_one (sy_while owns_gcx (sb_gt (se_len ⟨rfl, n_len Z⟩ se_var) se_int) (sys_cons (sy_plain (ss_set (se_pop se_var) S_84.nd)) (sys_one (sy_if (sb_eq hr.units (se_len ⟨rfl, n_len Z⟩ se_var) se_var) (sys_one (sy_yield se_var)) (sys_cons (sy_plain (ss_set (se_sub (se_mul se_var se_var) (se_sum rfl ⟨rfl, n_sum Z⟩ se_var)) S_84.nd)) (sys_one (sy_plain (ss_ext se_var (se_lc0 rfl S_84.nd (own := [("number", 5)]) (by exact blkOk_by (N := NN_84) (sc := defScope (top 84)) (by decide +kernel)) (si_val (se_rev (se_call (c_next_throws Z) hr (by decide) (sa_cons se_var (sa_cons se_var (sa_cons se_var sa_nil)))))) (fun s H C cl fp => (sg_name S_84.nd)) (fun s H C cl fp => (se_tup (sa_star se_var (sa_cons se_var sa_nil)))))))))))))))))⟩, ar_gen⟩
def NN_86 : List Str := ["prime", "size", "leads", "k", "words", "place", "is_free", "some", "word", "digit"]
def PP_86 : List Str := ["prime", "size", "leads", "k"]
theorem S_86 : FnScope NN_86 PP_86 (defScope (top 86)) := ⟨rfl, rfl, rfl, by decide +kernel, rfl, by decide +kernel, by decide +kernel⟩
theorem c_rows_for (Z : Zed w K mg base) : Cal PG0 w K mg base 1 "rows_for" PP_86 f_rows_for [] := by
  obtain ⟨fd, F⟩ := Z.says.def_ 60 (d := dd_86) rfl
  exact ⟨⟨_, fd, [], [], gl_ok Z (i := 60) rfl, F.kp, F.bindsN fun _ _ _ _ _ _ us hl => match us, hl with | [_, _, _, _], _ => rfl, .nil, fn_ok (k := 0) (N := NN_86) (b := b_rows_for) F S_86 fun cdv A outer s H E hr => (sss_cons (ss_set (se_lst (sa_cons (se_tup sa_nil) sa_nil)) S_86.nd) (sss_cons (ss_for PassesOwn.never rfl (si_r1 ⟨rfl, n_range Z⟩ se_var) (sg_name S_86.nd) (sss_cons (ss_set (se_and (se_gt se_var (se_ix se_var se_var)) (se_one (se_nin hr.units se_var se_var))) S_86.nd) (sss_cons (ss_set (se_if (sb_val se_var) (se_lstRg0 rfl ⟨rfl, n_list Z⟩ ⟨rfl, n_range Z⟩ se_var) (se_lst (sa_cons (se_if (sb_eq hr.units se_var (se_ix se_var se_var)) se_int se_int) sa_nil))) S_86.nd) (sss_one (ss_lc2 rfl S_86.nd (own := [("word", 8), ("digit", 9)]) (by exact blkOk_by (N := NN_86) (sc := defScope (top 86)) (by decide +kernel)) (si_val se_var) (fun s H C cl fp => (sg_name S_86.nd)) (fun s H C cl fp => (si_val se_var)) (fun s H C cl fp => (sg_name S_86.nd)) (fun s H C cl fp => (se_tup (sa_star se_var (sa_cons se_var sa_nil))))))))) (sss_one (ss_ret se_var))))⟩, ar_fn⟩
def NN_87 : List Str := ["prime", "size", "leads", "found", "k", "words", "rows", "word"]
def PP_87 : List Str := ["prime", "size", "leads"]
theorem S_87 : FnScope NN_87 PP_87 (defScope (top 87)) := ⟨rfl, rfl, rfl, by decide +kernel, rfl, by decide +kernel, by decide +kernel⟩
theorem c_rows_led (Z : Zed w K mg base) : Cal PG0 w K mg base 2 "rows_led" PP_87 f_rows_led [] := by
  obtain ⟨fd, F⟩ := Z.says.def_ 61 (d := dd_87) rfl
  exact ⟨⟨_, fd, [], [], gl_ok Z (i := 61) rfl, F.kp, F.bindsN fun _ _ _ _ _ _ us hl => match us, hl with | [_, _, _], _ => rfl, .nil, fn_ok (k := 1) (N := NN_87) (b := b_rows_led) F S_87 fun cdv A outer s H E hr => (sss_cons (ss_set (se_lst (sa_cons (se_tup sa_nil) sa_nil)) S_87.nd) (sss_cons (ss_for PassesOwn.never rfl (si_r1 ⟨rfl, n_range Z⟩ (se_len ⟨rfl, n_len Z⟩ se_var)) (sg_name S_87.nd) (sss_cons (ss_set (se_call (c_rows_for Z) hr (by decide) (sa_cons se_var (sa_cons se_var (sa_cons se_var (sa_cons se_var sa_nil))))) S_87.nd) (sss_one (ss_lc2 rfl S_87.nd (own := [("rows", 6), ("word", 7)]) (by exact blkOk_by (N := NN_87) (sc := defScope (top 87)) (by decide +kernel)) (si_val se_var) (fun s H C cl fp => (sg_name S_87.nd)) (fun s H C cl fp => (si_val se_var)) (fun s H C cl fp => (sg_name S_87.nd)) (fun s H C cl fp => (se_tup (sa_star se_var (sa_cons se_var sa_nil)))))))) (sss_one (ss_ret se_var))))⟩, ar_fn⟩
def NN_88 : List Str := ["size", "rank", "found", "place", "some"]
def PP_88 : List Str := ["size", "rank"]
theorem S_88 : FnScope NN_88 PP_88 (defScope (top 88)) := ⟨rfl, rfl, rfl, by decide +kernel, rfl, by decide +kernel, by decide +kernel⟩
theorem c_leads_of (Z : Zed w K mg base) : Cal PG0 w K mg base 1 "leads_of" PP_88 f_leads_of [] := by
  obtain ⟨fd, F⟩ := Z.says.def_ 62 (d := dd_88) rfl
  exact ⟨⟨_, fd, [], [], gl_ok Z (i := 62) rfl, F.kp, F.bindsN fun _ _ _ _ _ _ us hl => match us, hl with | [_, _], _ => rfl, .nil, fn_ok (k := 0) (N := NN_88) (b := b_leads_of) F S_88 fun cdv A outer s H E hr => (sss_cons (ss_set (se_lst (sa_cons (se_tup sa_nil) sa_nil)) S_88.nd) (sss_cons (ss_for PassesOwn.never rfl (si_r1 ⟨rfl, n_range Z⟩ se_var) (sg_name S_88.nd) (sss_one (ss_set (se_lst (sa_star se_var (sa_star (se_lc1 rfl S_88.nd (own := [("some", 4)]) (by exact blkOk_by (N := NN_88) (sc := defScope (top 88)) (by decide +kernel)) (si_val se_var) (fun s H C cl fp => (sg_name S_88.nd)) (fun s H C cl fp => (sb_lt (se_len ⟨rfl, n_len Z⟩ se_var) se_var)) (fun s H C cl fp => (se_tup (sa_star se_var (sa_cons se_var sa_nil))))) sa_nil))) S_88.nd))) (sss_one (ss_ret (se_lc1 rfl S_88.nd (own := [("some", 4)]) (by exact blkOk_by (N := NN_88) (sc := defScope (top 88)) (by decide +kernel)) (si_val se_var) (fun s H C cl fp => (sg_name S_88.nd)) (fun s H C cl fp => (sb_eq hr.units (se_len ⟨rfl, n_len Z⟩ se_var) se_var)) (fun s H C cl fp => se_var))))))⟩, ar_fn⟩
def NN_89 : List Str := ["size", "rank", "prime", "found", "leads", "rows"]
def PP_89 : List Str := ["size", "rank", "prime"]
theorem S_89 : FnScope NN_89 PP_89 (defScope (top 89)) := ⟨rfl, rfl, rfl, by decide +kernel, rfl, by decide +kernel, by decide +kernel⟩
theorem c_books_by (Z : Zed w K mg base) : Cal PG0 w K mg base 3 "books_by" PP_89 f_books_by [] := by
  obtain ⟨fd, F⟩ := Z.says.def_ 63 (d := dd_89) rfl
  exact ⟨⟨_, fd, [], [], gl_ok Z (i := 63) rfl, F.kp, F.bindsN fun _ _ _ _ _ _ us hl => match us, hl with | [_, _, _], _ => rfl, .nil, fn_ok (k := 2) (N := NN_89) (b := b_books_by) F S_89 fun cdv A outer s H E hr => (sss_cons (ss_set (se_newL sa_nil) S_89.nd) (sss_cons (ss_for PassesOwn.never rfl (si_val (se_call (c_leads_of Z) hr (by decide) (sa_cons se_var (sa_cons se_var sa_nil)))) (sg_name S_89.nd) (sss_one (ss_ext se_var (se_call (c_rows_led Z) hr (by decide) (sa_cons se_var (sa_cons se_var (sa_cons se_var sa_nil))))))) (sss_one (ss_ret (se_lc0 rfl S_89.nd (own := [("rows", 5)]) (by exact blkOk_by (N := NN_89) (sc := defScope (top 89)) (by decide +kernel)) (si_val (se_sorted hr.units ⟨rfl, n_sorted Z⟩ se_var)) (fun s H C cl fp => (sg_name S_89.nd)) (fun s H C cl fp => (se_tup (sa_cons se_var (sa_cons se_var (sa_cons se_var sa_nil))))))))))⟩, ar_fn⟩
def NN_90 : List Str := ["size", "rank", "prime"]
def PP_90 : List Str := ["size", "rank", "prime"]
theorem S_90 : FnScope NN_90 PP_90 (defScope (top 90)) := ⟨rfl, rfl, rfl, by decide +kernel, rfl, by decide +kernel, by decide +kernel⟩
theorem c_want_kind (Z : Zed w K mg base) : Cal PG0 w K mg base 4 "want_kind" PP_90 f_want_kind [] := by
  obtain ⟨fd, F⟩ := Z.says.def_ 64 (d := dd_90) rfl
  exact ⟨⟨_, fd, [], [], gl_ok Z (i := 64) rfl, F.kp, F.bindsN fun _ _ _ _ _ _ us hl => match us, hl with | [_, _, _], _ => rfl, .nil, fn_ok (k := 3) (N := NN_90) (b := b_want_kind) F S_90 fun cdv A outer s H E hr => (sss_cons (ss_expr (se_call (c_want_size Z) hr (by decide) (sa_cons se_var sa_nil))) (sss_cons (ss_expr (se_call (c_want Z) hr (by decide) (sa_cons (se_call (c_is_index Z) hr (by decide) (sa_cons se_var (sa_cons (se_add se_var se_int) sa_nil))) (sa_cons se_str sa_nil)))) (sss_one (ss_expr (se_call (c_want_prime Z) hr (by decide) (sa_cons se_var sa_nil))))))⟩, ar_fn⟩
def NN_91 : List Str := ["size", "rank", "prime", "book"]
def PP_91 : List Str := ["size", "rank", "prime"]
theorem S_91 : GScope NN_91 PP_91 (defScope (top 91)) := ⟨rfl, rfl, rfl, by decide +kernel, rfl, by decide +kernel, by decide +kernel⟩
-- generator all_books
theorem c_all_books (Z : Zed w K mg base) : CalG PG0 w K mg base 5 "all_books" PP_91 f_all_books := by
  obtain ⟨fd, F⟩ := Z.says.def_ 65 (d := dd_91) rfl
  exact ⟨⟨_, fd, gl_ok Z (i := 65) rfl, F.kp, F.bindsN fun _ _ _ _ _ _ us hl => match us, hl with | [_, _, _], _ => rfl, gfn_ok (k := 4) (N := NN_91) (b := b_all_books) F S_91 fun cdv A outer s H E pn hr => (sys_cons (sy_plain (ss_expr (se_call (c_want_kind Z) hr (by decide) (sa_cons se_var (sa_cons se_var (sa_cons se_var sa_nil)))))) (sys_one (sy_for owns_gcx rfl (si_val (se_call (c_books_by Z) hr (by decide) (sa_cons se_var (sa_cons se_var (sa_cons se_var sa_nil))))) (sg_name S_91.nd) (sys_one (sy_yield se_var)))))⟩, ar_gen⟩
def NN_92 : List Str := ["pattern", "prime", "book"]
def PP_92 : List Str := ["pattern", "prime"]
theorem S_92 : GScope NN_92 PP_92 (defScope (top 92)) := ⟨rfl, rfl, rfl, by decide +kernel, rfl, by decide +kernel, by decide +kernel⟩
-- generator books_of
theorem c_books_of (Z : Zed w K mg base) : CalG PG0 w K mg base 5 "books_of" PP_92 f_books_of := by
  obtain ⟨fd, F⟩ := Z.says.def_ 66 (d := dd_92) rfl
  exact ⟨⟨_, fd, gl_ok Z (i := 66) rfl, F.kp, F.bindsN fun _ _ _ _ _ _ us hl => match us, hl with | [_, _], _ => rfl, gfn_ok (k := 4) (N := NN_92) (b := b_books_of) F S_92 fun cdv A outer s H E pn hr => (sys_cons (sy_plain (ss_expr (se_callZ (c_want_prime Z) hr (by decide) (sa_cons se_var sa_nil)))) (sys_one (sy_for owns_gcx rfl (si_val (se_call (c_books_by Z) hr (by decide) (sa_cons (se_len ⟨rfl, n_len Z⟩ se_var) (sa_cons (se_callZ (c_balls_by Z) hr (by decide) (sa_cons se_var sa_nil)) (sa_cons se_var sa_nil))))) (sg_name S_92.nd) (sys_one (sy_if (sb_eq hr.units (se_callZ (c_throws_in Z) hr (by decide) (sa_cons se_var sa_nil)) se_var) (sys_one (sy_yield se_var)) sys_nil)))))⟩, ar_gen⟩
def NN_96 : List Str := ["one", "other", "bar"]
def PP_96 : List Str := ["one", "other"]
theorem S_96 : FnScope NN_96 PP_96 (defScope (top 96)) := ⟨rfl, rfl, rfl, by decide +kernel, rfl, by decide +kernel, by decide +kernel⟩
theorem c_order_paper (Z : Zed w K mg base) : Cal PG0 w K mg base 7 "order_paper" PP_96 f_order_paper [] := by
  obtain ⟨fd, F⟩ := Z.says.def_ 67 (d := dd_96) rfl
  exact ⟨⟨_, fd, [], [], gl_ok Z (i := 67) rfl, F.kp, F.bindsN fun _ _ _ _ _ _ us hl => match us, hl with | [_, _], _ => rfl, .nil, fn_ok (k := 6) (N := NN_96) (b := b_order_paper) F S_96 fun cdv A outer s H E hr => (sss_cons (ss_expr (se_callZ (c_want_peer Z) hr (by decide) (sa_cons se_var (sa_cons se_var sa_nil)))) (sss_cons (ss_set (se_callZ (c_bar_by Z) hr (by decide) (sa_cons se_var (sa_cons se_var sa_nil))) S_96.nd) (sss_one (ss_ret (se_if (sb_isN se_var se_non) (se_tup (sa_cons (se_gs (n_SWAPS Z)) (sa_cons (se_callZ (c_chain_by Z) hr (by decide) (sa_cons se_var (sa_cons se_var sa_nil))) sa_nil))) (se_tup (sa_cons (se_gs (n_STRETCH Z)) (sa_cons se_var sa_nil))))))))⟩, ar_fn⟩
def NN_97 : List Str := ["holds", "told", "spot"]
def PP_97 : List Str := ["holds", "told", "spot"]
theorem S_97 : FnScope NN_97 PP_97 (defScope (top 97)) := ⟨rfl, rfl, rfl, by decide +kernel, rfl, by decide +kernel, by decide +kernel⟩
theorem c_stop_unless_2 (Z : Zed w K mg base) : Cal PG0 w K mg base 1 "stop_unless" PP_97 f_stop_unless [.int (-1)] := by
  obtain ⟨fd, F⟩ := Z.says.def_ 68 (d := dd_97) rfl
  obtain ⟨ds, hd, hb⟩ := F.binds1 (ps := PP_97) 2 0 (by intro z; cases z) rfl fun T kV doc pm an cdv ct us its h1 h2 => match us, h1, its, h2 with | [_, _], _, [_], _ => ⟨_, rfl, rfl⟩
  exact ⟨⟨_, fd, _, ds, gl_ok Z (i := 68) rfl, F.kp, hb, dv_int hd, fn_ok (k := 0) (N := NN_97) (b := b_stop_unless) F S_97 fun cdv A outer s H E hr => (sss_one (ss_if (sb_not (sb_val se_var)) (sss_one (ss_never)) sss_nil))⟩, ar_fn⟩
theorem c_stop_unless_3 (Z : Zed w K mg base) : Cal PG0 w K mg base 1 "stop_unless" PP_97 f_stop_unless [] := by
  obtain ⟨fd, F⟩ := Z.says.def_ 68 (d := dd_97) rfl
  obtain ⟨ds, hd, hb⟩ := F.binds1 (ps := PP_97) 3 1 (by intro z; cases z) rfl fun T kV doc pm an cdv ct us its h1 h2 => match us, h1, its, h2 with | [_, _, _], _, [_], _ => ⟨_, rfl, rfl⟩
  exact ⟨⟨_, fd, _, ds, gl_ok Z (i := 68) rfl, F.kp, hb, dv_nil hd, fn_ok (k := 0) (N := NN_97) (b := b_stop_unless) F S_97 fun cdv A outer s H E hr => (sss_one (ss_if (sb_not (sb_val se_var)) (sss_one (ss_never)) sss_nil))⟩, ar_fn⟩
def NN_98 : List Str := ["thing", "head"]
def PP_98 : List Str := ["thing", "head"]
theorem S_98 : FnScope NN_98 PP_98 (defScope (top 98)) := ⟨rfl, rfl, rfl, by decide +kernel, rfl, by decide +kernel, by decide +kernel⟩
theorem c_is_headed (Z : Zed w K mg base) : Cal PG0 w K mg base 2 "is_headed" PP_98 f_is_headed [] := by
  obtain ⟨fd, F⟩ := Z.says.def_ 69 (d := dd_98) rfl
  exact ⟨⟨_, fd, [], [], gl_ok Z (i := 69) rfl, F.kp, F.bindsN fun _ _ _ _ _ _ us hl => match us, hl with | [_, _], _ => rfl, .nil, fn_ok (k := 1) (N := NN_98) (b := b_is_headed) F S_98 fun cdv A outer s H E hr => (sss_one (ss_ret (se_and (se_call (c_is_tuple_of Z) hr (by decide) (sa_cons se_var (sa_cons se_int sa_nil))) (se_and (se_isi ⟨rfl, n_isinstance Z⟩ ⟨rfl, n_str Z⟩ PyProof.Rows.boot_str (se_ix se_var se_int)) (se_one (se_eq hr.units (se_ix se_var se_int) se_var))))))⟩, ar_fn⟩
def NN_99 : List Str := ["size", "thing"]
def PP_99 : List Str := ["size", "thing"]
theorem S_99 : FnScope NN_99 PP_99 (defScope (top 99)) := ⟨rfl, rfl, rfl, by decide +kernel, rfl, by decide +kernel, by decide +kernel⟩
theorem c_is_swap_pair (Z : Zed w K mg base) : Cal PG0 w K mg base 4 "is_swap_pair" PP_99 f_is_swap_pair [] := by
  obtain ⟨fd, F⟩ := Z.says.def_ 70 (d := dd_99) rfl
  exact ⟨⟨_, fd, [], [], gl_ok Z (i := 70) rfl, F.kp, F.bindsN fun _ _ _ _ _ _ us hl => match us, hl with | [_, _], _ => rfl, .nil, fn_ok (k := 3) (N := NN_99) (b := b_is_swap_pair) F S_99 fun cdv A outer s H E hr => (sss_cons (ss_if (sb_w (sw_or (sb_not (sb_val (se_call (c_is_tuple_of Z) hr (by decide) (sa_cons se_var (sa_cons se_int sa_nil))))) (sw_or (sb_not (sb_val (se_call (c_is_index Z) hr (by decide) (sa_cons (se_ix se_var se_int) (sa_cons se_var sa_nil))))) (sw_or1 (sb_not (sb_val (se_call (c_is_integer Z) hr (by decide) (sa_cons (se_ix se_var se_int) sa_nil)))))))) (sss_one (ss_ret se_bl)) sss_nil) (sss_one (ss_ret (se_chain .lt .lt (se_ix se_var se_int) (se_ix se_var se_int) (se_add (se_ix se_var se_int) se_var)))))⟩, ar_fn⟩
def NN_100 : List Str := ["other", "pairs", "here", "k", "pair", "late"]
def PP_100 : List Str := ["other", "pairs"]
theorem S_100 : FnScope NN_100 PP_100 (defScope (top 100)) := ⟨rfl, rfl, rfl, by decide +kernel, rfl, by decide +kernel, by decide +kernel⟩
theorem c_swaps_end (Z : Zed w K mg base) : Cal PG0 w K mg base 5 "swaps_end" PP_100 f_swaps_end [] := by
  obtain ⟨fd, F⟩ := Z.says.def_ 71 (d := dd_100) rfl
  exact ⟨⟨_, fd, [], [], gl_ok Z (i := 71) rfl, F.kp, F.bindsN fun _ _ _ _ _ _ us hl => match us, hl with | [_, _], _ => rfl, .nil, fn_ok (k := 4) (N := NN_100) (b := b_swaps_end) F S_100 fun cdv A outer s H E hr => (sss_cons (ss_set se_var S_100.nd) (sss_cons (ss_for PassesOwn.never rfl (si_enum ⟨rfl, n_enumerate Z⟩ se_var) (sg_tup rfl (sgs_cons (sgs_cons sgs_nil S_100.nd) S_100.nd)) (sss_cons (ss_expr (se_callZ (c_stop_unless_3 Z) hr (by decide) (sa_cons (se_callZ (c_is_swap_pair Z) hr (by decide) (sa_cons (se_len ⟨rfl, n_len Z⟩ se_var) (sa_cons se_var sa_nil))) (sa_cons se_str (sa_cons se_var sa_nil))))) (sss_cons (ss_set (se_callZ (c_swapped_by Z) hr (by decide) (sa_cons se_var (sa_cons (se_ix se_var se_int) (sa_cons (se_ix se_var se_int) sa_nil)))) S_100.nd) (sss_cons (ss_expr (se_callZ (c_stop_unless_3 Z) hr (by decide) (sa_cons (se_and (se_notN se_var se_non) (se_one (se_callZ (c_is_rise Z) hr (by decide) (sa_cons se_var (sa_cons se_var sa_nil))))) (sa_cons se_str (sa_cons se_var sa_nil))))) (sss_one (ss_set se_var S_100.nd)))))) (sss_one (ss_ret se_var))))⟩, ar_fn⟩
def NN_101 : List Str := ["one", "other", "thing", "stretch", "is_greater"]
def PP_101 : List Str := ["one", "other", "thing"]
theorem S_101 : FnScope NN_101 PP_101 (defScope (top 101)) := ⟨rfl, rfl, rfl, by decide +kernel, rfl, by decide +kernel, by decide +kernel⟩
theorem c_lets_below (Z : Zed w K mg base) : Cal PG0 w K mg base 7 "lets_below" PP_101 f_lets_below [] := by
  obtain ⟨fd, F⟩ := Z.says.def_ 72 (d := dd_101) rfl
  exact ⟨⟨_, fd, [], [], gl_ok Z (i := 72) rfl, F.kp, F.bindsN fun _ _ _ _ _ _ us hl => match us, hl with | [_, _, _], _ => rfl, .nil, fn_ok (k := 6) (N := NN_101) (b := b_lets_below) F S_101 fun cdv A outer s H E hr => (sss_cons (ss_expr (se_callZ (c_want_peer Z) hr (by decide) (sa_cons se_var (sa_cons se_var sa_nil)))) (sss_cons (ss_if (sb_w (sw_and (sb_val (se_callZ (c_is_headed Z) hr (by decide) (sa_cons se_var (sa_cons (se_gs (n_SWAPS Z)) sa_nil)))) (sw_and1 (sb_val (se_isi ⟨rfl, n_isinstance Z⟩ ⟨rfl, n_tuple Z⟩ PyProof.Rows.boot_tuple (se_ix se_var se_int)))))) (sss_cons (ss_expr (se_callZ (c_stop_unless_2 Z) hr (by decide) (sa_cons (se_eq hr.units (se_callZ (c_swaps_end Z) hr (by decide) (sa_cons se_var (sa_cons (se_ix se_var se_int) sa_nil))) se_var) (sa_cons se_str sa_nil)))) (sss_one (ss_ret se_bl))) sss_nil) (sss_cons (ss_expr (se_callZ (c_stop_unless_2 Z) hr (by decide) (sa_cons (se_callZ (c_is_headed Z) hr (by decide) (sa_cons se_var (sa_cons (se_gs (n_STRETCH Z)) sa_nil))) (sa_cons se_str sa_nil)))) (sss_cons (ss_set (se_ix se_var se_int) S_101.nd) (sss_cons (ss_expr (se_callZ (c_stop_unless_2 Z) hr (by decide) (sa_cons (se_callZ (c_is_stretch Z) hr (by decide) (sa_cons (se_len ⟨rfl, n_len Z⟩ se_var) (sa_cons se_var sa_nil))) (sa_cons se_str sa_nil)))) (sss_cons (ss_set (se_gt (se_callZ (c_rank_in Z) hr (by decide) (sa_cons se_var (sa_cons (se_ix se_var se_int) (sa_cons (se_ix se_var se_int) sa_nil)))) (se_callZ (c_rank_in Z) hr (by decide) (sa_cons se_var (sa_cons (se_ix se_var se_int) (sa_cons (se_ix se_var se_int) sa_nil))))) S_101.nd) (sss_cons (ss_expr (se_callZ (c_stop_unless_2 Z) hr (by decide) (sa_cons se_var (sa_cons se_str sa_nil)))) (sss_one (ss_ret se_bl)))))))))⟩, ar_fn⟩
def NN_103 : List Str := ["pattern"]
def PP_103 : List Str := ["pattern"]
theorem S_103 : FnScope NN_103 PP_103 (defScope (top 103)) := ⟨rfl, rfl, rfl, by decide +kernel, rfl, by decide +kernel, by decide +kernel⟩
theorem c_balls_of (Z : Zed w K mg base) : Cal PG0 w K mg base 2 "balls_of" PP_103 f_balls_of [] := by
  obtain ⟨fd, F⟩ := Z.says.def_ 73 (d := dd_103) rfl
  exact ⟨⟨_, fd, [], [], gl_ok Z (i := 73) rfl, F.kp, F.bindsN fun _ _ _ _ _ _ us hl => match us, hl with | [_], _ => rfl, .nil, fn_ok (k := 1) (N := NN_103) (b := b_balls_of) F S_103 fun cdv A outer s H E hr => (sss_one (ss_ret (se_call (c_balls_by Z) hr (by decide) (sa_cons se_var sa_nil))))⟩, ar_fn⟩
def NN_105 : List Str := ["pattern", "i", "j"]
def PP_105 : List Str := ["pattern", "i", "j"]
theorem S_105 : FnScope NN_105 PP_105 (defScope (top 105)) := ⟨rfl, rfl, rfl, by decide +kernel, rfl, by decide +kernel, by decide +kernel⟩
theorem c_want_pair (Z : Zed w K mg base) : Cal PG0 w K mg base 4 "want_pair" PP_105 f_want_pair [] := by
  obtain ⟨fd, F⟩ := Z.says.def_ 74 (d := dd_105) rfl
  exact ⟨⟨_, fd, [], [], gl_ok Z (i := 74) rfl, F.kp, F.bindsN fun _ _ _ _ _ _ us hl => match us, hl with | [_, _, _], _ => rfl, .nil, fn_ok (k := 3) (N := NN_105) (b := b_want_pair) F S_105 fun cdv A outer s H E hr => (sss_cons (ss_expr (se_call (c_want Z) hr (by decide) (sa_cons (se_call (c_is_index Z) hr (by decide) (sa_cons se_var (sa_cons (se_len ⟨rfl, n_len Z⟩ se_var) sa_nil))) (sa_cons se_str sa_nil)))) (sss_one (ss_expr (se_call (c_want Z) hr (by decide) (sa_cons (se_and (se_call (c_is_integer Z) hr (by decide) (sa_cons se_var sa_nil)) (se_one (se_chain .lt .lt se_var se_var (se_add se_var (se_len ⟨rfl, n_len Z⟩ se_var))))) (sa_cons se_str sa_nil))))))⟩, ar_fn⟩
def NN_106 : List Str := ["pattern", "i", "j", "other"]
def PP_106 : List Str := ["pattern", "i", "j"]
theorem S_106 : FnScope NN_106 PP_106 (defScope (top 106)) := ⟨rfl, rfl, rfl, by decide +kernel, rfl, by decide +kernel, by decide +kernel⟩
theorem c_swapped (Z : Zed w K mg base) : Cal PG0 w K mg base 5 "swapped" PP_106 f_swapped [] := by
  obtain ⟨fd, F⟩ := Z.says.def_ 75 (d := dd_106) rfl
  exact ⟨⟨_, fd, [], [], gl_ok Z (i := 75) rfl, F.kp, F.bindsN fun _ _ _ _ _ _ us hl => match us, hl with | [_, _, _], _ => rfl, .nil, fn_ok (k := 4) (N := NN_106) (b := b_swapped) F S_106 fun cdv A outer s H E hr => (sss_cons (ss_expr (se_call (c_want_pair Z) hr (by decide) (sa_cons se_var (sa_cons se_var (sa_cons se_var sa_nil))))) (sss_cons (ss_set (se_call (c_swapped_by Z) hr (by decide) (sa_cons se_var (sa_cons se_var (sa_cons se_var sa_nil)))) S_106.nd) (sss_cons (ss_expr (se_call (c_want Z) hr (by decide) (sa_cons (se_notN se_var se_non) (sa_cons se_str sa_nil)))) (sss_one (ss_ret se_var)))))⟩, ar_fn⟩
def NN_107 : List Str := ["pattern", "pair"]
def PP_107 : List Str := ["pattern"]
theorem S_107 : FnScope NN_107 PP_107 (defScope (top 107)) := ⟨rfl, rfl, rfl, by decide +kernel, rfl, by decide +kernel, by decide +kernel⟩
theorem c_lowering_swaps (Z : Zed w K mg base) : Cal PG0 w K mg base 4 "lowering_swaps" PP_107 f_lowering_swaps [] := by
  obtain ⟨fd, F⟩ := Z.says.def_ 76 (d := dd_107) rfl
  exact ⟨⟨_, fd, [], [], gl_ok Z (i := 76) rfl, F.kp, F.bindsN fun _ _ _ _ _ _ us hl => match us, hl with | [_], _ => rfl, .nil, fn_ok (k := 3) (N := NN_107) (b := b_lowering_swaps) F S_107 fun cdv A outer s H E hr => (sss_one (ss_ret (se_tupOf ⟨rfl, n_tuple Z⟩ (se_lc1 rfl S_107.nd (own := [("pair", 1)]) (by exact blkOk_by (N := NN_107) (sc := defScope (top 107)) (by decide +kernel)) (si_val (se_call (c_pairs_by Z) hr (by decide) (sa_cons se_var sa_nil))) (fun s H C cl fp => (sg_name S_107.nd)) (fun s H C cl fp => (sb_val (se_call (c_is_rise Z) hr (by decide) (sa_cons se_var (sa_cons se_var sa_nil))))) (fun s H C cl fp => se_var)))))⟩, ar_fn⟩
def NN_108 : List Str := ["pattern"]
def PP_108 : List Str := ["pattern"]
theorem S_108 : FnScope NN_108 PP_108 (defScope (top 108)) := ⟨rfl, rfl, rfl, by decide +kernel, rfl, by decide +kernel, by decide +kernel⟩
theorem c_depth_of (Z : Zed w K mg base) : Cal PG0 w K mg base 4 "depth_of" PP_108 f_depth_of [] := by
  obtain ⟨fd, F⟩ := Z.says.def_ 77 (d := dd_108) rfl
  exact ⟨⟨_, fd, [], [], gl_ok Z (i := 77) rfl, F.kp, F.bindsN fun _ _ _ _ _ _ us hl => match us, hl with | [_], _ => rfl, .nil, fn_ok (k := 3) (N := NN_108) (b := b_depth_of) F S_108 fun cdv A outer s H E hr => (sss_one (ss_ret (se_call (c_depth_by Z) hr (by decide) (sa_cons se_var sa_nil))))⟩, ar_fn⟩
def NN_110 : List Str := ["_law_script"]
def PP_110 : List Str := ["_law_script"]
theorem S_110 : FnScope NN_110 PP_110 (defScope (top 110)) := ⟨rfl, rfl, rfl, by decide +kernel, rfl, by decide +kernel, by decide +kernel⟩
theorem c__law_source (Z : Zed w K mg base) : Cal PG0 w K mg base 1 "_law_source" PP_110 f__law_source [] := by
  obtain ⟨fd, F⟩ := Z.says.def_ 78 (d := dd_110) rfl
  exact ⟨⟨_, fd, [], [], gl_ok Z (i := 78) rfl, F.kp, F.bindsN fun _ _ _ _ _ _ us hl => match us, hl with | [_], _ => rfl, .nil, fnK_ok (k := 0) (N := NN_110) (b := b__law_source) F S_110 fun cdv A outer s H E hr => (sss_one (ss_ret (se_newL (sa_cons (se_sl se_var so_none (so_some se_int)) (sa_cons se_int (sa_cons se_int (sa_cons se_int sa_nil)))))))⟩, ar_fnK⟩
def NN_111 : List Str := ["_law_feed", "_law_size", "_law_found", "_law_spot", "_law_cell", "_law_mixed"]
def PP_111 : List Str := ["_law_feed", "_law_size"]
theorem S_111 : FnScope NN_111 PP_111 (defScope (top 111)) := ⟨rfl, rfl, rfl, by decide +kernel, rfl, by decide +kernel, by decide +kernel⟩
theorem c__law_draw (Z : Zed w K mg base) : Cal PG0 w K mg base 1 "_law_draw" PP_111 f__law_draw [] := by
  obtain ⟨fd, F⟩ := Z.says.def_ 79 (d := dd_111) rfl
  exact ⟨⟨_, fd, [], [], gl_ok Z (i := 79) rfl, F.kp, F.bindsN fun _ _ _ _ _ _ us hl => match us, hl with | [_, _], _ => rfl, .nil, fn_ok (k := 0) (N := NN_111) (b := b__law_draw) F S_111 fun cdv A outer s H E hr => (sss_cons (ss_ix se_var se_int (se_add (se_ix se_var se_int) se_int)) (sss_cons (ss_if (sb_gt (se_ix se_var se_int) se_int) (sss_cons (ss_set (se_mod (se_int1 ⟨rfl, n_int Z⟩ (se_ix se_var se_int)) se_var) S_111.nd) (sss_cons (ss_ix se_var se_int (se_div (se_ix se_var se_int) se_var)) (sss_one (ss_ret se_var)))) sss_nil) (sss_cons (ss_set (se_ix se_var se_int) S_111.nd) (sss_cons (ss_ix se_var se_int (se_add se_var se_int)) (sss_cons (ss_set (se_if (sb_ne hr.units (se_ix se_var se_int) (se_lst sa_nil)) (se_ix (se_ix se_var se_int) (se_mod (se_int1 ⟨rfl, n_int Z⟩ se_var) (se_len ⟨rfl, n_len Z⟩ (se_ix se_var se_int)))) se_int) S_111.nd) (sss_cons (ss_if (sb_w (sw_and (sb_ge se_var (se_pow se_int se_int)) (sw_and1 (sb_lt se_var (se_len ⟨rfl, n_len Z⟩ (se_ix se_var se_int)))))) (sss_cons (ss_ix se_var se_int (se_div se_var se_var)) (sss_one (ss_ret (se_mod (se_int1 ⟨rfl, n_int Z⟩ se_var) se_var)))) sss_nil) (sss_cons (ss_set (se_mod (se_int1 ⟨rfl, n_int Z⟩ (se_pow (se_add (se_add (se_mod (se_int1 ⟨rfl, n_int Z⟩ se_var) se_int) (se_mul se_int (se_ix se_var se_int))) se_int) se_int)) se_int) S_111.nd) (sss_cons (ss_set (se_mod (se_int1 ⟨rfl, n_int Z⟩ (se_pow (se_add (se_add se_var (se_mul (se_mul se_int (se_ix se_var se_int)) (se_ix se_var se_int))) se_int) se_int)) se_int) S_111.nd) (sss_one (ss_ret (se_mod (se_int1 ⟨rfl, n_int Z⟩ (se_div se_var se_int)) se_var)))))))))))⟩, ar_fn⟩
def NN_113 : List Str := ["_law_prime", "_law_word", "_law_many", "_law_lead", "_law_a", "_law_b"]
def PP_113 : List Str := ["_law_prime", "_law_word", "_law_many", "_law_lead"]
theorem S_113 : FnScope NN_113 PP_113 (defScope (top 113)) := ⟨rfl, rfl, rfl, by decide +kernel, rfl, by decide +kernel, by decide +kernel⟩
theorem c__law_less (Z : Zed w K mg base) : Cal PG0 w K mg base 1 "_law_less" PP_113 f__law_less [] := by
  obtain ⟨fd, F⟩ := Z.says.def_ 81 (d := dd_113) rfl
  exact ⟨⟨_, fd, [], [], gl_ok Z (i := 81) rfl, F.kp, F.bindsN fun _ _ _ _ _ _ us hl => match us, hl with | [_, _, _, _], _ => rfl, .nil, fn_ok (k := 0) (N := NN_113) (b := b__law_less) F S_113 fun cdv A outer s H E hr => (sss_one (ss_ret (se_lc0 rfl S_113.nd (own := [("_law_a", 4), ("_law_b", 5)]) (by exact blkOk_by (N := NN_113) (sc := defScope (top 113)) (by decide +kernel)) (si_zip ⟨rfl, n_zip Z⟩ se_var se_var) (fun s H C cl fp => (sg_tup rfl (sgs_cons (sgs_cons sgs_nil S_113.nd) S_113.nd))) (fun s H C cl fp => (se_mod (se_int1 ⟨rfl, n_int Z⟩ (se_sub se_var (se_mul se_var se_var))) se_var)))))⟩, ar_fn⟩
def NN_112 : List Str := ["_law_prime", "_law_words", "_law_rows_here", "_law_todo", "_law_wide", "_law_place", "_law_some", "_law_back", "_law_lead", "_law_word", "_law_digit", "_law_k"]
def PP_112 : List Str := ["_law_prime", "_law_words"]
theorem S_112 : FnScope NN_112 PP_112 (defScope (top 112)) := ⟨rfl, rfl, rfl, by decide +kernel, rfl, by decide +kernel, by decide +kernel⟩
theorem c__law_rows (Z : Zed w K mg base) : Cal PG0 w K mg base 2 "_law_rows" PP_112 f__law_rows [] := by
  obtain ⟨fd, F⟩ := Z.says.def_ 80 (d := dd_112) rfl
  exact ⟨⟨_, fd, [], [], gl_ok Z (i := 80) rfl, F.kp, F.bindsN fun _ _ _ _ _ _ us hl => match us, hl with | [_, _], _ => rfl, .nil, fn_ok (k := 1) (N := NN_112) (b := b__law_rows) F S_112 fun cdv A outer s H E hr => (sss_cons (ss_par rfl (se_lst sa_nil) (se_lc0 rfl S_112.nd (own := [("_law_word", 9)]) (by exact blkOk_by (N := NN_112) (sc := defScope (top 112)) (by decide +kernel)) (si_val se_var) (fun s H C cl fp => (sg_name S_112.nd)) (fun s H C cl fp => (se_lstOf ⟨rfl, n_list Z⟩ se_var))) S_112.nd) (sss_cons (ss_set (se_if (sb_ne hr.units se_var (se_lst sa_nil)) (se_len ⟨rfl, n_len Z⟩ (se_ix se_var se_int)) se_int) S_112.nd) (sss_cons (ss_for PassesOwn.never rfl (si_r1 ⟨rfl, n_range Z⟩ se_var) (sg_name S_112.nd) (sss_cons (ss_set (se_lc1 rfl S_112.nd (own := [("_law_word", 9)]) (by exact blkOk_by (N := NN_112) (sc := defScope (top 112)) (by decide +kernel)) (si_val se_var) (fun s H C cl fp => (sg_name S_112.nd)) (fun s H C cl fp => (sb_ne hr.units (se_ix se_var se_var) se_int)) (fun s H C cl fp => se_var)) S_112.nd) (sss_one (ss_if (sb_ne hr.units se_var (se_lst sa_nil)) (sss_cons (ss_set (se_ix (se_lc1 rfl S_112.nd (own := [("_law_k", 11)]) (by exact blkOk_by (N := NN_112) (sc := defScope (top 112)) (by decide +kernel)) (si_r2 ⟨rfl, n_range Z⟩ se_int se_var) (fun s H C cl fp => (sg_name S_112.nd)) (fun s H C cl fp => (sb_eq hr.units (se_mod (se_int1 ⟨rfl, n_int Z⟩ (se_mul se_var (se_ix (se_ix se_var se_int) se_var))) se_var) se_int)) (fun s H C cl fp => se_var)) se_int) S_112.nd) (sss_cons (ss_set (se_lc0 rfl S_112.nd (own := [("_law_digit", 10)]) (by exact blkOk_by (N := NN_112) (sc := defScope (top 112)) (by decide +kernel)) (si_val (se_ix se_var se_int)) (fun s H C cl fp => (sg_name S_112.nd)) (fun s H C cl fp => (se_mod (se_int1 ⟨rfl, n_int Z⟩ (se_mul se_var se_var)) se_var))) S_112.nd) (sss_cons (ss_lc0 rfl S_112.nd (own := [("_law_word", 9)]) (by exact blkOk_by (N := NN_112) (sc := defScope (top 112)) (by decide +kernel)) (si_val se_var) (fun s H C cl fp => (sg_name S_112.nd)) (fun s H C cl fp => (se_call (c__law_less Z) hr (by decide) (sa_cons se_var (sa_cons se_var (sa_cons (se_ix se_var se_var) (sa_cons se_var sa_nil))))))) (sss_one (ss_set (se_catL (se_lc0 rfl S_112.nd (own := [("_law_word", 9)]) (by exact blkOk_by (N := NN_112) (sc := defScope (top 112)) (by decide +kernel)) (si_val se_var) (fun s H C cl fp => (sg_name S_112.nd)) (fun s H C cl fp => (se_call (c__law_less Z) hr (by decide) (sa_cons se_var (sa_cons se_var (sa_cons (se_ix se_var se_var) (sa_cons se_var sa_nil))))))) (se_lst (sa_cons se_var sa_nil))) S_112.nd))))) sss_nil)))) (sss_one (ss_ret (se_tupOf ⟨rfl, n_tuple Z⟩ (se_lc0 rfl S_112.nd (own := [("_law_word", 9)]) (by exact blkOk_by (N := NN_112) (sc := defScope (top 112)) (by decide +kernel)) (si_val se_var) (fun s H C cl fp => (sg_name S_112.nd)) (fun s H C cl fp => (se_tupOf ⟨rfl, n_tuple Z⟩ se_var)))))))))⟩, ar_fn⟩
def NN_114 : List Str := ["_law_book", "_law_k", "_law_row"]
def PP_114 : List Str := ["_law_book"]
theorem S_114 : FnScope NN_114 PP_114 (defScope (top 114)) := ⟨rfl, rfl, rfl, by decide +kernel, rfl, by decide +kernel, by decide +kernel⟩
theorem c__law_columns (Z : Zed w K mg base) : Cal PG0 w K mg base 1 "_law_columns" PP_114 f__law_columns [] := by
  obtain ⟨fd, F⟩ := Z.says.def_ 82 (d := dd_114) rfl
  exact ⟨⟨_, fd, [], [], gl_ok Z (i := 82) rfl, F.kp, F.bindsN fun _ _ _ _ _ _ us hl => match us, hl with | [_], _ => rfl, .nil, fn_ok (k := 0) (N := NN_114) (b := b__law_columns) F S_114 fun cdv A outer s H E hr => (sss_one (ss_ret (se_lc0 rfl S_114.nd (own := [("_law_k", 1)]) (by exact blkOk_by (N := NN_114) (sc := defScope (top 114)) (by decide +kernel)) (si_r1 ⟨rfl, n_range Z⟩ (se_ix se_var se_int)) (fun s H C cl fp => (sg_name S_114.nd)) (fun s H C cl fp => (se_tupOf ⟨rfl, n_tuple Z⟩ (se_lc0 rfl S_114.nd (own := [("_law_row", 2)]) (by exact blkOk_by (by kernel_rfl)) (si_val (se_ix se_var se_int)) (fun s H C cl fp => (sg_name S_114.nd)) (fun s H C cl fp => (se_ix se_var se_var))))))))⟩, ar_fn⟩
def NN_115 : List Str := ["_law_prime", "_law_columns_here"]
def PP_115 : List Str := ["_law_prime", "_law_columns_here"]
theorem S_115 : FnScope NN_115 PP_115 (defScope (top 115)) := ⟨rfl, rfl, rfl, by decide +kernel, rfl, by decide +kernel, by decide +kernel⟩
theorem c__law_rank (Z : Zed w K mg base) : Cal PG0 w K mg base 3 "_law_rank" PP_115 f__law_rank [] := by
  obtain ⟨fd, F⟩ := Z.says.def_ 83 (d := dd_115) rfl
  exact ⟨⟨_, fd, [], [], gl_ok Z (i := 83) rfl, F.kp, F.bindsN fun _ _ _ _ _ _ us hl => match us, hl with | [_, _], _ => rfl, .nil, fn_ok (k := 2) (N := NN_115) (b := b__law_rank) F S_115 fun cdv A outer s H E hr => (sss_one (ss_ret (se_len ⟨rfl, n_len Z⟩ (se_call (c__law_rows Z) hr (by decide) (sa_cons se_var (sa_cons se_var sa_nil))))))⟩, ar_fn⟩
def NN_116 : List Str := ["_law_prime", "_law_columns_here", "_law_one"]
def PP_116 : List Str := ["_law_prime", "_law_columns_here", "_law_one"]
theorem S_116 : FnScope NN_116 PP_116 (defScope (top 116)) := ⟨rfl, rfl, rfl, by decide +kernel, rfl, by decide +kernel, by decide +kernel⟩
theorem c__law_is_new (Z : Zed w K mg base) : Cal PG0 w K mg base 4 "_law_is_new" PP_116 f__law_is_new [] := by
  obtain ⟨fd, F⟩ := Z.says.def_ 84 (d := dd_116) rfl
  exact ⟨⟨_, fd, [], [], gl_ok Z (i := 84) rfl, F.kp, F.bindsN fun _ _ _ _ _ _ us hl => match us, hl with | [_, _, _], _ => rfl, .nil, fn_ok (k := 3) (N := NN_116) (b := b__law_is_new) F S_116 fun cdv A outer s H E hr => (sss_one (ss_ret (se_gt (se_call (c__law_rank Z) hr (by decide) (sa_cons se_var (sa_cons (se_catL se_var (se_lst (sa_cons se_var sa_nil))) sa_nil))) (se_call (c__law_rank Z) hr (by decide) (sa_cons se_var (sa_cons se_var sa_nil))))))⟩, ar_fn⟩
def NN_117 : List Str := ["_law_book", "_law_columns_here", "_law_found", "_law_i", "_law_near", "_law_t"]
def PP_117 : List Str := ["_law_book"]
theorem S_117 : FnScope NN_117 PP_117 (defScope (top 117)) := ⟨rfl, rfl, rfl, by decide +kernel, rfl, by decide +kernel, by decide +kernel⟩
theorem c__law_throws (Z : Zed w K mg base) : Cal PG0 w K mg base 5 "_law_throws" PP_117 f__law_throws [] := by
  obtain ⟨fd, F⟩ := Z.says.def_ 85 (d := dd_117) rfl
  exact ⟨⟨_, fd, [], [], gl_ok Z (i := 85) rfl, F.kp, F.bindsN fun _ _ _ _ _ _ us hl => match us, hl with | [_], _ => rfl, .nil, fn_ok (k := 4) (N := NN_117) (b := b__law_throws) F S_117 fun cdv A outer s H E hr => (sss_cons (ss_par rfl (se_call (c__law_columns Z) hr (by decide) (sa_cons se_var sa_nil)) (se_newL sa_nil) S_117.nd) (sss_cons (ss_for PassesOwn.never rfl (si_r1 ⟨rfl, n_range Z⟩ (se_ix se_var se_int)) (sg_name S_117.nd) (sss_cons (ss_par rfl (se_newL sa_nil) se_int S_117.nd) (sss_cons (ss_while PassesOwn.never (sb_w (sw_and (sb_lt se_var (se_ix se_var se_int)) (sw_and1 (sb_val (se_callZ (c__law_is_new Z) hr (by decide) (sa_cons (se_ix se_var se_int) (sa_cons se_var (sa_cons (se_ix se_var se_var) sa_nil)))))))) (sss_cons (ss_set (se_add se_var se_int) S_117.nd) (sss_one (ss_app se_var (se_ix se_var (se_mod (se_int1 ⟨rfl, n_int Z⟩ (se_add se_var se_var)) (se_ix se_var se_int))))))) (sss_one (ss_app se_var se_var))))) (sss_one (ss_ret (se_tupOf ⟨rfl, n_tuple Z⟩ se_var)))))⟩, ar_fn⟩
def NN_118 : List Str := ["_law_throws_here", "_law_start", "_law_length", "_law_size", "_law_found", "_law_k"]
def PP_118 : List Str := ["_law_throws_here", "_law_start", "_law_length"]
theorem S_118 : FnScope NN_118 PP_118 (defScope (top 118)) := ⟨rfl, rfl, rfl, by decide +kernel, rfl, by decide +kernel, by decide +kernel⟩
theorem c__law_within_0 (Z : Zed w K mg base) : Cal PG0 w K mg base 1 "_law_within" PP_118 f__law_within [] := by
  obtain ⟨fd, F⟩ := Z.says.def_ 86 (d := dd_118) rfl
  exact ⟨⟨_, fd, [], [], gl_ok Z (i := 86) rfl, F.kp, F.bindsN fun _ _ _ _ _ _ us hl => match us, hl with | [_, _, _], _ => rfl, .nil, fn_ok (k := 0) (N := NN_118) (b := b__law_within) F S_118 fun cdv A outer s H E hr => (sss_cons (ss_par rfl (se_len ⟨rfl, n_len Z⟩ se_var) se_int S_118.nd) (sss_cons (ss_for PassesOwn.never rfl (si_r1 ⟨rfl, n_range Z⟩ se_var) (sg_name S_118.nd) (sss_one (ss_if (sb_lt (se_add se_var (se_ix se_var (se_mod (se_int1 ⟨rfl, n_int Z⟩ (se_add se_var se_var)) se_var))) se_var) (sss_one (ss_set (se_add se_var se_int) S_118.nd)) sss_nil))) (sss_one (ss_ret se_var))))⟩, ar_fn⟩
theorem c__law_within (Z : Zed w K mg base) : Cal PG0 w K mg base 1 "_law_within" PP_118 g__law_within [] := (c__law_within_0 Z).le le_within
def NN_119 : List Str := ["_law_throws_here", "_law_i"]
def PP_119 : List Str := ["_law_throws_here", "_law_i"]
theorem S_119 : FnScope NN_119 PP_119 (defScope (top 119)) := ⟨rfl, rfl, rfl, by decide +kernel, rfl, by decide +kernel, by decide +kernel⟩
theorem c__law_lands_0 (Z : Zed w K mg base) : Cal PG0 w K mg base 1 "_law_lands" PP_119 f__law_lands [] := by
  obtain ⟨fd, F⟩ := Z.says.def_ 87 (d := dd_119) rfl
  exact ⟨⟨_, fd, [], [], gl_ok Z (i := 87) rfl, F.kp, F.bindsN fun _ _ _ _ _ _ us hl => match us, hl with | [_, _], _ => rfl, .nil, fn_ok (k := 0) (N := NN_119) (b := b__law_lands) F S_119 fun cdv A outer s H E hr => (sss_one (ss_ret (se_add se_var (se_ix se_var (se_mod (se_int1 ⟨rfl, n_int Z⟩ se_var) (se_len ⟨rfl, n_len Z⟩ se_var))))))⟩, ar_fn⟩
theorem c__law_lands (Z : Zed w K mg base) : Cal PG0 w K mg base 1 "_law_lands" PP_119 g_lands_by [] := (c__law_lands_0 Z).le le_law_lands
def NN_120 : List Str := ["_law_throws_here", "_law_size", "_law_found", "_law_i", "_law_j"]
def PP_120 : List Str := ["_law_throws_here"]
theorem S_120 : FnScope NN_120 PP_120 (defScope (top 120)) := ⟨rfl, rfl, rfl, by decide +kernel, rfl, by decide +kernel, by decide +kernel⟩
theorem c__law_depth (Z : Zed w K mg base) : Cal PG0 w K mg base 2 "_law_depth" PP_120 f__law_depth [] := by
  obtain ⟨fd, F⟩ := Z.says.def_ 88 (d := dd_120) rfl
  exact ⟨⟨_, fd, [], [], gl_ok Z (i := 88) rfl, F.kp, F.bindsN fun _ _ _ _ _ _ us hl => match us, hl with | [_], _ => rfl, .nil, fn_ok (k := 1) (N := NN_120) (b := b__law_depth) F S_120 fun cdv A outer s H E hr => (sss_cons (ss_par rfl (se_len ⟨rfl, n_len Z⟩ se_var) se_int S_120.nd) (sss_cons (ss_for PassesOwn.never rfl (si_r1 ⟨rfl, n_range Z⟩ se_var) (sg_name S_120.nd) (sss_one (ss_for PassesOwn.never rfl (si_r2 ⟨rfl, n_range Z⟩ (se_add se_var se_int) (se_add se_var se_var)) (sg_name S_120.nd) (sss_one (ss_if (sb_gt (se_call (c__law_lands Z) hr (by decide) (sa_cons se_var (sa_cons se_var sa_nil))) (se_call (c__law_lands Z) hr (by decide) (sa_cons se_var (sa_cons se_var sa_nil)))) (sss_one (ss_set (se_add se_var se_int) S_120.nd)) sss_nil))))) (sss_one (ss_ret se_var))))⟩, ar_fn⟩
def NN_121 : List Str := ["_law_feed", "_law_size", "_law_left_ones", "_law_found", "_law_lap", "_law_k", "_law_one"]
def PP_121 : List Str := ["_law_feed", "_law_size"]
theorem S_121 : FnScope NN_121 PP_121 (defScope (top 121)) := ⟨rfl, rfl, rfl, by decide +kernel, rfl, by decide +kernel, by decide +kernel⟩
theorem c__law_order (Z : Zed w K mg base) : Cal PG0 w K mg base 2 "_law_order" PP_121 f__law_order [] := by
  obtain ⟨fd, F⟩ := Z.says.def_ 89 (d := dd_121) rfl
  exact ⟨⟨_, fd, [], [], gl_ok Z (i := 89) rfl, F.kp, F.bindsN fun _ _ _ _ _ _ us hl => match us, hl with | [_, _], _ => rfl, .nil, fn_ok (k := 1) (N := NN_121) (b := b__law_order) F S_121 fun cdv A outer s H E hr => (sss_cons (ss_par rfl (se_lstRg0 rfl ⟨rfl, n_list Z⟩ ⟨rfl, n_range Z⟩ se_var) (se_newL sa_nil) S_121.nd) (sss_cons (ss_for PassesOwn.never rfl (si_r1 ⟨rfl, n_range Z⟩ se_var) (sg_name S_121.nd) (sss_cons (ss_set (se_ix se_var (se_call (c__law_draw Z) hr (by decide) (sa_cons se_var (sa_cons (se_len ⟨rfl, n_len Z⟩ se_var) sa_nil)))) S_121.nd) (sss_cons (ss_lc1 rfl S_121.nd (own := [("_law_one", 6)]) (by exact blkOk_by (N := NN_121) (sc := defScope (top 121)) (by decide +kernel)) (si_val se_var) (fun s H C cl fp => (sg_name S_121.nd)) (fun s H C cl fp => (sb_ne hr.units se_var se_var)) (fun s H C cl fp => se_var)) (sss_one (ss_app se_var se_var))))) (sss_one (ss_ret se_var))))⟩, ar_fn⟩
def NN_122 : List Str := ["_law_feed", "_law_size", "_law_found", "_law_i", "_law_place"]
def PP_122 : List Str := ["_law_feed", "_law_size"]
theorem S_122 : FnScope NN_122 PP_122 (defScope (top 122)) := ⟨rfl, rfl, rfl, by decide +kernel, rfl, by decide +kernel, by decide +kernel⟩
theorem c__law_pattern (Z : Zed w K mg base) : Cal PG0 w K mg base 3 "_law_pattern" PP_122 f__law_pattern [] := by
  obtain ⟨fd, F⟩ := Z.says.def_ 90 (d := dd_122) rfl
  exact ⟨⟨_, fd, [], [], gl_ok Z (i := 90) rfl, F.kp, F.bindsN fun _ _ _ _ _ _ us hl => match us, hl with | [_, _], _ => rfl, .nil, fn_ok (k := 2) (N := NN_122) (b := b__law_pattern) F S_122 fun cdv A outer s H E hr => (sss_cons (ss_set (se_newL sa_nil) S_122.nd) (sss_cons (ss_for PassesOwn.never rfl (si_enum ⟨rfl, n_enumerate Z⟩ (se_call (c__law_order Z) hr (by decide) (sa_cons se_var (sa_cons se_var sa_nil)))) (sg_tup rfl (sgs_cons (sgs_cons sgs_nil S_122.nd) S_122.nd)) (sss_one (ss_if (sb_eq hr.units se_var se_var) (sss_one (ss_app se_var (se_mul se_var (se_call (c__law_draw Z) hr (by decide) (sa_cons se_var (sa_cons se_int sa_nil)))))) (sss_one (ss_app se_var (se_mod (se_int1 ⟨rfl, n_int Z⟩ (se_sub se_var se_var)) se_var)))))) (sss_one (ss_ret (se_tupOf ⟨rfl, n_tuple Z⟩ se_var)))))⟩, ar_fn⟩
def NN_123 : List Str := ["_law_throws_here", "_law_i", "_law_j", "_law_size", "_law_found"]
def PP_123 : List Str := ["_law_throws_here", "_law_i", "_law_j"]
theorem S_123 : FnScope NN_123 PP_123 (defScope (top 123)) := ⟨rfl, rfl, rfl, by decide +kernel, rfl, by decide +kernel, by decide +kernel⟩
theorem c__law_swapped_0 (Z : Zed w K mg base) : Cal PG0 w K mg base 2 "_law_swapped" PP_123 f__law_swapped [] := by
  obtain ⟨fd, F⟩ := Z.says.def_ 91 (d := dd_123) rfl
  exact ⟨⟨_, fd, [], [], gl_ok Z (i := 91) rfl, F.kp, F.bindsN fun _ _ _ _ _ _ us hl => match us, hl with | [_, _, _], _ => rfl, .nil, fn_ok (k := 1) (N := NN_123) (b := b__law_swapped) F S_123 fun cdv A outer s H E hr => (sss_cons (ss_par rfl (se_len ⟨rfl, n_len Z⟩ se_var) (se_cellOf ⟨rfl, n_list Z⟩ se_var) S_123.nd) (sss_cons (ss_ix se_var se_var (se_sub (se_call (c__law_lands Z) hr (by decide) (sa_cons se_var (sa_cons se_var sa_nil))) se_var)) (sss_cons (ss_ix se_var (se_mod (se_int1 ⟨rfl, n_int Z⟩ se_var) se_var) (se_sub (se_call (c__law_lands Z) hr (by decide) (sa_cons se_var (sa_cons se_var sa_nil))) se_var)) (sss_one (ss_ret (se_if (sb_w (sw_and (sb_ge (se_min rfl hr.units ⟨rfl, n_min Z⟩ se_var) se_int) (sw_and1 (sb_le (se_max rfl hr.units ⟨rfl, n_max Z⟩ se_var) se_var)))) (se_tupOf ⟨rfl, n_tuple Z⟩ se_var) se_non))))))⟩, ar_fn⟩
theorem c__law_swapped (Z : Zed w K mg base) : Cal PG0 w K mg base 2 "_law_swapped" PP_123 g__law_swapped [] := (c__law_swapped_0 Z).le le_law_swapped
def NN_124 : List Str := ["_law_throws_here", "_law_found", "_law_i", "_law_j"]
def PP_124 : List Str := ["_law_throws_here"]
theorem S_124 : FnScope NN_124 PP_124 (defScope (top 124)) := ⟨rfl, rfl, rfl, by decide +kernel, rfl, by decide +kernel, by decide +kernel⟩
theorem c__law_lowering (Z : Zed w K mg base) : Cal PG0 w K mg base 3 "_law_lowering" PP_124 f__law_lowering [] := by
  obtain ⟨fd, F⟩ := Z.says.def_ 92 (d := dd_124) rfl
  exact ⟨⟨_, fd, [], [], gl_ok Z (i := 92) rfl, F.kp, F.bindsN fun _ _ _ _ _ _ us hl => match us, hl with | [_], _ => rfl, .nil, fn_ok (k := 2) (N := NN_124) (b := b__law_lowering) F S_124 fun cdv A outer s H E hr => (sss_cons (ss_set (se_newL sa_nil) S_124.nd) (sss_cons (ss_for PassesOwn.never rfl (si_r1 ⟨rfl, n_range Z⟩ (se_len ⟨rfl, n_len Z⟩ se_var)) (sg_name S_124.nd) (sss_one (ss_for PassesOwn.never rfl (si_r2 ⟨rfl, n_range Z⟩ (se_add se_var se_int) (se_add se_var (se_len ⟨rfl, n_len Z⟩ se_var))) (sg_name S_124.nd) (sss_one (ss_if (sb_w (sw_and (sb_lt (se_call (c__law_lands Z) hr (by decide) (sa_cons se_var (sa_cons se_var sa_nil))) (se_call (c__law_lands Z) hr (by decide) (sa_cons se_var (sa_cons se_var sa_nil)))) (sw_and1 (sb_notN (se_call (c__law_swapped Z) hr (by decide) (sa_cons se_var (sa_cons se_var (sa_cons se_var sa_nil)))) se_non)))) (sss_one (ss_app se_var (se_tup (sa_cons se_var (sa_cons se_var sa_nil))))) sss_nil))))) (sss_one (ss_ret (se_tupOf ⟨rfl, n_tuple Z⟩ se_var)))))⟩, ar_fn⟩
def NN_125 : List Str := ["_law_one", "_law_other", "_law_s", "_law_n"]
def PP_125 : List Str := ["_law_one", "_law_other"]
theorem S_125 : FnScope NN_125 PP_125 (defScope (top 125)) := ⟨rfl, rfl, rfl, by decide +kernel, rfl, by decide +kernel, by decide +kernel⟩
theorem c__law_is_above (Z : Zed w K mg base) : Cal PG0 w K mg base 2 "_law_is_above" PP_125 f__law_is_above [] := by
  obtain ⟨fd, F⟩ := Z.says.def_ 93 (d := dd_125) rfl
  exact ⟨⟨_, fd, [], [], gl_ok Z (i := 93) rfl, F.kp, F.bindsN fun _ _ _ _ _ _ us hl => match us, hl with | [_, _], _ => rfl, .nil, fn_ok (k := 1) (N := NN_125) (b := b__law_is_above) F S_125 fun cdv A outer s H E hr => (sss_cons (ss_for PassesOwn.never rfl (si_r1 ⟨rfl, n_range Z⟩ (se_len ⟨rfl, n_len Z⟩ se_var)) (sg_name S_125.nd) (sss_one (ss_for PassesOwn.never rfl (si_r1 ⟨rfl, n_range Z⟩ (se_add (se_len ⟨rfl, n_len Z⟩ se_var) se_int)) (sg_name S_125.nd) (sss_one (ss_if (sb_lt (se_callZ (c__law_within Z) hr (by decide) (sa_cons se_var (sa_cons se_var (sa_cons se_var sa_nil)))) (se_callZ (c__law_within Z) hr (by decide) (sa_cons se_var (sa_cons se_var (sa_cons se_var sa_nil))))) (sss_one (ss_ret se_bl)) sss_nil))))) (sss_one (ss_ret se_bl)))⟩, ar_fn⟩
def NN_126 : List Str := ["_law_one", "_law_other", "_law_below", "_law_chain", "_law_here", "_law_deep", "_law_i", "_law_j"]
def PP_126 : List Str := ["_law_one", "_law_other"]
theorem S_126 : FnScope NN_126 PP_126 (defScope (top 126)) := ⟨rfl, rfl, rfl, by decide +kernel, rfl, by decide +kernel, by decide +kernel⟩
theorem c__law_order_right (Z : Zed w K mg base) : Cal PG0 w K mg base 8 "_law_order_right" PP_126 f__law_order_right [] := by
  obtain ⟨fd, F⟩ := Z.says.def_ 94 (d := dd_126) rfl
  exact ⟨⟨_, fd, [], [], gl_ok Z (i := 94) rfl, F.kp, F.bindsN fun _ _ _ _ _ _ us hl => match us, hl with | [_, _], _ => rfl, .nil, fn_ok (k := 7) (N := NN_126) (b := b__law_order_right) F S_126 fun cdv A outer s H E hr => (sss_cons (ss_set (se_not (se_callZ (c__law_is_above Z) hr (by decide) (sa_cons se_var (sa_cons se_var sa_nil)))) S_126.nd) (sss_cons (ss_if (sb_w (sw_or (sb_ne hr.units (se_callZ (c_lies_below Z) hr (by decide) (sa_cons se_var (sa_cons se_var sa_nil))) se_var) (sw_or1 (sb_ne hr.units (se_isN (se_callZ (c_barring_stretch Z) hr (by decide) (sa_cons se_var (sa_cons se_var sa_nil))) se_non) se_var)))) (sss_one (ss_ret se_bl)) sss_nil) (sss_cons (ss_if (sb_ne hr.units (se_callZ (c_lets_below Z) hr (by decide) (sa_cons se_var (sa_cons se_var (sa_cons (se_callZ (c_order_paper Z) hr (by decide) (sa_cons se_var (sa_cons se_var sa_nil))) sa_nil)))) se_var) (sss_one (ss_ret se_bl)) sss_nil) (sss_cons (ss_set (se_callZ (c_chain_to Z) hr (by decide) (sa_cons se_var (sa_cons se_var sa_nil))) S_126.nd) (sss_cons (ss_if (sb_not (sb_val se_var)) (sss_one (ss_ret (se_isN se_var se_non))) sss_nil) (sss_cons (ss_par rfl se_var (se_callZ (c__law_depth Z) hr (by decide) (sa_cons se_var sa_nil)) S_126.nd) (sss_cons (ss_if (sb_ne hr.units (se_len ⟨rfl, n_len Z⟩ se_var) (se_sub (se_callZ (c__law_depth Z) hr (by decide) (sa_cons se_var sa_nil)) se_var)) (sss_one (ss_ret se_bl)) sss_nil) (sss_cons (ss_for PassesOwn.never rfl (si_val se_var) (sg_tup rfl (sgs_cons (sgs_cons sgs_nil S_126.nd) S_126.nd)) (sss_cons (ss_set (se_callZ (c__law_swapped Z) hr (by decide) (sa_cons se_var (sa_cons se_var (sa_cons se_var sa_nil)))) S_126.nd) (sss_cons (ss_if (sb_w (sw_or (sb_isN se_var se_non) (sw_or1 (sb_ne hr.units (se_callZ (c__law_depth Z) hr (by decide) (sa_cons se_var sa_nil)) (se_add se_var se_int))))) (sss_one (ss_ret se_bl)) sss_nil) (sss_one (ss_set (se_add se_var se_int) S_126.nd))))) (sss_one (ss_ret (se_eq hr.units se_var se_var)))))))))))⟩, ar_fn⟩
def NN_127 : List Str := ["_law_feed", "_law_size", "_law_rank_here", "_law_prime", "_law_books", "_law_counts", "_law_book", "_law_throws_here", "_law_every", "_law_numbers", "_law_told", "_law_number", "_law_high", "_law_some", "_law_mine"]
def PP_127 : List Str := ["_law_feed"]
theorem S_127 : FnScope NN_127 PP_127 (defScope (top 127)) := ⟨rfl, rfl, rfl, by decide +kernel, rfl, by decide +kernel, by decide +kernel⟩
theorem c__law_counts_right (Z : Zed w K mg base) : Cal PG0 w K mg base 127 "_law_counts_right" PP_127 f__law_counts_right [] := by
  obtain ⟨fd, F⟩ := Z.says.def_ 95 (d := dd_127) rfl
  exact ⟨⟨_, fd, [], [], gl_ok Z (i := 95) rfl, F.kp, F.bindsN fun _ _ _ _ _ _ us hl => match us, hl with | [_], _ => rfl, .nil, fn_ok (k := 126) (N := NN_127) (b := b__law_counts_right) F S_127 fun cdv A outer s H E hr => (sss_cons (ss_unp rfl (se_ix (se_lst (sa_cons (se_tup (sa_cons se_int (sa_cons se_int (sa_cons se_int sa_nil)))) (sa_cons (se_tup (sa_cons se_int (sa_cons se_int (sa_cons se_int sa_nil)))) (sa_cons (se_tup (sa_cons se_int (sa_cons se_int (sa_cons se_int sa_nil)))) (sa_cons (se_tup (sa_cons se_int (sa_cons se_int (sa_cons se_int sa_nil)))) (sa_cons (se_tup (sa_cons se_int (sa_cons se_int (sa_cons se_int sa_nil)))) (sa_cons (se_tup (sa_cons se_int (sa_cons se_int (sa_cons se_int sa_nil)))) sa_nil))))))) (se_call (c__law_draw Z) hr (by decide) (sa_cons se_var (sa_cons se_int sa_nil)))) (sgs_cons (sgs_cons (sgs_cons sgs_nil S_127.nd) S_127.nd) S_127.nd)) (sss_cons (ss_set (se_listG (c_all_books Z) hr (by decide) ⟨rfl, n_list Z⟩ (sa_cons se_var (sa_cons se_var (sa_cons se_var sa_nil)))) S_127.nd) (sss_cons (ss_if (sb_w (sw_or (sb_ne hr.units (se_len ⟨rfl, n_len Z⟩ se_var) (se_callZ (c_total_count Z) hr (by decide) (sa_cons se_var (sa_cons se_var (sa_cons se_var sa_nil))))) (sw_or1 (sb_ne hr.units (se_sortedSet rfl hr.units ⟨rfl, n_sorted Z⟩ ⟨rfl, n_set Z⟩ se_var) se_var)))) (sss_one (ss_ret se_bl)) sss_nil) (sss_cons (ss_set se_newDT S_127.nd) (sss_cons (ss_for PassesOwn.never rfl (si_val se_var) (sg_name S_127.nd) (sss_cons (ss_set (se_callZ (c__law_throws Z) hr (by decide) (sa_cons se_var sa_nil)) S_127.nd) (sss_one (ss_dput hr.units se_var se_var (se_add (se_get hr.units se_var se_var se_int m2_of) se_int))))) (sss_cons (ss_set (se_listG (c_patterns_of Z) hr (by decide) ⟨rfl, n_list Z⟩ (sa_cons se_var (sa_cons se_var sa_nil))) S_127.nd) (sss_cons (ss_if (sb_w (sw_or (sb_ne hr.units (se_len ⟨rfl, n_len Z⟩ se_var) (se_callZ (c_pattern_count Z) hr (by decide) (sa_cons se_var (sa_cons se_var sa_nil)))) (sw_or1 (sb_ne hr.units (se_lcK rfl S_127.nd (own := [("_law_throws_here", 7)]) (by exact blkOk_by (N := NN_127) (sc := defScope (top 127)) (by decide +kernel)) (fun s H C cl fp => (sg_name S_127.nd)) (fun s H C cl fp => (sb_nin hr.units se_var se_var)) (fun s H C cl fp => se_var)) (se_lst sa_nil))))) (sss_one (ss_ret se_bl)) sss_nil) (sss_cons (ss_for PassesOwn.never rfl (si_val se_var) (sg_name S_127.nd) (sss_cons (ss_par rfl (se_callZ (c_count_polynomial Z) hr (by decide) (sa_cons se_var sa_nil)) se_int S_127.nd) (sss_cons (ss_for PassesOwn.never rfl (si_val (se_rev se_var)) (sg_name S_127.nd) (sss_one (ss_set (se_add (se_mul se_var se_var) se_var) S_127.nd))) (sss_cons (ss_if (sb_w (sw_or (sb_ne hr.units (se_callZ (c_book_count Z) hr (by decide) (sa_cons se_var (sa_cons se_var sa_nil))) (se_get hr.units se_var se_var se_int m2_of)) (sw_or1 (sb_ne hr.units se_var (se_get hr.units se_var se_var se_int m2_of))))) (sss_one (ss_ret se_bl)) sss_nil) (sss_cons (ss_set (se_sub (se_mul se_var (se_sub se_var se_var)) (se_callZ (c__law_depth Z) hr (by decide) (sa_cons se_var sa_nil))) S_127.nd) (sss_one (ss_if (sb_w (sw_or (sb_ne hr.units (se_ix se_var (se_neg se_int)) se_int) (sw_or1 (sb_ne hr.units (se_sub (se_len ⟨rfl, n_len Z⟩ se_var) se_int) se_var)))) (sss_one (ss_ret se_bl)) sss_nil))))))) (sss_cons (ss_set (se_ix se_var (se_call (c__law_draw Z) hr (by decide) (sa_cons se_var (sa_cons (se_len ⟨rfl, n_len Z⟩ se_var) sa_nil)))) S_127.nd) (sss_cons (ss_set (se_listG (c_books_of Z) hr (by decide) ⟨rfl, n_list Z⟩ (sa_cons se_var (sa_cons se_var sa_nil))) S_127.nd) (sss_one (ss_ret (se_and (se_eq hr.units se_var (se_lc1 rfl S_127.nd (own := [("_law_book", 6)]) (by exact blkOk_by (N := NN_127) (sc := defScope (top 127)) (by decide +kernel)) (si_val se_var) (fun s H C cl fp => (sg_name S_127.nd)) (fun s H C cl fp => (sb_eq hr.units (se_callZ (c_pattern_of Z) hr (by decide) (sa_cons se_var sa_nil)) se_var)) (fun s H C cl fp => se_var))) (se_one (se_ne hr.units se_var (se_lst sa_nil))))))))))))))))⟩, ar_fn⟩
def NN_128 : List Str := ["_law_script", "_law_feed", "_law_size", "_law_other", "_law_one", "_law_lap", "_law_swaps", "_law_i", "_law_j", "_law_late"]
def PP_128 : List Str := ["_law_script"]
theorem S_128 : FnScope NN_128 PP_128 (defScope (top 128)) := ⟨rfl, rfl, rfl, by decide +kernel, rfl, by decide +kernel, by decide +kernel⟩
theorem law_ok (Z : Zed w K mg base) {fd : FuncData} (F : FunD K dd_128.name dd_128.qual dd_128.params dd_128.body dd_128.scope (dd_128.dvs K) (dd_128.kws K) (He.fAd K dd_128.at_) fd) : FnR PG0 w K mg base 128 (He.fAd K ("law", none)) fd PP_128 f_law := fn_ok (k := 127) (N := NN_128) (b := b_law) F S_128 fun cdv A outer s H E hr => (sss_cons (ss_set (se_call (c__law_source Z) hr (by decide) (sa_cons se_var sa_nil)) S_128.nd) (sss_cons (ss_set (se_add se_int (se_call (c__law_draw Z) hr (by decide) (sa_cons se_var (sa_cons se_int sa_nil)))) S_128.nd) (sss_cons (ss_set (se_call (c__law_pattern Z) hr (by decide) (sa_cons se_var (sa_cons se_var sa_nil))) S_128.nd) (sss_cons (ss_set se_var S_128.nd) (sss_cons (ss_for PassesOwn.never rfl (si_r1 ⟨rfl, n_range Z⟩ (se_call (c__law_draw Z) hr (by decide) (sa_cons se_var (sa_cons se_int sa_nil)))) (sg_name S_128.nd) (sss_cons (ss_set (se_callZ (c__law_lowering Z) hr (by decide) (sa_cons se_var sa_nil)) S_128.nd) (sss_one (ss_if (sb_ne hr.units se_var (se_tup sa_nil)) (sss_cons (ss_unp rfl (se_ix se_var (se_call (c__law_draw Z) hr (by decide) (sa_cons se_var (sa_cons (se_len ⟨rfl, n_len Z⟩ se_var) sa_nil)))) (sgs_cons (sgs_cons sgs_nil S_128.nd) S_128.nd)) (sss_one (ss_set (se_callZ (c__law_swapped Z) hr (by decide) (sa_cons se_var (sa_cons se_var (sa_cons se_var sa_nil)))) S_128.nd))) sss_nil)))) (sss_cons (ss_if (sb_w (sw_or (sb_ne hr.units (se_callZ (c_lowering_swaps Z) hr (by decide) (sa_cons se_var sa_nil)) (se_callZ (c__law_lowering Z) hr (by decide) (sa_cons se_var sa_nil))) (sw_or1 (sb_ne hr.units (se_callZ (c_depth_of Z) hr (by decide) (sa_cons se_var sa_nil)) (se_callZ (c__law_depth Z) hr (by decide) (sa_cons se_var sa_nil)))))) (sss_one (ss_ret se_bl)) sss_nil) (sss_cons (ss_if (sb_ne hr.units (se_callZ (c__law_lowering Z) hr (by decide) (sa_cons se_var sa_nil)) (se_tup sa_nil)) (sss_cons (ss_unp rfl (se_ix (se_callZ (c__law_lowering Z) hr (by decide) (sa_cons se_var sa_nil)) se_int) (sgs_cons (sgs_cons sgs_nil S_128.nd) S_128.nd)) (sss_one (ss_if (sb_ne hr.units (se_callZ (c_swapped Z) hr (by decide) (sa_cons se_var (sa_cons se_var (sa_cons se_var sa_nil)))) (se_callZ (c__law_swapped Z) hr (by decide) (sa_cons se_var (sa_cons se_var (sa_cons se_var sa_nil))))) (sss_one (ss_ret se_bl)) sss_nil))) sss_nil) (sss_cons (ss_if (sb_w (sw_or (sb_not (sb_val (se_callZ (c__law_order_right Z) hr (by decide) (sa_cons se_var (sa_cons se_var sa_nil))))) (sw_or1 (sb_notB (se_callZ (c_lies_below Z) hr (by decide) (sa_cons se_var (sa_cons se_var sa_nil))) se_bl)))) (sss_one (ss_ret se_bl)) sss_nil) (sss_cons (ss_set (se_call (c__law_pattern Z) hr (by decide) (sa_cons se_var (sa_cons se_var sa_nil))) S_128.nd) (sss_cons (ss_if (sb_w (sw_and (sb_eq hr.units (se_sum rfl ⟨rfl, n_sum Z⟩ se_var) (se_sum rfl ⟨rfl, n_sum Z⟩ se_var)) (sw_and1 (sb_not (sb_val (se_callZ (c__law_order_right Z) hr (by decide) (sa_cons se_var (sa_cons se_var sa_nil)))))))) (sss_one (ss_ret se_bl)) sss_nil) (sss_one (ss_ret (se_and (se_eq hr.units (se_mul (se_callZ (c_balls_of Z) hr (by decide) (sa_cons se_var sa_nil)) se_var) (se_sum rfl ⟨rfl, n_sum Z⟩ se_var)) (se_one (se_call (c__law_counts_right Z) hr (by decide) (sa_cons se_var sa_nil))))))))))))))))
end
end K93
end
section
set_option Elab.async false
set_option linter.all false
set_option maxRecDepth 100000
set_option maxHeartbeats 0
/-! K93End: the law's row from the plain law. -/
namespace K93
open PySem PySem.Spec PyProof.Rows L2 Ev
theorem start_sp {K : Kx} {H : Hp} {a : Addr} {ns : List Int} (plain : ∃ h, f_law [.lst (ns.map Va.int)] [] = some (.bl true, h)) (hS : SqL K.k H a (ns.map V.int)) : spOf K 1 f_law [.ref a] H (fun v _ => v = .bl true) fun _ _ _ => False := by
  obtain ⟨h, e⟩ := plain
  refine ⟨⟨[], []⟩, [], [.lst (ns.map Va.int)], .bl true, h, rfl, .cons (.inl (.lst (ys := ns.map V.int) ?_ (se_gtup.ints_rp ns))) .nil, ⟨rfl, List.nodup_nil, fun n a c e => by simp at e, fun a ha => by simp at ha⟩, e, fun ρ' H' x _ _ r => r.bl⟩
  rcases hS with h | h
  · exact .inl ⟨⟨by simp, by simp⟩, h⟩
  · exact .inr h
end K93
open PySem PySem.W PySem.Calls PyProof.Rows
theorem k93_of (plain : ∀ ns : List Int, ns.length ≤ 63 → ∃ h, Ev.f_law [.lst (ns.map Ev.Va.int)] [] = some (.bl true, h)) : PySem.Challenge.rw_throwshelves_k93_whole_counts_and_the_or.Holds := by
  w_on; o_law
  refine HandSHeadRun.head_any (r := OpenLaw.row PySem.Challenge.rw_throwshelves_k93_whole_counts_and_the_or) (q := view (OpenLaw.row PySem.Challenge.rw_throwshelves_k93_whole_counts_and_the_or).prog [128]) (H := K93.hk) (ob := K93.ob) (M := 6000) (loose := K93.loose) (d := HandSHeadRun.topDef (OpenLaw.row PySem.Challenge.rw_throwshelves_k93_whole_counts_and_the_or).prog 128) (kwd := []) K93.ob_eq
    (by kernel_rfl) (fun s => by kernel_rfl) K93.run (by kernel_rfl) (by kernel_rfl) (by kernel_rfl) (by rfl) (by first | assumption | decide +kernel) (by decide +kernel) ⟨rfl, rfl, rfl, rfl, rfl, by decide +kernel⟩ ?hw ?hc
  case hw => w_witness2
  case hc =>
    refine L2.walk_ofE (l := PySem.Challenge.rw_throwshelves_k93_whole_counts_and_the_or) (n := 63) (k := 128) (x := "_law_script") (CX := L2.CX0) rfl (by decide) (by kernel_rfl) ⟨rfl, by decide, by decide⟩ ?F (fun _ _ _ _ z => z)
    intro w mg fa h Y G hmg0
    obtain ⟨K, KX, c, cx⟩ := Y
    have hmg : mg ("law" : PySem.Str) = some (.ref fa) := by
      have e : (HandSHeadRun.topDef (OpenLaw.row PySem.Challenge.rw_throwshelves_k93_whole_counts_and_the_or).prog 128).name = ("law" : PySem.Str) := by kernel_rfl
      rw [← e]
      exact hmg0
    obtain ⟨fd, F⟩ := c.def_ 96 (d := K93.dd_128) rfl
    have ef : mg ("law" : PySem.Str) = some (.ref (He.fAd K ("law", none))) := He.glo_ok KX G (c.fact 96 (f := .glo "law") rfl)
    have efa : fa = He.fAd K ("law", none) := by
      rw [hmg] at ef
      cases ef
      rfl
    have hb := L2.FunD.bindsA (ps := ["_law_script"]) F fun _ _ _ _ _ _ us hl => match us, hl with | [_], _ => rfl
    refine ⟨K, fd, Ev.spOf ⟨K, K93.PG0, w⟩ 1 Ev.f_law, KX, fun s v => hb s [v] rfl, fun H a ns hl _ hS => K93.start_sp (plain ns hl) hS, fun base hB hN => ?_⟩
    subst efa
    exact K93.law_ok ⟨⟨h, KX, G⟩, c, cx⟩ F
end
theorem PySem.Challenge.cw_throwshelves_k93_whole_counts_and_the_or_holds : PySem.Challenge.rw_throwshelves_k93_whole_counts_and_the_or.Holds := by
  exact k93_of EvP.plain
